/- The machine side of FnExactDecisionUntil: what each function that it reaches computes, and that the machine's call gives just that. -/
import Derived.Test.YtmgfklmhelabcaaGreatQFnExactDecisionUntilx0
import Derived.Test.YtmgfklmhelabcaaGreatQFnExactDecisionUntilx1
import Derived.Test.YtmgfklmhelabcaaGreatQFnExactDecisionUntilx2
namespace Go.Proofs.YtmgfklmhelabcaaGreat.QFnExactDecisionUntil
open Go.RowKit Go.Proofs.YtmgfklmhelabcaaGreatW.PrintWords Go.Proofs.YtmgfklmhelabcaaGreatW.PrintLast Go.Proofs.YtmgfklmhelabcaaGreatW.PrintMore
attribute [local go_sem] max2_int min2_int max_two min_two max_three min_three max_four min_four
set_option maxHeartbeats 8000000
set_option maxRecDepth 100000
open Go.Proofs.YtmgfklmhelabcaaGreatM
set_option linter.unusedVariables false
set_option linter.unusedSimpArgs false
mutual
def spec_l15Valid.l0 : Nat → Int → Int → Int → Int → List (S172) → Option (Bool)
 | 0, _, _, _, _, _ => none
 | k + 1, x3, x150000, x150001, x150002, x150003 => if x3 < (x150003.length : Int) then (if 0 ≤ x3 then ((spec_l15Valid.f k ((rd_T172 x150003 x3).f0) ((rd_T172 x150003 x3).f1) ((rd_T172 x150003 x3).f2) ((rd_T172 x150003 x3).f3)).bind fun t152 => (if t152 = true then (spec_l15Valid.l0 k (wrap64 (x3 + 1)) x150000 x150001 x150002 x150003) else (some false))) else (none)) else (some true)
def spec_l15Valid.f : Nat → Int → Int → Int → List (S172) → Option (Bool)
 | 0, _, _, _, _ => none
 | k + 1, a0_0, a0_1, a0_2, l0_3 => (spec_l15Node.f a0_0 a0_1 a0_2 l0_3).bind fun t150 => (if t150 = true then (spec_l15Valid.l0 k 0 a0_0 a0_1 a0_2 l0_3) else (some false))
end
theorem spec_l15Valid.calls (k : Nat) : ∀ (a0_0 : Int) (a0_1 : Int) (a0_2 : Int) (A0_3 : Option Addr) (c0_3 : Nat) (l0_3 : List (S172)) (r : Bool) (w : World) (hr0_3 : Kd.C k172 w A0_3 l0_3.length l0_3) (hc0_3 : l0_3.length ≤ c0_3) (h : spec_l15Valid.f k a0_0 a0_1 a0_2 l0_3 = some r),
  Calls Tryz.prog 365 #[.agg #[.int .i64 a0_0, .int .i64 a0_1, .int .i64 a0_2, .slice A0_3 l0_3.length c0_3]] w fun e w' => e = .returned (.bool r) ∧ Below w.heap.size w w' := by
 induction k using Nat.strongRecOn with
 | _ k ih =>
 intro a0_0 a0_1 a0_2 A0_3 c0_3 l0_3 r w hr0_3 hc0_3 h
 cases k with
 | zero => exact absurd h (by simp [spec_l15Valid.f])
 | succ k =>
 simp only [spec_l15Valid.f] at h
 have HR0_3 := Aside0.mk hr0_3
 have HC0_3 := Aside0.mk hc0_3
 clear hr0_3 hc0_3
 have HB := Aside0.mk (Below.refl w.heap.size w)
 have H := h
 clear h
 have hu172 := Tryz.underlying172
 go_enter Tryz.func365, Tryz.ntmps365
 replace H := Aside0.mk H
 go_upto_region 1 with (first | ((with_reducible refine gate_dst (N := 1) rfl ?_); refine box_event ?hg (N := 1) ?hd (cs := #[.int .i64 a0_0, .int .i64 a0_1, .int .i64 a0_2, .slice A0_3 l0_3.length c0_3]) (t := 172) ?hr ?_; (case hd => rfl); (case hg => rfl); (case hr => first | (go_simp; done) | (go_simp; rfl)); intro gb1 hg W1 hbox hb; replace HB := bH HB hb; clear hb; have BK1 := Aside0.mk hbox; have c_BK1 := blk_cell hbox; have z_BK1 := blk_frozen hbox; clear hg hbox))
 replace H := H.out
 replace H := obs H
 obtain ⟨t150, hm, H⟩ := H
 (try dsimp only at H)
 replace H := Aside0.mk H
 have hcall := spec_l15Node.calls _ _ _ _ _ _ _ W1 (Kd.C_below HR0_3.out HB.out) HC0_3.out hm
 clear hm
 (go_wp2_with fail)
 refine hcall.mono ?_
 rintro e W2 ⟨rfl, hb⟩
 clear hcall
 replace BK1 := bK BK1 hb; replace c_BK1 := bcl BK1; replace z_BK1 := bfr BK1
 replace HB := bH HB hb; clear hb
 replace H := ifD H.out; rcases H with ⟨c3, H⟩ | ⟨c3, H⟩
 rotate_left
 ·replace c3 := nT c3
  subst c3
  cases H
  go_wp2
  go_ret
  exact ⟨rfl, HB.out⟩
 subst c3
 replace H := Aside0.mk H
 go_wp2
 go_loopg [3] k (fun kq v3 w' => ∃ (x3_4 : Int), v3 = .int .i64 x3_4 ∧ Aside0 (spec_l15Valid.l0 kq x3_4 a0_0 a0_1 a0_2 l0_3 = some r) ∧ Aside0 (kq ≤ k) ∧ Aside0 (w'.heap[gb1]? = some (.cells #[.int .i64 a0_0, .int .i64 a0_1, .int .i64 a0_2, .slice A0_3 l0_3.length c0_3] 172 (0, 0))) ∧ Aside0 (Below w.heap.size w w'))
 case atStart => exact ⟨(0), (by first | rfl | (simp; done) | (simp [*]; done)), H, ⟨Nat.le_refl _⟩, BK1, HB⟩
 case round =>
  clear H HB BK1 c_BK1 z_BK1
  obtain ⟨x3_4, rfl, HA, Hk4, BK1, HB⟩ := hrel
  have c_BK1 := bcl BK1; have z_BK1 := bfr BK1
  cases gk with
  | zero => exact absurd HA.out (by simp [spec_l15Valid.l0])
  | succ k4 =>
   have H := HA.out; clear HA; simp only [spec_l15Valid.l0] at H; replace H := ifD H; rcases H with ⟨c5, H⟩ | ⟨c5, H⟩; rotate_left
   ·have c5_0 := decF c5; replace c5 := Aside0.mk c5; (try rw [c5_0]); cases H; go_wp2; go_ret; exact ⟨rfl, HB.out⟩
   have c5_0 := decT c5; replace c5 := Aside0.mk c5; (try rw [c5_0]); replace H := ifN H; obtain ⟨c6, H⟩ := H; have c6_0 := decT c6; replace c6 := Aside0.mk c6; (try rw [c6_0]); have p151 : 0 ≤ (x3_4 : Int) := (of_decide_eq_true (by assumption)); have q151 : x3_4 < (l0_3.length : Int) := (of_decide_eq_true (by assumption)); obtain ⟨ad151, A151_3, c151_3, e151, hx151_0, hx151_1, hx151_2, hx151_3, hl151_3, hi151_3⟩ := at_T172 HR0_3.out x3_4 p151 q151; cases e151; have HR151_3 := Aside0.mk hi151_3; have HC151_3 := Aside0.mk hl151_3; clear hi151_3 hl151_3; replace hx151_0 := Aside0.mk hx151_0; have y151_0 := xC HB hx151_0; replace hx151_1 := Aside0.mk hx151_1; have y151_1 := xC HB hx151_1; replace hx151_2 := Aside0.mk hx151_2; have y151_2 := xC HB hx151_2; replace hx151_3 := Aside0.mk hx151_3; have y151_3 := xC HB hx151_3; have r151 := eq_true p151; have s151 := eq_true q151; replace p151 := Aside0.mk p151; replace q151 := Aside0.mk q151; replace H := obs H; obtain ⟨t152, hm, H⟩ := H; (try dsimp only at H); replace H := Aside0.mk H; have hcall := ih k4 (by have := Hk4.out; omega) _ _ _ _ _ _ _ wr (Kd.C_below HR151_3.out HB.out) HC151_3.out hm; clear hm; (go_wp2_with fail)
   refine hcall.mono ?_; rintro e W7 ⟨rfl, hb⟩; clear hcall; (try clear y151_0 y151_1 y151_2 y151_3); replace BK1 := bK BK1 hb; replace c_BK1 := bcl BK1; replace z_BK1 := bfr BK1; replace HB := bH HB hb; clear hb; replace H := ifD H.out; rcases H with ⟨c8, H⟩ | ⟨c8, H⟩; rotate_left
   ·replace c8 := nT c8; subst c8; cases H; go_wp2; go_ret; exact ⟨rfl, HB.out⟩
   subst c8; replace H := Aside0.mk H; go_wp2; go_roundg k4
   case measure => have := Hk4.out; omega
   case rel => exact ⟨(wrap64 (x3_4 + 1)), (by first | rfl | (simp; done) | (simp [*]; done)), H, ⟨by have := Hk4.out; omega⟩, BK1, HB⟩
def spec_IsCond.f (k : Nat) (a0_0 : Int) (a0_1 : Int) (a0_2 : Int) (l0_3 : List (S172)) : Option (Bool) := (spec_l15Left.f k a0_0 a0_1 a0_2 l0_3 15).bind fun t154 => (if t154 ≥ 0 then ((spec_l15Valid.f k a0_0 a0_1 a0_2 l0_3).bind fun t155 => (some t155)) else (some false))
theorem spec_IsCond.calls (k : Nat) (a0_0 : Int) (a0_1 : Int) (a0_2 : Int) (A0_3 : Option Addr) (c0_3 : Nat) (l0_3 : List (S172)) (r : Bool) (w : World) (hr0_3 : Kd.C k172 w A0_3 l0_3.length l0_3) (hc0_3 : l0_3.length ≤ c0_3) (h : spec_IsCond.f k a0_0 a0_1 a0_2 l0_3 = some r) :
  Calls Tryz.prog 318 #[.agg #[.int .i64 a0_0, .int .i64 a0_1, .int .i64 a0_2, .slice A0_3 l0_3.length c0_3]] w fun e w' => e = .returned (.bool r) ∧ Below w.heap.size w w' := by
 have HR0_3 := Aside0.mk hr0_3
 have HC0_3 := Aside0.mk hc0_3
 clear hr0_3 hc0_3
 have HB := Aside0.mk (Below.refl w.heap.size w)
 have H := h
 clear h
 unfold spec_IsCond.f at H
 have hu172 := Tryz.underlying172
 go_enter Tryz.func318, Tryz.ntmps318
 replace H := Aside0.mk H
 go_upto_region 1 with (first | ((with_reducible refine gate_dst (N := 1) rfl ?_); refine box_event ?hg (N := 1) ?hd (cs := #[.int .i64 a0_0, .int .i64 a0_1, .int .i64 a0_2, .slice A0_3 l0_3.length c0_3]) (t := 172) ?hr ?_; (case hd => rfl); (case hg => rfl); (case hr => first | (go_simp; done) | (go_simp; rfl)); intro gb1 hg W1 hbox hb; replace HB := bH HB hb; clear hb; have BK1 := Aside0.mk hbox; have c_BK1 := blk_cell hbox; have z_BK1 := blk_frozen hbox; clear hg hbox))
 replace H := H.out
 replace H := obs H
 obtain ⟨t154, hm, H⟩ := H
 (try dsimp only at H)
 replace H := Aside0.mk H
 have hcall := spec_l15Left.calls k _ _ _ _ _ _ _ _ W1 (Kd.C_below HR0_3.out HB.out) HC0_3.out hm
 clear hm
 (go_wp2_with fail)
 refine hcall.mono ?_
 rintro e W2 ⟨rfl, hb⟩
 clear hcall
 replace BK1 := bK BK1 hb; replace c_BK1 := bcl BK1; replace z_BK1 := bfr BK1
 replace HB := bH HB hb; clear hb
 replace H := ifD H.out; rcases H with ⟨c3, H⟩ | ⟨c3, H⟩
 rotate_left
 ·replace c3 : ¬ (0 ≤ t154) := c3
  have c3_0 := decF c3
  replace c3 := Aside0.mk c3
  (try rw [c3_0])
  cases H
  go_wp2
  go_ret
  exact ⟨rfl, HB.out⟩
 replace c3 : 0 ≤ t154 := c3
 have c3_0 := decT c3
 replace c3 := Aside0.mk c3
 (try rw [c3_0])
 replace H := obs H
 obtain ⟨t155, hm, H⟩ := H
 (try dsimp only at H)
 replace H := Aside0.mk H
 have hcall := spec_l15Valid.calls k _ _ _ _ _ _ _ W2 (Kd.C_below HR0_3.out HB.out) HC0_3.out hm
 clear hm
 (go_wp2_with fail)
 refine hcall.mono ?_
 rintro e W4 ⟨rfl, hb⟩
 clear hcall
 replace BK1 := bK BK1 hb; replace c_BK1 := bcl BK1; replace z_BK1 := bfr BK1
 replace HB := bH HB hb; clear hb
 replace H := H.out
 cases H
 go_wp2
 go_ret
 exact ⟨rfl, HB.out⟩
def spec_IsRule.f (k : Nat) (a0_0 : Int) (a0_1 : Int) (a0_2 : Int) (a0_3 : Int) (a0_4 : Int) (a0_5 : Int) (l0_6 : List (S172)) : Option (Bool) := (spec_l1In.f a0_0 0 1).bind fun t157 => (if t157 = true then ((spec_l1In.f a0_1 (-1) 5).bind fun t158 => (if t158 = true then (if a0_2 = (-1) then ((spec_IsCond.f k a0_3 a0_4 a0_5 l0_6).bind fun t159 => (some t159)) else ((spec_HasKind.f a0_2 4).bind fun t160 => (if t160 = true then ((spec_IsCond.f k a0_3 a0_4 a0_5 l0_6).bind fun t161 => (some t161)) else (some false)))) else (some false))) else (some false))
theorem spec_IsRule.calls (k : Nat) (a0_0 : Int) (a0_1 : Int) (a0_2 : Int) (a0_3 : Int) (a0_4 : Int) (a0_5 : Int) (A0_6 : Option Addr) (c0_6 : Nat) (l0_6 : List (S172)) (r : Bool) (w : World) (hr0_6 : Kd.C k172 w A0_6 l0_6.length l0_6) (hc0_6 : l0_6.length ≤ c0_6) (h : spec_IsRule.f k a0_0 a0_1 a0_2 a0_3 a0_4 a0_5 l0_6 = some r) :
  Calls Tryz.prog 225 #[.agg #[.int .i64 a0_0, .int .i64 a0_1, .int .i64 a0_2, .int .i64 a0_3, .int .i64 a0_4, .int .i64 a0_5, .slice A0_6 l0_6.length c0_6]] w fun e w' => e = .returned (.bool r) ∧ Below w.heap.size w w' := by
 have HR0_6 := Aside0.mk hr0_6
 have HC0_6 := Aside0.mk hc0_6
 clear hr0_6 hc0_6
 have HB := Aside0.mk (Below.refl w.heap.size w)
 have H := h
 clear h
 unfold spec_IsRule.f at H
 have hu172 := Tryz.underlying172
 have hu174 := Tryz.underlying174
 go_enter Tryz.func225, Tryz.ntmps225
 replace H := Aside0.mk H
 go_upto_region 1 with (first | ((with_reducible refine gate_dst (N := 1) rfl ?_); refine box_event ?hg (N := 1) ?hd (cs := #[.int .i64 a0_0, .int .i64 a0_1, .int .i64 a0_2, .int .i64 a0_3, .int .i64 a0_4, .int .i64 a0_5, .slice A0_6 l0_6.length c0_6]) (t := 174) ?hr ?_; (case hd => rfl); (case hg => rfl); (case hr => first | (go_simp; done) | (go_simp; rfl)); intro gb1 hg W1 hbox hb; replace HB := bH HB hb; clear hb; have BK1 := Aside0.mk hbox; have c_BK1 := blk_cell hbox; have z_BK1 := blk_frozen hbox; clear hg hbox))
 replace H := H.out
 replace H := obs H
 obtain ⟨t157, hm, H⟩ := H
 (try dsimp only at H)
 replace H := Aside0.mk H
 have hcall := spec_l1In.calls _ _ _ _ W1  hm
 clear hm
 (go_wp2_with fail)
 refine hcall.mono ?_
 rintro e W2 ⟨rfl, hb⟩
 clear hcall
 replace BK1 := bK BK1 hb; replace c_BK1 := bcl BK1; replace z_BK1 := bfr BK1
 replace HB := bH HB hb; clear hb
 replace H := ifD H.out; rcases H with ⟨c3, H⟩ | ⟨c3, H⟩
 rotate_left
 ·replace c3 := nT c3
  subst c3
  cases H
  go_wp2
  go_ret
  exact ⟨rfl, HB.out⟩
 subst c3
 replace H := obs H
 obtain ⟨t158, hm, H⟩ := H
 (try dsimp only at H)
 replace H := Aside0.mk H
 have hcall := spec_l1In.calls _ _ _ _ W2  hm
 clear hm
 (go_wp2_with fail)
 refine hcall.mono ?_
 rintro e W4 ⟨rfl, hb⟩
 clear hcall
 replace BK1 := bK BK1 hb; replace c_BK1 := bcl BK1; replace z_BK1 := bfr BK1
 replace HB := bH HB hb; clear hb
 replace H := ifD H.out; rcases H with ⟨c5, H⟩ | ⟨c5, H⟩
 rotate_left
 ·replace c5 := nT c5
  subst c5
  cases H
  go_wp2
  go_ret
  exact ⟨rfl, HB.out⟩
 subst c5
 replace H := ifD H; rcases H with ⟨c6, H⟩ | ⟨c6, H⟩
 ·obtain ⟨c6_0, c6_1, c6_2⟩ := d3T c6
  clear c6
  (first | rw [c6_1] | rw [c6_2] | skip)
  replace H := obs H
  obtain ⟨t159, hm, H⟩ := H
  (try dsimp only at H)
  replace H := Aside0.mk H
  have hcall := spec_IsCond.calls k _ _ _ _ _ _ _ W4 (Kd.C_below HR0_6.out HB.out) HC0_6.out hm
  clear hm
  (go_wp2_with fail)
  refine hcall.mono ?_
  rintro e W7 ⟨rfl, hb⟩
  clear hcall
  replace BK1 := bK BK1 hb; replace c_BK1 := bcl BK1; replace z_BK1 := bfr BK1
  replace HB := bH HB hb; clear hb
  replace H := H.out
  cases H
  go_wp2
  go_ret
  exact ⟨rfl, HB.out⟩
 obtain ⟨c6_0, c6_1, c6_2⟩ := d3F c6
 clear c6
 (first | rw [c6_1] | rw [c6_2] | skip)
 replace H := obs H
 obtain ⟨t160, hm, H⟩ := H
 (try dsimp only at H)
 replace H := Aside0.mk H
 have hcall := spec_HasKind.calls _ _ _ W4  hm
 clear hm
 (go_wp2_with fail)
 refine hcall.mono ?_
 rintro e W8 ⟨rfl, hb⟩
 clear hcall
 replace BK1 := bK BK1 hb; replace c_BK1 := bcl BK1; replace z_BK1 := bfr BK1
 replace HB := bH HB hb; clear hb
 replace H := ifD H.out; rcases H with ⟨c9, H⟩ | ⟨c9, H⟩
 rotate_left
 ·replace c9 := nT c9
  subst c9
  cases H
  go_wp2
  go_ret
  exact ⟨rfl, HB.out⟩
 subst c9
 replace H := obs H
 obtain ⟨t161, hm, H⟩ := H
 (try dsimp only at H)
 replace H := Aside0.mk H
 have hcall := spec_IsCond.calls k _ _ _ _ _ _ _ W8 (Kd.C_below HR0_6.out HB.out) HC0_6.out hm
 clear hm
 (go_wp2_with fail)
 refine hcall.mono ?_
 rintro e W10 ⟨rfl, hb⟩
 clear hcall
 replace BK1 := bK BK1 hb; replace c_BK1 := bcl BK1; replace z_BK1 := bfr BK1
 replace HB := bH HB hb; clear hb
 replace H := H.out
 cases H
 go_wp2
 go_ret
 exact ⟨rfl, HB.out⟩
def spec_IsPolicy.l0 : Nat → Int → Int → List (S174) → Option (Bool)
 | 0, _, _, _ => none
 | k + 1, x3, x163000, x163001 => if x3 < (x163001.length : Int) then (if 0 ≤ x3 then ((spec_IsRule.f k ((rd_T174 x163001 x3).f0) ((rd_T174 x163001 x3).f1) ((rd_T174 x163001 x3).f2) ((rd_T174 x163001 x3).f3.f0) ((rd_T174 x163001 x3).f3.f1) ((rd_T174 x163001 x3).f3.f2) ((rd_T174 x163001 x3).f3.f3)).bind fun t164 => (if t164 = true then (spec_IsPolicy.l0 k (wrap64 (x3 + 1)) x163000 x163001) else (some false))) else (none)) else ((spec_l1In.f x163000 0 999).bind fun t165 => (if t165 = true then (some (decide ((x163001.length : Int) ≤ 8))) else (some false)))
def spec_IsPolicy.f (k : Nat) (a0_0 : Int) (l0_1 : List (S174)) : Option (Bool) := spec_IsPolicy.l0 k 0 a0_0 l0_1
theorem spec_IsPolicy.calls (k : Nat) (a0_0 : Int) (A0_1 : Option Addr) (c0_1 : Nat) (l0_1 : List (S174)) (r : Bool) (w : World) (hr0_1 : Kd.C k174 w A0_1 l0_1.length l0_1) (hc0_1 : l0_1.length ≤ c0_1) (h : spec_IsPolicy.f k a0_0 l0_1 = some r) :
  Calls Tryz.prog 92 #[.agg #[.int .i64 a0_0, .slice A0_1 l0_1.length c0_1]] w fun e w' => e = .returned (.bool r) ∧ Below w.heap.size w w' := by
 have HR0_1 := Aside0.mk hr0_1
 have HC0_1 := Aside0.mk hc0_1
 clear hr0_1 hc0_1
 have HB := Aside0.mk (Below.refl w.heap.size w)
 have H := h
 clear h
 unfold spec_IsPolicy.f at H
 have hu39 := Tryz.underlying39
 have hu174 := Tryz.underlying174
 go_enter Tryz.func92, Tryz.ntmps92
 replace H := Aside0.mk H
 go_upto_region 1 with (first | ((with_reducible refine gate_dst (N := 1) rfl ?_); refine box_event ?hg (N := 1) ?hd (cs := #[.int .i64 a0_0, .slice A0_1 l0_1.length c0_1]) (t := 39) ?hr ?_; (case hd => rfl); (case hg => rfl); (case hr => first | (go_simp; done) | (go_simp; rfl)); intro gb1 hg W1 hbox hb; replace HB := bH HB hb; clear hb; have BK1 := Aside0.mk hbox; have c_BK1 := blk_cell hbox; have z_BK1 := blk_frozen hbox; clear hg hbox))
 go_wp2
 go_loopg [3] k (fun kq v3 w' => ∃ (x3_2 : Int), v3 = .int .i64 x3_2 ∧ Aside0 (spec_IsPolicy.l0 kq x3_2 a0_0 l0_1 = some r) ∧ Aside0 (kq ≤ k) ∧ Aside0 (w'.heap[gb1]? = some (.cells #[.int .i64 a0_0, .slice A0_1 l0_1.length c0_1] 39 (0, 0))) ∧ Aside0 (Below w.heap.size w w'))
 case atStart => exact ⟨(0), (by first | rfl | (simp; done) | (simp [*]; done)), H, ⟨Nat.le_refl _⟩, BK1, HB⟩
 case round =>
  clear H HB BK1 c_BK1 z_BK1
  obtain ⟨x3_2, rfl, HA, Hk2, BK1, HB⟩ := hrel
  have c_BK1 := bcl BK1; have z_BK1 := bfr BK1
  cases gk with
  | zero => exact absurd HA.out (by simp [spec_IsPolicy.l0])
  | succ k2 =>
   have H := HA.out; clear HA; simp only [spec_IsPolicy.l0] at H; replace H := ifD H; rcases H with ⟨c3, H⟩ | ⟨c3, H⟩; rotate_left
   ·have c3_0 := decF c3; replace c3 := Aside0.mk c3; (try rw [c3_0]); replace H := obs H; obtain ⟨t165, hm, H⟩ := H; (try dsimp only at H); replace H := Aside0.mk H; have hcall := spec_l1In.calls _ _ _ _ wr  hm; clear hm; (go_wp2_with fail)
    refine hcall.mono ?_; rintro e W7 ⟨rfl, hb⟩; clear hcall; replace BK1 := bK BK1 hb; replace c_BK1 := bcl BK1; replace z_BK1 := bfr BK1; replace HB := bH HB hb; clear hb; replace H := ifD H.out; rcases H with ⟨c8, H⟩ | ⟨c8, H⟩
    ·subst c8; cases H; go_wp2; go_ret; exact ⟨rfl, HB.out⟩
    replace c8 := nT c8; subst c8; cases H; go_wp2; go_ret; exact ⟨rfl, HB.out⟩
   have c3_0 := decT c3; replace c3 := Aside0.mk c3; (try rw [c3_0]); replace H := ifN H; obtain ⟨c4, H⟩ := H; have c4_0 := decT c4; replace c4 := Aside0.mk c4; (try rw [c4_0]); have p163 : 0 ≤ (x3_2 : Int) := (of_decide_eq_true (by assumption)); have q163 : x3_2 < (l0_1.length : Int) := (of_decide_eq_true (by assumption)); obtain ⟨ad163, A163_6, c163_6, e163, hx163_0, hx163_1, hx163_2, hx163_3, hx163_4, hx163_5, hx163_6, hl163_6, hi163_6⟩ := at_T174 HR0_1.out x3_2 p163 q163; cases e163; have HR163_6 := Aside0.mk hi163_6; have HC163_6 := Aside0.mk hl163_6; clear hi163_6 hl163_6; replace hx163_0 := Aside0.mk hx163_0; have y163_0 := xC HB hx163_0; replace hx163_1 := Aside0.mk hx163_1; have y163_1 := xC HB hx163_1; replace hx163_2 := Aside0.mk hx163_2; have y163_2 := xC HB hx163_2; replace hx163_3 := Aside0.mk hx163_3; have y163_3 := xC HB hx163_3; replace hx163_4 := Aside0.mk hx163_4; have y163_4 := xC HB hx163_4; replace hx163_5 := Aside0.mk hx163_5; have y163_5 := xC HB hx163_5; replace hx163_6 := Aside0.mk hx163_6; have y163_6 := xC HB hx163_6; have r163 := eq_true p163; have s163 := eq_true q163; replace p163 := Aside0.mk p163; replace q163 := Aside0.mk q163; replace H := obs H; obtain ⟨t164, hm, H⟩ := H; (try dsimp only at H); replace H := Aside0.mk H; have hcall := spec_IsRule.calls k2 _ _ _ _ _ _ _ _ _ _ wr (Kd.C_below HR163_6.out HB.out) HC163_6.out hm; clear hm; (go_wp2_with fail)
   refine hcall.mono ?_; rintro e W5 ⟨rfl, hb⟩; clear hcall; (try clear y163_0 y163_1 y163_2 y163_3 y163_4 y163_5 y163_6); replace BK1 := bK BK1 hb; replace c_BK1 := bcl BK1; replace z_BK1 := bfr BK1; replace HB := bH HB hb; clear hb; replace H := ifD H.out; rcases H with ⟨c6, H⟩ | ⟨c6, H⟩; rotate_left
   ·replace c6 := nT c6; subst c6; cases H; go_wp2; go_ret; exact ⟨rfl, HB.out⟩
   subst c6; replace H := Aside0.mk H; go_wp2; go_roundg k2
   case measure => have := Hk2.out; omega
   case rel => exact ⟨(wrap64 (x3_2 + 1)), (by first | rfl | (simp; done) | (simp [*]; done)), H, ⟨by have := Hk2.out; omega⟩, BK1, HB⟩
def spec_IsFor.f (a0_0 : Int) (a0_1 : Int) (a0_2 : Int) (a0_3 : Int) (a0_4 : Int) (a0_5 : Int) (l0_6 : List (S172)) (a1 : Int) (a2 : Int) : Option (Bool) := if a0_1 = (-1) then (if a0_2 = (-1) then (some true) else (some (a0_2 == a2))) else (if a0_1 = a1 then (if a0_2 = (-1) then (some true) else (some (a0_2 == a2))) else (some false))
theorem spec_IsFor.calls (a0_0 : Int) (a0_1 : Int) (a0_2 : Int) (a0_3 : Int) (a0_4 : Int) (a0_5 : Int) (A0_6 : Option Addr) (c0_6 : Nat) (l0_6 : List (S172)) (a1 : Int) (a2 : Int) (r : Bool) (w : World) (hr0_6 : Kd.C k172 w A0_6 l0_6.length l0_6) (hc0_6 : l0_6.length ≤ c0_6) (h : spec_IsFor.f a0_0 a0_1 a0_2 a0_3 a0_4 a0_5 l0_6 a1 a2 = some r) :
  Calls Tryz.prog 319 #[.agg #[.int .i64 a0_0, .int .i64 a0_1, .int .i64 a0_2, .int .i64 a0_3, .int .i64 a0_4, .int .i64 a0_5, .slice A0_6 l0_6.length c0_6], .int .i64 a1, .int .i64 a2] w fun e w' => e = .returned (.bool r) ∧ Below w.heap.size w w' := by
 have HR0_6 := Aside0.mk hr0_6
 have HC0_6 := Aside0.mk hc0_6
 clear hr0_6 hc0_6
 have HB := Aside0.mk (Below.refl w.heap.size w)
 have H := h
 clear h
 unfold spec_IsFor.f at H
 have hu174 := Tryz.underlying174
 go_enter Tryz.func319, Tryz.ntmps319
 replace H := Aside0.mk H
 go_upto_region 1 with (first | ((with_reducible refine gate_dst (N := 3) rfl ?_); refine box_event ?hg (N := 3) ?hd (cs := #[.int .i64 a0_0, .int .i64 a0_1, .int .i64 a0_2, .int .i64 a0_3, .int .i64 a0_4, .int .i64 a0_5, .slice A0_6 l0_6.length c0_6]) (t := 174) ?hr ?_; (case hd => rfl); (case hg => rfl); (case hr => first | (go_simp; done) | (go_simp; rfl)); intro gb1 hg W1 hbox hb; replace HB := bH HB hb; clear hb; have BK1 := Aside0.mk hbox; have c_BK1 := blk_cell hbox; have z_BK1 := blk_frozen hbox; clear hg hbox))
 replace H := ifD H.out; rcases H with ⟨c2, H⟩ | ⟨c2, H⟩
 ·obtain ⟨c2_0, c2_1, c2_2⟩ := d3T c2
  clear c2
  (first | rw [c2_1] | rw [c2_2] | skip)
  replace H := ifD H; rcases H with ⟨c3, H⟩ | ⟨c3, H⟩
  ·obtain ⟨c3_0, c3_1, c3_2⟩ := d3T c3; clear c3; (first | rw [c3_1] | rw [c3_2] | skip); cases H; go_wp2; go_ret; exact ⟨rfl, HB.out⟩
  obtain ⟨c3_0, c3_1, c3_2⟩ := d3F c3
  clear c3
  (first | rw [c3_1] | rw [c3_2] | skip)
  cases H
  go_wp2
  go_ret
  exact ⟨rfl, HB.out⟩
 obtain ⟨c2_0, c2_1, c2_2⟩ := d3F c2
 clear c2
 (first | rw [c2_1] | rw [c2_2] | skip)
 replace H := ifD H; rcases H with ⟨c4, H⟩ | ⟨c4, H⟩
 rotate_left
 ·obtain ⟨c4_0, c4_1, c4_2⟩ := d3F c4
  clear c4
  (first | rw [c4_1] | rw [c4_2] | skip)
  cases H
  go_wp2
  go_ret
  exact ⟨rfl, HB.out⟩
 obtain ⟨c4_0, c4_1, c4_2⟩ := d3T c4
 clear c4
 (first | rw [c4_1] | rw [c4_2] | skip)
 replace H := ifD H; rcases H with ⟨c5, H⟩ | ⟨c5, H⟩
 ·obtain ⟨c5_0, c5_1, c5_2⟩ := d3T c5
  clear c5
  (first | rw [c5_1] | rw [c5_2] | skip)
  cases H
  go_wp2
  go_ret
  exact ⟨rfl, HB.out⟩
 obtain ⟨c5_0, c5_1, c5_2⟩ := d3F c5
 clear c5
 (first | rw [c5_1] | rw [c5_2] | skip)
 cases H
 go_wp2
 go_ret
 exact ⟨rfl, HB.out⟩
def spec_l13Has.l0 : Nat → List Int → Int → Int → Option (Bool)
 | 0, _, _, _ => none
 | k + 1, x0, x1, x5 => if x5 < (x0.length : Int) then (if 0 ≤ x5 then (if (rd x0 x5) = x1 then (some true) else (spec_l13Has.l0 k x0 x1 (wrap64 (x5 + 1)))) else (none)) else (some false)
def spec_l13Has.f (k : Nat) (l0 : List Int) (a1 : Int) : Option (Bool) := spec_l13Has.l0 k l0 a1 0
theorem spec_l13Has.calls (k : Nat) (A0 : Option Addr) (c0 : Nat) (l0 : List Int) (a1 : Int) (r : Bool) (w : World) (hr0 : Kd.C (Kd.int .i64) w A0 l0.length l0) (hc0 : l0.length ≤ c0) (h : spec_l13Has.f k l0 a1 = some r) :
  Calls Tryz.prog 337 #[.slice A0 l0.length c0, .int .i64 a1] w fun e w' => e = .returned (.bool r) ∧ Below w.heap.size w w' := by
 have HR0 := Aside0.mk hr0
 have HC0 := Aside0.mk hc0
 clear hr0 hc0
 have HB := Aside0.mk (Below.refl w.heap.size w)
 have H := h
 clear h
 unfold spec_l13Has.f at H
 go_enter Tryz.func337, Tryz.ntmps337
 replace H := Aside0.mk H
 go_wp2
 go_loopg [5] k (fun kq v5 w' => ∃ (x5_1 : Int), v5 = .int .i64 x5_1 ∧ Aside0 (spec_l13Has.l0 kq l0 a1 x5_1 = some r) ∧ Aside0 (kq ≤ k) ∧ Aside0 (Below w.heap.size w w'))
 case atStart => exact ⟨(0), (by first | rfl | (simp; done) | (simp [*]; done)), H, ⟨Nat.le_refl _⟩, HB⟩
 case round =>
  clear H HB 
  obtain ⟨x5_1, rfl, HA, Hk1, HB⟩ := hrel
  cases gk with
  | zero => exact absurd HA.out (by simp [spec_l13Has.l0])
  | succ k1 =>
   have H := HA.out; clear HA; simp only [spec_l13Has.l0] at H; replace H := ifD H; rcases H with ⟨c2, H⟩ | ⟨c2, H⟩; rotate_left
   ·have c2_0 := decF c2; replace c2 := Aside0.mk c2; (try rw [c2_0]); cases H; go_wp2; go_ret; exact ⟨rfl, HB.out⟩
   have c2_0 := decT c2; replace c2 := Aside0.mk c2; (try rw [c2_0]); replace H := ifN H; obtain ⟨c3, H⟩ := H; have c3_0 := decT c3; replace c3 := Aside0.mk c3; (try rw [c3_0]); have p167 : 0 ≤ (x5_1 : Int) := (of_decide_eq_true (by assumption)); have q167 : x5_1 < (l0.length : Int) := (of_decide_eq_true (by assumption)); obtain ⟨ad167, e167, hx167_0⟩ := Kd.at_int HR0.out x5_1 p167 q167; cases e167; replace hx167_0 := Aside0.mk hx167_0; have y167_0 := xC HB hx167_0; have r167 := eq_true p167; have s167 := eq_true q167; replace p167 := Aside0.mk p167; replace q167 := Aside0.mk q167; replace H := ifD H; rcases H with ⟨c4, H⟩ | ⟨c4, H⟩
   ·obtain ⟨c4_0, c4_1, c4_2⟩ := d3T c4; clear c4; (first | rw [c4_1] | rw [c4_2] | skip); cases H; go_wp2; go_ret; exact ⟨rfl, HB.out⟩
   obtain ⟨c4_0, c4_1, c4_2⟩ := d3F c4; clear c4; (first | rw [c4_1] | rw [c4_2] | skip); replace H := Aside0.mk H; go_wp2; go_roundg k1
   case measure => have := Hk1.out; omega
   case rel => exact ⟨(wrap64 (x5_1 + 1)), (by first | rfl | (simp; done) | (simp [*]; done)), H, ⟨by have := Hk1.out; omega⟩, HB⟩
end Go.Proofs.YtmgfklmhelabcaaGreat.QFnExactDecisionUntil
