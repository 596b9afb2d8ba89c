/- The machine side of FnExactSaveDecision: what each function that it reaches computes, and that the machine's call gives just that. -/
import Derived.Test.YtmgfklmhelabcaaGreatQFnExactSaveDecisionx0
import Derived.Test.YtmgfklmhelabcaaGreatQFnExactSaveDecisionx2
import Derived.Test.YtmgfklmhelabcaaGreatQFnExactSaveDecisionx3
import Derived.Test.YtmgfklmhelabcaaGreatQFnExactSaveDecisionx4
namespace Go.Proofs.YtmgfklmhelabcaaGreat.QFnExactSaveDecision
open Go.RowKit Go.Proofs.YtmgfklmhelabcaaGreatW.PrintWords Go.Proofs.YtmgfklmhelabcaaGreatW.PrintLast Go.Proofs.YtmgfklmhelabcaaGreatW.PrintMore
attribute [local go_sem] max2_int min2_int max_two min_two max_three min_three max_four min_four
set_option maxHeartbeats 8000000
set_option maxRecDepth 100000
open Go.Proofs.YtmgfklmhelabcaaGreatM
set_option linter.unusedVariables false
set_option linter.unusedSimpArgs false
mutual
def spec_l15Valid.l0 : Nat → Int → Int → Int → Int → List (S172) → Option (Bool)
 | 0, _, _, _, _, _ => none
 | k + 1, x3, x304000, x304001, x304002, x304003 => if x3 < (x304003.length : Int) then (if 0 ≤ x3 then ((spec_l15Valid.f k ((rd_T172 x304003 x3).f0) ((rd_T172 x304003 x3).f1) ((rd_T172 x304003 x3).f2) ((rd_T172 x304003 x3).f3)).bind fun t306 => (if t306 = true then (spec_l15Valid.l0 k (wrap64 (x3 + 1)) x304000 x304001 x304002 x304003) else (some false))) else (none)) else (some true)
def spec_l15Valid.f : Nat → Int → Int → Int → List (S172) → Option (Bool)
 | 0, _, _, _, _ => none
 | k + 1, a0_0, a0_1, a0_2, l0_3 => (spec_l15Node.f a0_0 a0_1 a0_2 l0_3).bind fun t304 => (if t304 = true then (spec_l15Valid.l0 k 0 a0_0 a0_1 a0_2 l0_3) else (some false))
end
theorem spec_l15Valid.calls (k : Nat) : ∀ (a0_0 : Int) (a0_1 : Int) (a0_2 : Int) (A0_3 : Option Addr) (c0_3 : Nat) (l0_3 : List (S172)) (r : Bool) (w : World) (hr0_3 : Kd.C k172 w A0_3 l0_3.length l0_3) (hc0_3 : l0_3.length ≤ c0_3) (h : spec_l15Valid.f k a0_0 a0_1 a0_2 l0_3 = some r),
  Calls Tryz.prog 365 #[.agg #[.int .i64 a0_0, .int .i64 a0_1, .int .i64 a0_2, .slice A0_3 l0_3.length c0_3]] w fun e w' => e = .returned (.bool r) ∧ Below w.heap.size w w' := by
 induction k using Nat.strongRecOn with
 | _ k ih =>
 intro a0_0 a0_1 a0_2 A0_3 c0_3 l0_3 r w hr0_3 hc0_3 h
 cases k with
 | zero => exact absurd h (by simp [spec_l15Valid.f])
 | succ k =>
 simp only [spec_l15Valid.f] at h
 have HR0_3 := Aside0.mk hr0_3
 have HC0_3 := Aside0.mk hc0_3
 clear hr0_3 hc0_3
 have HB := Aside0.mk (Below.refl w.heap.size w)
 have H := h
 clear h
 have hu172 := Tryz.underlying172
 go_enter Tryz.func365, Tryz.ntmps365
 replace H := Aside0.mk H
 go_upto_region 1 with (first | ((with_reducible refine gate_dst (N := 1) rfl ?_); refine box_event ?hg (N := 1) ?hd (cs := #[.int .i64 a0_0, .int .i64 a0_1, .int .i64 a0_2, .slice A0_3 l0_3.length c0_3]) (t := 172) ?hr ?_; (case hd => rfl); (case hg => rfl); (case hr => first | (go_simp; done) | (go_simp; rfl)); intro gb1 hg W1 hbox hb; replace HB := bH HB hb; clear hb; have BK1 := Aside0.mk hbox; have c_BK1 := blk_cell hbox; have z_BK1 := blk_frozen hbox; clear hg hbox))
 replace H := H.out
 replace H := obs H
 obtain ⟨t304, hm, H⟩ := H
 (try dsimp only at H)
 replace H := Aside0.mk H
 have hcall := spec_l15Node.calls _ _ _ _ _ _ _ W1 (Kd.C_below HR0_3.out HB.out) HC0_3.out hm
 clear hm
 (go_wp2_with fail)
 refine hcall.mono ?_
 rintro e W2 ⟨rfl, hb⟩
 clear hcall
 replace BK1 := bK BK1 hb; replace c_BK1 := bcl BK1; replace z_BK1 := bfr BK1
 replace HB := bH HB hb; clear hb
 replace H := ifD H.out; rcases H with ⟨c3, H⟩ | ⟨c3, H⟩
 rotate_left
 ·replace c3 := nT c3
  subst c3
  cases H
  go_wp2
  go_ret
  exact ⟨rfl, HB.out⟩
 subst c3
 replace H := Aside0.mk H
 go_wp2
 go_loopg [3] k (fun kq v3 w' => ∃ (x3_4 : Int), v3 = .int .i64 x3_4 ∧ Aside0 (spec_l15Valid.l0 kq x3_4 a0_0 a0_1 a0_2 l0_3 = some r) ∧ Aside0 (kq ≤ k) ∧ Aside0 (w'.heap[gb1]? = some (.cells #[.int .i64 a0_0, .int .i64 a0_1, .int .i64 a0_2, .slice A0_3 l0_3.length c0_3] 172 (0, 0))) ∧ Aside0 (Below w.heap.size w w'))
 case atStart => exact ⟨(0), zT, H, ⟨Nat.le_refl _⟩, BK1, HB⟩
 case round =>
  clear H HB BK1 c_BK1 z_BK1
  obtain ⟨x3_4, rfl, HA, Hk4, BK1, HB⟩ := hrel
  have c_BK1 := bcl BK1; have z_BK1 := bfr BK1
  cases gk with
  | zero => exact absurd HA.out (by simp [spec_l15Valid.l0])
  | succ k4 =>
   have H := HA.out; clear HA; simp only [spec_l15Valid.l0] at H; replace H := ifD H; rcases H with ⟨c5, H⟩ | ⟨c5, H⟩; rotate_left
   ·have c5_0 := decF c5; replace c5 := Aside0.mk c5; (try rw [c5_0]); cases H; go_wp2; go_ret; exact ⟨rfl, HB.out⟩
   have c5_0 := decT c5; replace c5 := Aside0.mk c5; (try rw [c5_0]); replace H := ifN H; obtain ⟨c6, H⟩ := H; have c6_0 := decT c6; replace c6 := Aside0.mk c6; (try rw [c6_0]); have p305 : 0 ≤ (x3_4 : Int) := (of_decide_eq_true (by assumption)); have q305 : x3_4 < (l0_3.length : Int) := (of_decide_eq_true (by assumption)); obtain ⟨ad305, A305_3, c305_3, e305, hx305_0, hx305_1, hx305_2, hx305_3, hl305_3, hi305_3⟩ := at_T172 HR0_3.out x3_4 p305 q305; cases e305; have HR305_3 := Aside0.mk hi305_3; have HC305_3 := Aside0.mk hl305_3; clear hi305_3 hl305_3; replace hx305_0 := Aside0.mk hx305_0; have y305_0 := xC HB hx305_0; replace hx305_1 := Aside0.mk hx305_1; have y305_1 := xC HB hx305_1; replace hx305_2 := Aside0.mk hx305_2; have y305_2 := xC HB hx305_2; replace hx305_3 := Aside0.mk hx305_3; have y305_3 := xC HB hx305_3; have r305 := eq_true p305; have s305 := eq_true q305; replace p305 := Aside0.mk p305; replace q305 := Aside0.mk q305; replace H := obs H; obtain ⟨t306, hm, H⟩ := H; (try dsimp only at H); replace H := Aside0.mk H; have hcall := ih k4 (by have := Hk4.out; omega) _ _ _ _ _ _ _ wr (Kd.C_below HR305_3.out HB.out) HC305_3.out hm; clear hm; (go_wp2_with fail)
   refine hcall.mono ?_; rintro e W7 ⟨rfl, hb⟩; clear hcall; (try clear y305_0 y305_1 y305_2 y305_3); replace BK1 := bK BK1 hb; replace c_BK1 := bcl BK1; replace z_BK1 := bfr BK1; replace HB := bH HB hb; clear hb; replace H := ifD H.out; rcases H with ⟨c8, H⟩ | ⟨c8, H⟩; rotate_left
   ·replace c8 := nT c8; subst c8; cases H; go_wp2; go_ret; exact ⟨rfl, HB.out⟩
   subst c8; replace H := Aside0.mk H; go_wp2; go_roundg k4
   case measure => have := Hk4.out; omega
   case rel => exact ⟨(wrap64 (x3_4 + 1)), zT, H, ⟨by have := Hk4.out; omega⟩, BK1, HB⟩
def spec_IsCond.f (k : Nat) (a0_0 : Int) (a0_1 : Int) (a0_2 : Int) (l0_3 : List (S172)) : Option (Bool) := (spec_l15Left.f k a0_0 a0_1 a0_2 l0_3 15).bind fun t308 => (if t308 ≥ 0 then ((spec_l15Valid.f k a0_0 a0_1 a0_2 l0_3).bind fun t309 => (some t309)) else (some false))
theorem spec_IsCond.calls (k : Nat) (a0_0 : Int) (a0_1 : Int) (a0_2 : Int) (A0_3 : Option Addr) (c0_3 : Nat) (l0_3 : List (S172)) (r : Bool) (w : World) (hr0_3 : Kd.C k172 w A0_3 l0_3.length l0_3) (hc0_3 : l0_3.length ≤ c0_3) (h : spec_IsCond.f k a0_0 a0_1 a0_2 l0_3 = some r) :
  Calls Tryz.prog 318 #[.agg #[.int .i64 a0_0, .int .i64 a0_1, .int .i64 a0_2, .slice A0_3 l0_3.length c0_3]] w fun e w' => e = .returned (.bool r) ∧ Below w.heap.size w w' := by
 have HR0_3 := Aside0.mk hr0_3
 have HC0_3 := Aside0.mk hc0_3
 clear hr0_3 hc0_3
 have HB := Aside0.mk (Below.refl w.heap.size w)
 have H := h
 clear h
 unfold spec_IsCond.f at H
 have hu172 := Tryz.underlying172
 go_enter Tryz.func318, Tryz.ntmps318
 replace H := Aside0.mk H
 go_upto_region 1 with (first | ((with_reducible refine gate_dst (N := 1) rfl ?_); refine box_event ?hg (N := 1) ?hd (cs := #[.int .i64 a0_0, .int .i64 a0_1, .int .i64 a0_2, .slice A0_3 l0_3.length c0_3]) (t := 172) ?hr ?_; (case hd => rfl); (case hg => rfl); (case hr => first | (go_simp; done) | (go_simp; rfl)); intro gb1 hg W1 hbox hb; replace HB := bH HB hb; clear hb; have BK1 := Aside0.mk hbox; have c_BK1 := blk_cell hbox; have z_BK1 := blk_frozen hbox; clear hg hbox))
 replace H := H.out
 replace H := obs H
 obtain ⟨t308, hm, H⟩ := H
 (try dsimp only at H)
 replace H := Aside0.mk H
 have hcall := spec_l15Left.calls k _ _ _ _ _ _ _ _ W1 (Kd.C_below HR0_3.out HB.out) HC0_3.out hm
 clear hm
 (go_wp2_with fail)
 refine hcall.mono ?_
 rintro e W2 ⟨rfl, hb⟩
 clear hcall
 replace BK1 := bK BK1 hb; replace c_BK1 := bcl BK1; replace z_BK1 := bfr BK1
 replace HB := bH HB hb; clear hb
 replace H := ifD H.out; rcases H with ⟨c3, H⟩ | ⟨c3, H⟩
 rotate_left
 ·replace c3 : ¬ (0 ≤ t308) := c3
  have c3_0 := decF c3
  replace c3 := Aside0.mk c3
  (try rw [c3_0])
  cases H
  go_wp2
  go_ret
  exact ⟨rfl, HB.out⟩
 replace c3 : 0 ≤ t308 := c3
 have c3_0 := decT c3
 replace c3 := Aside0.mk c3
 (try rw [c3_0])
 replace H := obs H
 obtain ⟨t309, hm, H⟩ := H
 (try dsimp only at H)
 replace H := Aside0.mk H
 have hcall := spec_l15Valid.calls k _ _ _ _ _ _ _ W2 (Kd.C_below HR0_3.out HB.out) HC0_3.out hm
 clear hm
 (go_wp2_with fail)
 refine hcall.mono ?_
 rintro e W4 ⟨rfl, hb⟩
 clear hcall
 replace BK1 := bK BK1 hb; replace c_BK1 := bcl BK1; replace z_BK1 := bfr BK1
 replace HB := bH HB hb; clear hb
 replace H := H.out
 cases H
 go_wp2
 go_ret
 exact ⟨rfl, HB.out⟩
def spec_IsRule.f (k : Nat) (a0_0 : Int) (a0_1 : Int) (a0_2 : Int) (a0_3 : Int) (a0_4 : Int) (a0_5 : Int) (l0_6 : List (S172)) : Option (Bool) := (spec_l1In.f a0_0 0 1).bind fun t311 => (if t311 = true then ((spec_l1In.f a0_1 (-1) 5).bind fun t312 => (if t312 = true then (if a0_2 = (-1) then ((spec_IsCond.f k a0_3 a0_4 a0_5 l0_6).bind fun t313 => (some t313)) else ((spec_HasKind.f a0_2 4).bind fun t314 => (if t314 = true then ((spec_IsCond.f k a0_3 a0_4 a0_5 l0_6).bind fun t315 => (some t315)) else (some false)))) else (some false))) else (some false))
theorem spec_IsRule.calls (k : Nat) (a0_0 : Int) (a0_1 : Int) (a0_2 : Int) (a0_3 : Int) (a0_4 : Int) (a0_5 : Int) (A0_6 : Option Addr) (c0_6 : Nat) (l0_6 : List (S172)) (r : Bool) (w : World) (hr0_6 : Kd.C k172 w A0_6 l0_6.length l0_6) (hc0_6 : l0_6.length ≤ c0_6) (h : spec_IsRule.f k a0_0 a0_1 a0_2 a0_3 a0_4 a0_5 l0_6 = some r) :
  Calls Tryz.prog 225 #[.agg #[.int .i64 a0_0, .int .i64 a0_1, .int .i64 a0_2, .int .i64 a0_3, .int .i64 a0_4, .int .i64 a0_5, .slice A0_6 l0_6.length c0_6]] w fun e w' => e = .returned (.bool r) ∧ Below w.heap.size w w' := by
 have HR0_6 := Aside0.mk hr0_6
 have HC0_6 := Aside0.mk hc0_6
 clear hr0_6 hc0_6
 have HB := Aside0.mk (Below.refl w.heap.size w)
 have H := h
 clear h
 unfold spec_IsRule.f at H
 have hu172 := Tryz.underlying172
 have hu174 := Tryz.underlying174
 go_enter Tryz.func225, Tryz.ntmps225
 replace H := Aside0.mk H
 go_upto_region 1 with (first | ((with_reducible refine gate_dst (N := 1) rfl ?_); refine box_event ?hg (N := 1) ?hd (cs := #[.int .i64 a0_0, .int .i64 a0_1, .int .i64 a0_2, .int .i64 a0_3, .int .i64 a0_4, .int .i64 a0_5, .slice A0_6 l0_6.length c0_6]) (t := 174) ?hr ?_; (case hd => rfl); (case hg => rfl); (case hr => first | (go_simp; done) | (go_simp; rfl)); intro gb1 hg W1 hbox hb; replace HB := bH HB hb; clear hb; have BK1 := Aside0.mk hbox; have c_BK1 := blk_cell hbox; have z_BK1 := blk_frozen hbox; clear hg hbox))
 replace H := H.out
 replace H := obs H
 obtain ⟨t311, hm, H⟩ := H
 (try dsimp only at H)
 replace H := Aside0.mk H
 have hcall := spec_l1In.calls _ _ _ _ W1  hm
 clear hm
 (go_wp2_with fail)
 refine hcall.mono ?_
 rintro e W2 ⟨rfl, hb⟩
 clear hcall
 replace BK1 := bK BK1 hb; replace c_BK1 := bcl BK1; replace z_BK1 := bfr BK1
 replace HB := bH HB hb; clear hb
 replace H := ifD H.out; rcases H with ⟨c3, H⟩ | ⟨c3, H⟩
 rotate_left
 ·replace c3 := nT c3
  subst c3
  cases H
  go_wp2
  go_ret
  exact ⟨rfl, HB.out⟩
 subst c3
 replace H := obs H
 obtain ⟨t312, hm, H⟩ := H
 (try dsimp only at H)
 replace H := Aside0.mk H
 have hcall := spec_l1In.calls _ _ _ _ W2  hm
 clear hm
 (go_wp2_with fail)
 refine hcall.mono ?_
 rintro e W4 ⟨rfl, hb⟩
 clear hcall
 replace BK1 := bK BK1 hb; replace c_BK1 := bcl BK1; replace z_BK1 := bfr BK1
 replace HB := bH HB hb; clear hb
 replace H := ifD H.out; rcases H with ⟨c5, H⟩ | ⟨c5, H⟩
 rotate_left
 ·replace c5 := nT c5
  subst c5
  cases H
  go_wp2
  go_ret
  exact ⟨rfl, HB.out⟩
 subst c5
 replace H := ifD H; rcases H with ⟨c6, H⟩ | ⟨c6, H⟩
 ·obtain ⟨c6_0, c6_1, c6_2⟩ := d3T c6
  clear c6
  (first | rw [c6_1] | rw [c6_2] | skip)
  replace H := obs H
  obtain ⟨t313, hm, H⟩ := H
  (try dsimp only at H)
  replace H := Aside0.mk H
  have hcall := spec_IsCond.calls k _ _ _ _ _ _ _ W4 (Kd.C_below HR0_6.out HB.out) HC0_6.out hm
  clear hm
  (go_wp2_with fail)
  refine hcall.mono ?_
  rintro e W7 ⟨rfl, hb⟩
  clear hcall
  replace BK1 := bK BK1 hb; replace c_BK1 := bcl BK1; replace z_BK1 := bfr BK1
  replace HB := bH HB hb; clear hb
  replace H := H.out
  cases H
  go_wp2
  go_ret
  exact ⟨rfl, HB.out⟩
 obtain ⟨c6_0, c6_1, c6_2⟩ := d3F c6
 clear c6
 (first | rw [c6_1] | rw [c6_2] | skip)
 replace H := obs H
 obtain ⟨t314, hm, H⟩ := H
 (try dsimp only at H)
 replace H := Aside0.mk H
 have hcall := spec_HasKind.calls _ _ _ W4  hm
 clear hm
 (go_wp2_with fail)
 refine hcall.mono ?_
 rintro e W8 ⟨rfl, hb⟩
 clear hcall
 replace BK1 := bK BK1 hb; replace c_BK1 := bcl BK1; replace z_BK1 := bfr BK1
 replace HB := bH HB hb; clear hb
 replace H := ifD H.out; rcases H with ⟨c9, H⟩ | ⟨c9, H⟩
 rotate_left
 ·replace c9 := nT c9
  subst c9
  cases H
  go_wp2
  go_ret
  exact ⟨rfl, HB.out⟩
 subst c9
 replace H := obs H
 obtain ⟨t315, hm, H⟩ := H
 (try dsimp only at H)
 replace H := Aside0.mk H
 have hcall := spec_IsCond.calls k _ _ _ _ _ _ _ W8 (Kd.C_below HR0_6.out HB.out) HC0_6.out hm
 clear hm
 (go_wp2_with fail)
 refine hcall.mono ?_
 rintro e W10 ⟨rfl, hb⟩
 clear hcall
 replace BK1 := bK BK1 hb; replace c_BK1 := bcl BK1; replace z_BK1 := bfr BK1
 replace HB := bH HB hb; clear hb
 replace H := H.out
 cases H
 go_wp2
 go_ret
 exact ⟨rfl, HB.out⟩
def spec_IsPolicy.l0 : Nat → Int → Int → List (S174) → Option (Bool)
 | 0, _, _, _ => none
 | k + 1, x3, x317000, x317001 => if x3 < (x317001.length : Int) then (if 0 ≤ x3 then ((spec_IsRule.f k ((rd_T174 x317001 x3).f0) ((rd_T174 x317001 x3).f1) ((rd_T174 x317001 x3).f2) ((rd_T174 x317001 x3).f3.f0) ((rd_T174 x317001 x3).f3.f1) ((rd_T174 x317001 x3).f3.f2) ((rd_T174 x317001 x3).f3.f3)).bind fun t318 => (if t318 = true then (spec_IsPolicy.l0 k (wrap64 (x3 + 1)) x317000 x317001) else (some false))) else (none)) else ((spec_l1In.f x317000 0 999).bind fun t319 => (if t319 = true then (some (decide ((x317001.length : Int) ≤ 8))) else (some false)))
def spec_IsPolicy.f (k : Nat) (a0_0 : Int) (l0_1 : List (S174)) : Option (Bool) := spec_IsPolicy.l0 k 0 a0_0 l0_1
theorem spec_IsPolicy.calls (k : Nat) (a0_0 : Int) (A0_1 : Option Addr) (c0_1 : Nat) (l0_1 : List (S174)) (r : Bool) (w : World) (hr0_1 : Kd.C k174 w A0_1 l0_1.length l0_1) (hc0_1 : l0_1.length ≤ c0_1) (h : spec_IsPolicy.f k a0_0 l0_1 = some r) :
  Calls Tryz.prog 92 #[.agg #[.int .i64 a0_0, .slice A0_1 l0_1.length c0_1]] w fun e w' => e = .returned (.bool r) ∧ Below w.heap.size w w' := by
 have HR0_1 := Aside0.mk hr0_1
 have HC0_1 := Aside0.mk hc0_1
 clear hr0_1 hc0_1
 have HB := Aside0.mk (Below.refl w.heap.size w)
 have H := h
 clear h
 unfold spec_IsPolicy.f at H
 have hu39 := Tryz.underlying39
 have hu174 := Tryz.underlying174
 go_enter Tryz.func92, Tryz.ntmps92
 replace H := Aside0.mk H
 go_upto_region 1 with (first | ((with_reducible refine gate_dst (N := 1) rfl ?_); refine box_event ?hg (N := 1) ?hd (cs := #[.int .i64 a0_0, .slice A0_1 l0_1.length c0_1]) (t := 39) ?hr ?_; (case hd => rfl); (case hg => rfl); (case hr => first | (go_simp; done) | (go_simp; rfl)); intro gb1 hg W1 hbox hb; replace HB := bH HB hb; clear hb; have BK1 := Aside0.mk hbox; have c_BK1 := blk_cell hbox; have z_BK1 := blk_frozen hbox; clear hg hbox))
 go_wp2
 go_loopg [3] k (fun kq v3 w' => ∃ (x3_2 : Int), v3 = .int .i64 x3_2 ∧ Aside0 (spec_IsPolicy.l0 kq x3_2 a0_0 l0_1 = some r) ∧ Aside0 (kq ≤ k) ∧ Aside0 (w'.heap[gb1]? = some (.cells #[.int .i64 a0_0, .slice A0_1 l0_1.length c0_1] 39 (0, 0))) ∧ Aside0 (Below w.heap.size w w'))
 case atStart => exact ⟨(0), zT, H, ⟨Nat.le_refl _⟩, BK1, HB⟩
 case round =>
  clear H HB BK1 c_BK1 z_BK1
  obtain ⟨x3_2, rfl, HA, Hk2, BK1, HB⟩ := hrel
  have c_BK1 := bcl BK1; have z_BK1 := bfr BK1
  cases gk with
  | zero => exact absurd HA.out (by simp [spec_IsPolicy.l0])
  | succ k2 =>
   have H := HA.out; clear HA; simp only [spec_IsPolicy.l0] at H; replace H := ifD H; rcases H with ⟨c3, H⟩ | ⟨c3, H⟩; rotate_left
   ·have c3_0 := decF c3; replace c3 := Aside0.mk c3; (try rw [c3_0]); replace H := obs H; obtain ⟨t319, hm, H⟩ := H; (try dsimp only at H); replace H := Aside0.mk H; have hcall := spec_l1In.calls _ _ _ _ wr  hm; clear hm; (go_wp2_with fail)
    refine hcall.mono ?_; rintro e W7 ⟨rfl, hb⟩; clear hcall; replace BK1 := bK BK1 hb; replace c_BK1 := bcl BK1; replace z_BK1 := bfr BK1; replace HB := bH HB hb; clear hb; replace H := ifD H.out; rcases H with ⟨c8, H⟩ | ⟨c8, H⟩
    ·subst c8; cases H; go_wp2; go_ret; exact ⟨rfl, HB.out⟩
    replace c8 := nT c8; subst c8; cases H; go_wp2; go_ret; exact ⟨rfl, HB.out⟩
   have c3_0 := decT c3; replace c3 := Aside0.mk c3; (try rw [c3_0]); replace H := ifN H; obtain ⟨c4, H⟩ := H; have c4_0 := decT c4; replace c4 := Aside0.mk c4; (try rw [c4_0]); have p317 : 0 ≤ (x3_2 : Int) := (of_decide_eq_true (by assumption)); have q317 : x3_2 < (l0_1.length : Int) := (of_decide_eq_true (by assumption)); obtain ⟨ad317, A317_6, c317_6, e317, hx317_0, hx317_1, hx317_2, hx317_3, hx317_4, hx317_5, hx317_6, hl317_6, hi317_6⟩ := at_T174 HR0_1.out x3_2 p317 q317; cases e317; have HR317_6 := Aside0.mk hi317_6; have HC317_6 := Aside0.mk hl317_6; clear hi317_6 hl317_6; replace hx317_0 := Aside0.mk hx317_0; have y317_0 := xC HB hx317_0; replace hx317_1 := Aside0.mk hx317_1; have y317_1 := xC HB hx317_1; replace hx317_2 := Aside0.mk hx317_2; have y317_2 := xC HB hx317_2; replace hx317_3 := Aside0.mk hx317_3; have y317_3 := xC HB hx317_3; replace hx317_4 := Aside0.mk hx317_4; have y317_4 := xC HB hx317_4; replace hx317_5 := Aside0.mk hx317_5; have y317_5 := xC HB hx317_5; replace hx317_6 := Aside0.mk hx317_6; have y317_6 := xC HB hx317_6; have r317 := eq_true p317; have s317 := eq_true q317; replace p317 := Aside0.mk p317; replace q317 := Aside0.mk q317; replace H := obs H; obtain ⟨t318, hm, H⟩ := H; (try dsimp only at H); replace H := Aside0.mk H; have hcall := spec_IsRule.calls k2 _ _ _ _ _ _ _ _ _ _ wr (Kd.C_below HR317_6.out HB.out) HC317_6.out hm; clear hm; (go_wp2_with fail)
   refine hcall.mono ?_; rintro e W5 ⟨rfl, hb⟩; clear hcall; (try clear y317_0 y317_1 y317_2 y317_3 y317_4 y317_5 y317_6); replace BK1 := bK BK1 hb; replace c_BK1 := bcl BK1; replace z_BK1 := bfr BK1; replace HB := bH HB hb; clear hb; replace H := ifD H.out; rcases H with ⟨c6, H⟩ | ⟨c6, H⟩; rotate_left
   ·replace c6 := nT c6; subst c6; cases H; go_wp2; go_ret; exact ⟨rfl, HB.out⟩
   subst c6; replace H := Aside0.mk H; go_wp2; go_roundg k2
   case measure => have := Hk2.out; omega
   case rel => exact ⟨(wrap64 (x3_2 + 1)), zT, H, ⟨by have := Hk2.out; omega⟩, BK1, HB⟩
def spec_IsFor.f (a0_0 : Int) (a0_1 : Int) (a0_2 : Int) (a0_3 : Int) (a0_4 : Int) (a0_5 : Int) (l0_6 : List (S172)) (a1 : Int) (a2 : Int) : Option (Bool) := if a0_1 = (-1) then (if a0_2 = (-1) then (some true) else (some (a0_2 == a2))) else (if a0_1 = a1 then (if a0_2 = (-1) then (some true) else (some (a0_2 == a2))) else (some false))
theorem spec_IsFor.calls (a0_0 : Int) (a0_1 : Int) (a0_2 : Int) (a0_3 : Int) (a0_4 : Int) (a0_5 : Int) (A0_6 : Option Addr) (c0_6 : Nat) (l0_6 : List (S172)) (a1 : Int) (a2 : Int) (r : Bool) (w : World) (hr0_6 : Kd.C k172 w A0_6 l0_6.length l0_6) (hc0_6 : l0_6.length ≤ c0_6) (h : spec_IsFor.f a0_0 a0_1 a0_2 a0_3 a0_4 a0_5 l0_6 a1 a2 = some r) :
  Calls Tryz.prog 319 #[.agg #[.int .i64 a0_0, .int .i64 a0_1, .int .i64 a0_2, .int .i64 a0_3, .int .i64 a0_4, .int .i64 a0_5, .slice A0_6 l0_6.length c0_6], .int .i64 a1, .int .i64 a2] w fun e w' => e = .returned (.bool r) ∧ Below w.heap.size w w' := by
 have HR0_6 := Aside0.mk hr0_6
 have HC0_6 := Aside0.mk hc0_6
 clear hr0_6 hc0_6
 have HB := Aside0.mk (Below.refl w.heap.size w)
 have H := h
 clear h
 unfold spec_IsFor.f at H
 have hu174 := Tryz.underlying174
 go_enter Tryz.func319, Tryz.ntmps319
 replace H := Aside0.mk H
 go_upto_region 1 with (first | ((with_reducible refine gate_dst (N := 3) rfl ?_); refine box_event ?hg (N := 3) ?hd (cs := #[.int .i64 a0_0, .int .i64 a0_1, .int .i64 a0_2, .int .i64 a0_3, .int .i64 a0_4, .int .i64 a0_5, .slice A0_6 l0_6.length c0_6]) (t := 174) ?hr ?_; (case hd => rfl); (case hg => rfl); (case hr => first | (go_simp; done) | (go_simp; rfl)); intro gb1 hg W1 hbox hb; replace HB := bH HB hb; clear hb; have BK1 := Aside0.mk hbox; have c_BK1 := blk_cell hbox; have z_BK1 := blk_frozen hbox; clear hg hbox))
 replace H := ifD H.out; rcases H with ⟨c2, H⟩ | ⟨c2, H⟩
 ·obtain ⟨c2_0, c2_1, c2_2⟩ := d3T c2
  clear c2
  (first | rw [c2_1] | rw [c2_2] | skip)
  replace H := ifD H; rcases H with ⟨c3, H⟩ | ⟨c3, H⟩
  ·obtain ⟨c3_0, c3_1, c3_2⟩ := d3T c3; clear c3; (first | rw [c3_1] | rw [c3_2] | skip); cases H; go_wp2; go_ret; exact ⟨rfl, HB.out⟩
  obtain ⟨c3_0, c3_1, c3_2⟩ := d3F c3
  clear c3
  (first | rw [c3_1] | rw [c3_2] | skip)
  cases H
  go_wp2
  go_ret
  exact ⟨rfl, HB.out⟩
 obtain ⟨c2_0, c2_1, c2_2⟩ := d3F c2
 clear c2
 (first | rw [c2_1] | rw [c2_2] | skip)
 replace H := ifD H; rcases H with ⟨c4, H⟩ | ⟨c4, H⟩
 rotate_left
 ·obtain ⟨c4_0, c4_1, c4_2⟩ := d3F c4
  clear c4
  (first | rw [c4_1] | rw [c4_2] | skip)
  cases H
  go_wp2
  go_ret
  exact ⟨rfl, HB.out⟩
 obtain ⟨c4_0, c4_1, c4_2⟩ := d3T c4
 clear c4
 (first | rw [c4_1] | rw [c4_2] | skip)
 replace H := ifD H; rcases H with ⟨c5, H⟩ | ⟨c5, H⟩
 ·obtain ⟨c5_0, c5_1, c5_2⟩ := d3T c5
  clear c5
  (first | rw [c5_1] | rw [c5_2] | skip)
  cases H
  go_wp2
  go_ret
  exact ⟨rfl, HB.out⟩
 obtain ⟨c5_0, c5_1, c5_2⟩ := d3F c5
 clear c5
 (first | rw [c5_1] | rw [c5_2] | skip)
 cases H
 go_wp2
 go_ret
 exact ⟨rfl, HB.out⟩
def spec_l13Has.l0 : Nat → List Int → Int → Int → Option (Bool)
 | 0, _, _, _ => none
 | k + 1, x0, x1, x5 => if x5 < (x0.length : Int) then (if 0 ≤ x5 then (if (rd x0 x5) = x1 then (some true) else (spec_l13Has.l0 k x0 x1 (wrap64 (x5 + 1)))) else (none)) else (some false)
def spec_l13Has.f (k : Nat) (l0 : List Int) (a1 : Int) : Option (Bool) := spec_l13Has.l0 k l0 a1 0
theorem spec_l13Has.calls (k : Nat) (A0 : Option Addr) (c0 : Nat) (l0 : List Int) (a1 : Int) (r : Bool) (w : World) (hr0 : Kd.C (Kd.int .i64) w A0 l0.length l0) (hc0 : l0.length ≤ c0) (h : spec_l13Has.f k l0 a1 = some r) :
  Calls Tryz.prog 337 #[.slice A0 l0.length c0, .int .i64 a1] w fun e w' => e = .returned (.bool r) ∧ Below w.heap.size w w' := by
 have HR0 := Aside0.mk hr0
 have HC0 := Aside0.mk hc0
 clear hr0 hc0
 have HB := Aside0.mk (Below.refl w.heap.size w)
 have H := h
 clear h
 unfold spec_l13Has.f at H
 go_enter Tryz.func337, Tryz.ntmps337
 replace H := Aside0.mk H
 go_wp2
 go_loopg [5] k (fun kq v5 w' => ∃ (x5_1 : Int), v5 = .int .i64 x5_1 ∧ Aside0 (spec_l13Has.l0 kq l0 a1 x5_1 = some r) ∧ Aside0 (kq ≤ k) ∧ Aside0 (Below w.heap.size w w'))
 case atStart => exact ⟨(0), zT, H, ⟨Nat.le_refl _⟩, HB⟩
 case round =>
  clear H HB 
  obtain ⟨x5_1, rfl, HA, Hk1, HB⟩ := hrel
  cases gk with
  | zero => exact absurd HA.out (by simp [spec_l13Has.l0])
  | succ k1 =>
   have H := HA.out; clear HA; simp only [spec_l13Has.l0] at H; replace H := ifD H; rcases H with ⟨c2, H⟩ | ⟨c2, H⟩; rotate_left
   ·have c2_0 := decF c2; replace c2 := Aside0.mk c2; (try rw [c2_0]); cases H; go_wp2; go_ret; exact ⟨rfl, HB.out⟩
   have c2_0 := decT c2; replace c2 := Aside0.mk c2; (try rw [c2_0]); replace H := ifN H; obtain ⟨c3, H⟩ := H; have c3_0 := decT c3; replace c3 := Aside0.mk c3; (try rw [c3_0]); have p321 : 0 ≤ (x5_1 : Int) := (of_decide_eq_true (by assumption)); have q321 : x5_1 < (l0.length : Int) := (of_decide_eq_true (by assumption)); obtain ⟨ad321, e321, hx321_0⟩ := Kd.at_int HR0.out x5_1 p321 q321; cases e321; replace hx321_0 := Aside0.mk hx321_0; have y321_0 := xC HB hx321_0; have r321 := eq_true p321; have s321 := eq_true q321; replace p321 := Aside0.mk p321; replace q321 := Aside0.mk q321; replace H := ifD H; rcases H with ⟨c4, H⟩ | ⟨c4, H⟩
   ·obtain ⟨c4_0, c4_1, c4_2⟩ := d3T c4; clear c4; (first | rw [c4_1] | rw [c4_2] | skip); cases H; go_wp2; go_ret; exact ⟨rfl, HB.out⟩
   obtain ⟨c4_0, c4_1, c4_2⟩ := d3F c4; clear c4; (first | rw [c4_1] | rw [c4_2] | skip); replace H := Aside0.mk H; go_wp2; go_roundg k1
   case measure => have := Hk1.out; omega
   case rel => exact ⟨(wrap64 (x5_1 + 1)), zT, H, ⟨by have := Hk1.out; omega⟩, HB⟩
end Go.Proofs.YtmgfklmhelabcaaGreat.QFnExactSaveDecision
