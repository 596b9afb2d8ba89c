/- The machine side of FnExactSaveDecision: what each function that it reaches computes, and that the machine's call gives just that. -/
import Derived.Test.YtmgfklmhelabcaaGreatQFnExactSaveDecisionx0
namespace Go.Proofs.YtmgfklmhelabcaaGreat.QFnExactSaveDecision
open Go.RowKit Go.Proofs.YtmgfklmhelabcaaGreatW.PrintWords Go.Proofs.YtmgfklmhelabcaaGreatW.PrintLast Go.Proofs.YtmgfklmhelabcaaGreatW.PrintMore
attribute [local go_sem] max2_int min2_int max_two min_two max_three min_three max_four min_four
set_option maxHeartbeats 8000000
set_option maxRecDepth 100000
open Go.Proofs.YtmgfklmhelabcaaGreatM
set_option linter.unusedVariables false
set_option linter.unusedSimpArgs false
def laws_szIncludesS.f (l0 : List (S156)) (a1 : Int) : Option (Int) := if (wrap64 (a1 - (l0.length : Int))) < 0 then (some (-1)) else (some (wrap64 (a1 - (l0.length : Int))))
theorem laws_szIncludesS.calls (A0 : Option Addr) (c0 : Nat) (l0 : List (S156)) (a1 : Int) (r : Int) (w : World) (hr0 : Kd.C k156 w A0 l0.length l0) (hc0 : l0.length ≤ c0) (h : laws_szIncludesS.f l0 a1 = some r) :
  Calls Tryz.prog 14 #[.slice A0 l0.length c0, .int .i64 a1] w fun e w' => e = .returned (.int .i64 r) ∧ Below w.heap.size w w' := by
 have HR0 := Aside0.mk hr0
 have HC0 := Aside0.mk hc0
 clear hr0 hc0
 have HB := Aside0.mk (Below.refl w.heap.size w)
 have H := h
 clear h
 unfold laws_szIncludesS.f at H
 go_enter Tryz.func14, Tryz.ntmps14
 replace H := ifD H; rcases H with ⟨c1, H⟩ | ⟨c1, H⟩
 ·have c1_0 := decT c1
  replace c1 := Aside0.mk c1
  (try rw [c1_0])
  cases H
  go_wp2
  go_ret
  exact ⟨rfl, HB.out⟩
 have c1_0 := decF c1
 replace c1 := Aside0.mk c1
 (try rw [c1_0])
 cases H
 go_wp2
 go_ret
 exact ⟨rfl, HB.out⟩
def laws_szFactS.f (l0 : List (S158)) (a1 : Int) : Option (Int) := if (wrap64 (a1 - (l0.length : Int))) < 0 then (some (-1)) else (some (wrap64 (a1 - (l0.length : Int))))
theorem laws_szFactS.calls (A0 : Option Addr) (c0 : Nat) (l0 : List (S158)) (a1 : Int) (r : Int) (w : World) (hr0 : Kd.C k158 w A0 l0.length l0) (hc0 : l0.length ≤ c0) (h : laws_szFactS.f l0 a1 = some r) :
  Calls Tryz.prog 15 #[.slice A0 l0.length c0, .int .i64 a1] w fun e w' => e = .returned (.int .i64 r) ∧ Below w.heap.size w w' := by
 have HR0 := Aside0.mk hr0
 have HC0 := Aside0.mk hc0
 clear hr0 hc0
 have HB := Aside0.mk (Below.refl w.heap.size w)
 have H := h
 clear h
 unfold laws_szFactS.f at H
 go_enter Tryz.func15, Tryz.ntmps15
 replace H := ifD H; rcases H with ⟨c1, H⟩ | ⟨c1, H⟩
 ·have c1_0 := decT c1
  replace c1 := Aside0.mk c1
  (try rw [c1_0])
  cases H
  go_wp2
  go_ret
  exact ⟨rfl, HB.out⟩
 have c1_0 := decF c1
 replace c1 := Aside0.mk c1
 (try rw [c1_0])
 cases H
 go_wp2
 go_ret
 exact ⟨rfl, HB.out⟩
mutual
def laws_szCondS.l0 : Nat → List (S188) → Int → Int → Option (Int)
 | 0, _, _, _ => none
 | k + 1, x0, x1, x5 => if x5 < (x0.length : Int) then (if 0 ≤ x5 then ((laws_szCond.f k ((rd_T188 x0 x5).f0) ((rd_T188 x0 x5).f1) ((rd_T188 x0 x5).f2) ((rd_T188 x0 x5).f3) x1).bind fun t102 => (if t102 < 0 then (some (-1)) else (laws_szCondS.l0 k x0 t102 (wrap64 (x5 + 1))))) else (none)) else (some x1)
def laws_szCondS.f : Nat → List (S188) → Int → Option (Int)
 | 0, _, _ => none
 | k + 1, l0, a1 => if (wrap64 (a1 - (l0.length : Int))) < 0 then (some (-1)) else (laws_szCondS.l0 k l0 (wrap64 (a1 - (l0.length : Int))) 0)
def laws_szCond.f : Nat → Int → Int → Int → List (S188) → Int → Option (Int)
 | 0, _, _, _, _, _ => none
 | k + 1, a0_0, a0_1, a0_2, l0_3, a1 => (laws_szCondS.f k l0_3 a1).bind fun t104 => (if t104 < 0 then (some (-1)) else (some t104))
end
abbrev laws_szCondS.Stmt (k : Nat) : Prop := ∀ (A0 : Option Addr) (c0 : Nat) (l0 : List (S188)) (a1 : Int) (r : Int) (w : World) (hr0 : Kd.C k188 w A0 l0.length l0) (hc0 : l0.length ≤ c0) (h : laws_szCondS.f k l0 a1 = some r),
  Calls Tryz.prog 330 #[.slice A0 l0.length c0, .int .i64 a1] w fun e w' => e = .returned (.int .i64 r) ∧ Below w.heap.size w w'
abbrev laws_szCond.Stmt (k : Nat) : Prop := ∀ (a0_0 : Int) (a0_1 : Int) (a0_2 : Int) (A0_3 : Option Addr) (c0_3 : Nat) (l0_3 : List (S188)) (a1 : Int) (r : Int) (w : World) (hr0_3 : Kd.C k188 w A0_3 l0_3.length l0_3) (hc0_3 : l0_3.length ≤ c0_3) (h : laws_szCond.f k a0_0 a0_1 a0_2 l0_3 a1 = some r),
  Calls Tryz.prog 237 #[.agg #[.int .i64 a0_0, .int .i64 a0_1, .int .i64 a0_2, .slice A0_3 l0_3.length c0_3], .int .i64 a1] w fun e w' => e = .returned (.int .i64 r) ∧ Below w.heap.size w w'
theorem laws_szCondS.step (k : Nat) (ih_laws_szCondS : ∀ m_, m_ < k → laws_szCondS.Stmt m_) (ih_laws_szCond : ∀ m_, m_ < k → laws_szCond.Stmt m_) : laws_szCondS.Stmt k := by
 unfold laws_szCondS.Stmt
 intro A0 c0 l0 a1 r w hr0 hc0 h
 cases k with
 | zero => exact absurd h (by simp [laws_szCondS.f])
 | succ k =>
 simp only [laws_szCondS.f] at h
 have HR0 := Aside0.mk hr0
 have HC0 := Aside0.mk hc0
 clear hr0 hc0
 have HB := Aside0.mk (Below.refl w.heap.size w)
 have H := h
 clear h
 have hu188 := Tryz.underlying188
 go_enter Tryz.func330, Tryz.ntmps330
 replace H := ifD H; rcases H with ⟨c1, H⟩ | ⟨c1, H⟩
 ·have c1_0 := decT c1
  replace c1 := Aside0.mk c1
  (try rw [c1_0])
  cases H
  go_wp2
  go_ret
  exact ⟨rfl, HB.out⟩
 have c1_0 := decF c1
 replace c1 := Aside0.mk c1
 (try rw [c1_0])
 replace H := Aside0.mk H
 go_wp2
 go_loopg [1, 5] k (fun kq v1 v5 w' => ∃ (x1_2 : Int) (x5_2 : Int), v1 = .int .i64 x1_2 ∧ v5 = .int .i64 x5_2 ∧ Aside0 (laws_szCondS.l0 kq l0 x1_2 x5_2 = some r) ∧ Aside0 (kq ≤ k) ∧ Aside0 (Below w.heap.size w w'))
 case atStart => exact ⟨(wrap64 (a1 - (l0.length : Int))), (0), zT, zT, H, ⟨Nat.le_refl _⟩, HB⟩
 case round =>
  clear H HB 
  (try clear c1_0)
  obtain ⟨x1_2, x5_2, rfl, rfl, HA, Hk2, HB⟩ := hrel
  cases gk with
  | zero => exact absurd HA.out (by simp [laws_szCondS.l0])
  | succ k2 =>
   have H := HA.out; clear HA; simp only [laws_szCondS.l0] at H; replace H := ifD H; rcases H with ⟨c3, H⟩ | ⟨c3, H⟩; rotate_left
   ·have c3_0 := decF c3; replace c3 := Aside0.mk c3; (try rw [c3_0]); cases H; go_wp2; go_ret; exact ⟨rfl, HB.out⟩
   have c3_0 := decT c3; replace c3 := Aside0.mk c3; (try rw [c3_0]); replace H := ifN H; obtain ⟨c4, H⟩ := H; have c4_0 := decT c4; replace c4 := Aside0.mk c4; (try rw [c4_0]); have p101 : 0 ≤ (x5_2 : Int) := (of_decide_eq_true (by assumption)); have q101 : x5_2 < (l0.length : Int) := (of_decide_eq_true (by assumption)); obtain ⟨ad101, A101_3, c101_3, e101, hx101_0, hx101_1, hx101_2, hx101_3, hl101_3, hi101_3⟩ := at_T188 HR0.out x5_2 p101 q101; cases e101; have HR101_3 := Aside0.mk hi101_3; have HC101_3 := Aside0.mk hl101_3; clear hi101_3 hl101_3; replace hx101_0 := Aside0.mk hx101_0; have y101_0 := xC HB hx101_0; replace hx101_1 := Aside0.mk hx101_1; have y101_1 := xC HB hx101_1; replace hx101_2 := Aside0.mk hx101_2; have y101_2 := xC HB hx101_2; replace hx101_3 := Aside0.mk hx101_3; have y101_3 := xC HB hx101_3; have r101 := eq_true p101; have s101 := eq_true q101; replace p101 := Aside0.mk p101; replace q101 := Aside0.mk q101; replace H := obs H; obtain ⟨t102, hm, H⟩ := H; (try dsimp only at H); replace H := Aside0.mk H; have hcall := ih_laws_szCond k2 (by have := Hk2.out; omega) _ _ _ _ _ _ _ _ wr (Kd.C_below HR101_3.out HB.out) HC101_3.out hm; clear hm; (go_wp2_with fail)
   refine hcall.mono ?_; rintro e W5 ⟨rfl, hb⟩; clear hcall; (try clear y101_0 y101_1 y101_2 y101_3); replace HB := bH HB hb; clear hb; replace H := ifD H.out; rcases H with ⟨c6, H⟩ | ⟨c6, H⟩
   ·have c6_0 := decT c6; replace c6 := Aside0.mk c6; (try rw [c6_0]); cases H; go_wp2; go_ret; exact ⟨rfl, HB.out⟩
   have c6_0 := decF c6; replace c6 := Aside0.mk c6; (try rw [c6_0]); replace H := Aside0.mk H; go_wp2; go_roundg k2
   case measure => have := Hk2.out; omega
   case rel => exact ⟨(t102), (wrap64 (x5_2 + 1)), zT, zT, H, ⟨by have := Hk2.out; omega⟩, HB⟩
theorem laws_szCond.step (k : Nat) (ih_laws_szCondS : ∀ m_, m_ < k → laws_szCondS.Stmt m_) (ih_laws_szCond : ∀ m_, m_ < k → laws_szCond.Stmt m_) : laws_szCond.Stmt k := by
 unfold laws_szCond.Stmt
 intro a0_0 a0_1 a0_2 A0_3 c0_3 l0_3 a1 r w hr0_3 hc0_3 h
 cases k with
 | zero => exact absurd h (by simp [laws_szCond.f])
 | succ k =>
 simp only [laws_szCond.f] at h
 have HR0_3 := Aside0.mk hr0_3
 have HC0_3 := Aside0.mk hc0_3
 clear hr0_3 hc0_3
 have HB := Aside0.mk (Below.refl w.heap.size w)
 have H := h
 clear h
 have hu188 := Tryz.underlying188
 go_enter Tryz.func237, Tryz.ntmps237
 replace H := Aside0.mk H
 go_upto_region 1 with (first | ((with_reducible refine gate_dst (N := 2) rfl ?_); refine box_event ?hg (N := 2) ?hd (cs := #[.int .i64 a0_0, .int .i64 a0_1, .int .i64 a0_2, .slice A0_3 l0_3.length c0_3]) (t := 188) ?hr ?_; (case hd => rfl); (case hg => rfl); (case hr => first | (go_simp; done) | (go_simp; rfl)); intro gb1 hg W1 hbox hb; replace HB := bH HB hb; clear hb; have BK1 := Aside0.mk hbox; have c_BK1 := blk_cell hbox; have z_BK1 := blk_frozen hbox; clear hg hbox))
 replace H := H.out
 replace H := obs H
 obtain ⟨t104, hm, H⟩ := H
 (try dsimp only at H)
 replace H := Aside0.mk H
 have hcall := ih_laws_szCondS k (by omega) _ _ _ _ _ W1 (Kd.C_below HR0_3.out HB.out) HC0_3.out hm
 clear hm
 (go_wp2_with fail)
 refine hcall.mono ?_
 rintro e W2 ⟨rfl, hb⟩
 clear hcall
 replace BK1 := bK BK1 hb; replace c_BK1 := bcl BK1; replace z_BK1 := bfr BK1
 replace HB := bH HB hb; clear hb
 replace H := ifD H.out; rcases H with ⟨c3, H⟩ | ⟨c3, H⟩
 ·have c3_0 := decT c3
  replace c3 := Aside0.mk c3
  (try rw [c3_0])
  cases H
  go_wp2
  go_ret
  exact ⟨rfl, HB.out⟩
 have c3_0 := decF c3
 replace c3 := Aside0.mk c3
 (try rw [c3_0])
 cases H
 go_wp2
 go_ret
 exact ⟨rfl, HB.out⟩
theorem laws_szCondS.both (k : Nat) : laws_szCondS.Stmt k ∧ laws_szCond.Stmt k := by
 induction k using Nat.strongRecOn with
 | _ k ih =>
 exact ⟨laws_szCondS.step k (fun m hm => (ih m hm).1) (fun m hm => (ih m hm).2), laws_szCond.step k (fun m hm => (ih m hm).1) (fun m hm => (ih m hm).2)⟩
theorem laws_szCond.calls (k : Nat) : ∀ (a0_0 : Int) (a0_1 : Int) (a0_2 : Int) (A0_3 : Option Addr) (c0_3 : Nat) (l0_3 : List (S188)) (a1 : Int) (r : Int) (w : World) (hr0_3 : Kd.C k188 w A0_3 l0_3.length l0_3) (hc0_3 : l0_3.length ≤ c0_3) (h : laws_szCond.f k a0_0 a0_1 a0_2 l0_3 a1 = some r),
  Calls Tryz.prog 237 #[.agg #[.int .i64 a0_0, .int .i64 a0_1, .int .i64 a0_2, .slice A0_3 l0_3.length c0_3], .int .i64 a1] w fun e w' => e = .returned (.int .i64 r) ∧ Below w.heap.size w w' := (laws_szCondS.both k).2
def laws_szRule.f (k : Nat) (a0_0 : Int) (a0_1 : Int) (a0_2 : Int) (a0_3 : Int) (a0_4 : Int) (a0_5 : Int) (l0_6 : List (S188)) (a1 : Int) : Option (Int) := (laws_szCond.f k a0_3 a0_4 a0_5 l0_6 a1).bind fun t106 => (if t106 < 0 then (some (-1)) else (some t106))
theorem laws_szRule.calls (k : Nat) (a0_0 : Int) (a0_1 : Int) (a0_2 : Int) (a0_3 : Int) (a0_4 : Int) (a0_5 : Int) (A0_6 : Option Addr) (c0_6 : Nat) (l0_6 : List (S188)) (a1 : Int) (r : Int) (w : World) (hr0_6 : Kd.C k188 w A0_6 l0_6.length l0_6) (hc0_6 : l0_6.length ≤ c0_6) (h : laws_szRule.f k a0_0 a0_1 a0_2 a0_3 a0_4 a0_5 l0_6 a1 = some r) :
  Calls Tryz.prog 121 #[.agg #[.int .i64 a0_0, .int .i64 a0_1, .int .i64 a0_2, .int .i64 a0_3, .int .i64 a0_4, .int .i64 a0_5, .slice A0_6 l0_6.length c0_6], .int .i64 a1] w fun e w' => e = .returned (.int .i64 r) ∧ Below w.heap.size w w' := by
 have HR0_6 := Aside0.mk hr0_6
 have HC0_6 := Aside0.mk hc0_6
 clear hr0_6 hc0_6
 have HB := Aside0.mk (Below.refl w.heap.size w)
 have H := h
 clear h
 unfold laws_szRule.f at H
 have hu188 := Tryz.underlying188
 have hu190 := Tryz.underlying190
 go_enter Tryz.func121, Tryz.ntmps121
 replace H := Aside0.mk H
 go_upto_region 1 with (first | ((with_reducible refine gate_dst (N := 2) rfl ?_); refine box_event ?hg (N := 2) ?hd (cs := #[.int .i64 a0_0, .int .i64 a0_1, .int .i64 a0_2, .int .i64 a0_3, .int .i64 a0_4, .int .i64 a0_5, .slice A0_6 l0_6.length c0_6]) (t := 190) ?hr ?_; (case hd => rfl); (case hg => rfl); (case hr => first | (go_simp; done) | (go_simp; rfl)); intro gb1 hg W1 hbox hb; replace HB := bH HB hb; clear hb; have BK1 := Aside0.mk hbox; have c_BK1 := blk_cell hbox; have z_BK1 := blk_frozen hbox; clear hg hbox))
 replace H := H.out
 replace H := obs H
 obtain ⟨t106, hm, H⟩ := H
 (try dsimp only at H)
 replace H := Aside0.mk H
 have hcall := laws_szCond.calls k _ _ _ _ _ _ _ _ W1 (Kd.C_below HR0_6.out HB.out) HC0_6.out hm
 clear hm
 (go_wp2_with fail)
 refine hcall.mono ?_
 rintro e W2 ⟨rfl, hb⟩
 clear hcall
 replace BK1 := bK BK1 hb; replace c_BK1 := bcl BK1; replace z_BK1 := bfr BK1
 replace HB := bH HB hb; clear hb
 replace H := ifD H.out; rcases H with ⟨c3, H⟩ | ⟨c3, H⟩
 ·have c3_0 := decT c3
  replace c3 := Aside0.mk c3
  (try rw [c3_0])
  cases H
  go_wp2
  go_ret
  exact ⟨rfl, HB.out⟩
 have c3_0 := decF c3
 replace c3 := Aside0.mk c3
 (try rw [c3_0])
 cases H
 go_wp2
 go_ret
 exact ⟨rfl, HB.out⟩
def laws_szRuleS.l0 : Nat → List (S190) → Int → Int → Option (Int)
 | 0, _, _, _ => none
 | k + 1, x0, x1, x5 => if x5 < (x0.length : Int) then (if 0 ≤ x5 then ((laws_szRule.f k ((rd_T190 x0 x5).f0) ((rd_T190 x0 x5).f1) ((rd_T190 x0 x5).f2) ((rd_T190 x0 x5).f3.f0) ((rd_T190 x0 x5).f3.f1) ((rd_T190 x0 x5).f3.f2) ((rd_T190 x0 x5).f3.f3) x1).bind fun t108 => (if t108 < 0 then (some (-1)) else (laws_szRuleS.l0 k x0 t108 (wrap64 (x5 + 1))))) else (none)) else (some x1)
def laws_szRuleS.f (k : Nat) (l0 : List (S190)) (a1 : Int) : Option (Int) := if (wrap64 (a1 - (l0.length : Int))) < 0 then (some (-1)) else (laws_szRuleS.l0 k l0 (wrap64 (a1 - (l0.length : Int))) 0)
theorem laws_szRuleS.calls (k : Nat) (A0 : Option Addr) (c0 : Nat) (l0 : List (S190)) (a1 : Int) (r : Int) (w : World) (hr0 : Kd.C k190 w A0 l0.length l0) (hc0 : l0.length ≤ c0) (h : laws_szRuleS.f k l0 a1 = some r) :
  Calls Tryz.prog 39 #[.slice A0 l0.length c0, .int .i64 a1] w fun e w' => e = .returned (.int .i64 r) ∧ Below w.heap.size w w' := by
 have HR0 := Aside0.mk hr0
 have HC0 := Aside0.mk hc0
 clear hr0 hc0
 have HB := Aside0.mk (Below.refl w.heap.size w)
 have H := h
 clear h
 unfold laws_szRuleS.f at H
 have hu190 := Tryz.underlying190
 go_enter Tryz.func39, Tryz.ntmps39
 replace H := ifD H; rcases H with ⟨c1, H⟩ | ⟨c1, H⟩
 ·have c1_0 := decT c1
  replace c1 := Aside0.mk c1
  (try rw [c1_0])
  cases H
  go_wp2
  go_ret
  exact ⟨rfl, HB.out⟩
 have c1_0 := decF c1
 replace c1 := Aside0.mk c1
 (try rw [c1_0])
 replace H := Aside0.mk H
 go_wp2
 go_loopg [1, 5] k (fun kq v1 v5 w' => ∃ (x1_2 : Int) (x5_2 : Int), v1 = .int .i64 x1_2 ∧ v5 = .int .i64 x5_2 ∧ Aside0 (laws_szRuleS.l0 kq l0 x1_2 x5_2 = some r) ∧ Aside0 (kq ≤ k) ∧ Aside0 (Below w.heap.size w w'))
 case atStart => exact ⟨(wrap64 (a1 - (l0.length : Int))), (0), zT, zT, H, ⟨Nat.le_refl _⟩, HB⟩
 case round =>
  clear H HB 
  (try clear c1_0)
  obtain ⟨x1_2, x5_2, rfl, rfl, HA, Hk2, HB⟩ := hrel
  cases gk with
  | zero => exact absurd HA.out (by simp [laws_szRuleS.l0])
  | succ k2 =>
   have H := HA.out; clear HA; simp only [laws_szRuleS.l0] at H; replace H := ifD H; rcases H with ⟨c3, H⟩ | ⟨c3, H⟩; rotate_left
   ·have c3_0 := decF c3; replace c3 := Aside0.mk c3; (try rw [c3_0]); cases H; go_wp2; go_ret; exact ⟨rfl, HB.out⟩
   have c3_0 := decT c3; replace c3 := Aside0.mk c3; (try rw [c3_0]); replace H := ifN H; obtain ⟨c4, H⟩ := H; have c4_0 := decT c4; replace c4 := Aside0.mk c4; (try rw [c4_0]); have p107 : 0 ≤ (x5_2 : Int) := (of_decide_eq_true (by assumption)); have q107 : x5_2 < (l0.length : Int) := (of_decide_eq_true (by assumption)); obtain ⟨ad107, A107_6, c107_6, e107, hx107_0, hx107_1, hx107_2, hx107_3, hx107_4, hx107_5, hx107_6, hl107_6, hi107_6⟩ := at_T190 HR0.out x5_2 p107 q107; cases e107; have HR107_6 := Aside0.mk hi107_6; have HC107_6 := Aside0.mk hl107_6; clear hi107_6 hl107_6; replace hx107_0 := Aside0.mk hx107_0; have y107_0 := xC HB hx107_0; replace hx107_1 := Aside0.mk hx107_1; have y107_1 := xC HB hx107_1; replace hx107_2 := Aside0.mk hx107_2; have y107_2 := xC HB hx107_2; replace hx107_3 := Aside0.mk hx107_3; have y107_3 := xC HB hx107_3; replace hx107_4 := Aside0.mk hx107_4; have y107_4 := xC HB hx107_4; replace hx107_5 := Aside0.mk hx107_5; have y107_5 := xC HB hx107_5; replace hx107_6 := Aside0.mk hx107_6; have y107_6 := xC HB hx107_6; have r107 := eq_true p107; have s107 := eq_true q107; replace p107 := Aside0.mk p107; replace q107 := Aside0.mk q107; replace H := obs H; obtain ⟨t108, hm, H⟩ := H; (try dsimp only at H); replace H := Aside0.mk H; have hcall := laws_szRule.calls k2 _ _ _ _ _ _ _ _ _ _ _ wr (Kd.C_below HR107_6.out HB.out) HC107_6.out hm; clear hm; (go_wp2_with fail)
   refine hcall.mono ?_; rintro e W5 ⟨rfl, hb⟩; clear hcall; (try clear y107_0 y107_1 y107_2 y107_3 y107_4 y107_5 y107_6); replace HB := bH HB hb; clear hb; replace H := ifD H.out; rcases H with ⟨c6, H⟩ | ⟨c6, H⟩
   ·have c6_0 := decT c6; replace c6 := Aside0.mk c6; (try rw [c6_0]); cases H; go_wp2; go_ret; exact ⟨rfl, HB.out⟩
   have c6_0 := decF c6; replace c6 := Aside0.mk c6; (try rw [c6_0]); replace H := Aside0.mk H; go_wp2; go_roundg k2
   case measure => have := Hk2.out; omega
   case rel => exact ⟨(t108), (wrap64 (x5_2 + 1)), zT, zT, H, ⟨by have := Hk2.out; omega⟩, HB⟩
def laws_szPolicy.f (k : Nat) (a0_0 : Int) (l0_1 : List (S190)) (a1 : Int) : Option (Int) := (laws_szRuleS.f k l0_1 a1).bind fun t110 => (if t110 < 0 then (some (-1)) else (some t110))
theorem laws_szPolicy.calls (k : Nat) (a0_0 : Int) (A0_1 : Option Addr) (c0_1 : Nat) (l0_1 : List (S190)) (a1 : Int) (r : Int) (w : World) (hr0_1 : Kd.C k190 w A0_1 l0_1.length l0_1) (hc0_1 : l0_1.length ≤ c0_1) (h : laws_szPolicy.f k a0_0 l0_1 a1 = some r) :
  Calls Tryz.prog 16 #[.agg #[.int .i64 a0_0, .slice A0_1 l0_1.length c0_1], .int .i64 a1] w fun e w' => e = .returned (.int .i64 r) ∧ Below w.heap.size w w' := by
 have HR0_1 := Aside0.mk hr0_1
 have HC0_1 := Aside0.mk hc0_1
 clear hr0_1 hc0_1
 have HB := Aside0.mk (Below.refl w.heap.size w)
 have H := h
 clear h
 unfold laws_szPolicy.f at H
 have hu26 := Tryz.underlying26
 go_enter Tryz.func16, Tryz.ntmps16
 replace H := Aside0.mk H
 go_upto_region 1 with (first | ((with_reducible refine gate_dst (N := 2) rfl ?_); refine box_event ?hg (N := 2) ?hd (cs := #[.int .i64 a0_0, .slice A0_1 l0_1.length c0_1]) (t := 26) ?hr ?_; (case hd => rfl); (case hg => rfl); (case hr => first | (go_simp; done) | (go_simp; rfl)); intro gb1 hg W1 hbox hb; replace HB := bH HB hb; clear hb; have BK1 := Aside0.mk hbox; have c_BK1 := blk_cell hbox; have z_BK1 := blk_frozen hbox; clear hg hbox))
 replace H := H.out
 replace H := obs H
 obtain ⟨t110, hm, H⟩ := H
 (try dsimp only at H)
 replace H := Aside0.mk H
 have hcall := laws_szRuleS.calls k _ _ _ _ _ W1 (Kd.C_below HR0_1.out HB.out) HC0_1.out hm
 clear hm
 (go_wp2_with fail)
 refine hcall.mono ?_
 rintro e W2 ⟨rfl, hb⟩
 clear hcall
 replace BK1 := bK BK1 hb; replace c_BK1 := bcl BK1; replace z_BK1 := bfr BK1
 replace HB := bH HB hb; clear hb
 replace H := ifD H.out; rcases H with ⟨c3, H⟩ | ⟨c3, H⟩
 ·have c3_0 := decT c3
  replace c3 := Aside0.mk c3
  (try rw [c3_0])
  cases H
  go_wp2
  go_ret
  exact ⟨rfl, HB.out⟩
 have c3_0 := decF c3
 replace c3 := Aside0.mk c3
 (try rw [c3_0])
 cases H
 go_wp2
 go_ret
 exact ⟨rfl, HB.out⟩
def laws_toIncludes.f (a0_0 : Int) (a0_1 : Int) : Option (Int × Int) := some (a0_0, a0_1)
theorem laws_toIncludes.calls (a0_0 : Int) (a0_1 : Int) (r1 : Int) (r2 : Int) (w : World) (h : laws_toIncludes.f a0_0 a0_1 = some (r1, r2)) :
  Calls Tryz.prog 96 #[.agg #[.int .i64 a0_0, .int .i64 a0_1]] w fun e w' => e = .returned (.agg #[.int .i64 r1, .int .i64 r2]) ∧ Below w.heap.size w w' := by
 have hu154 := Tryz.underlying154; have hu156 := Tryz.underlying156
 unfold laws_toIncludes.f at h
 simp only [Option.some.injEq, Prod.mk.injEq] at h
 obtain ⟨rfl, rfl⟩ := h
 go_enter Tryz.func96, Tryz.ntmps96
 go_wp2
 exact bodyPost_ret (v := .agg #[.int .i64 a0_0, .int .i64 a0_1]) (by simp [results, Tryz.results96, go_sem]) rfl ⟨rfl, by repeat (first | exact Below.refl _ _ | apply below_alloc | refine bSet ?_ (by omega))⟩
def laws_toIncludesS.l0 : Nat → List (S156) → List (S154) → Int → Option ((List (S154)))
 | 0, _, _, _ => none
 | k + 1, x0, x3, x4 => if x4 < (x0.length : Int) then (if 0 ≤ x4 then ((laws_toIncludes.f ((rd_T156 x0 x4).f0) ((rd_T156 x0 x4).f1)).bind fun bt121 => (if x4 < (x3.length : Int) then (laws_toIncludesS.l0 k x0 (x3.set (x4 : Int).toNat (⟨bt121.1, bt121.2⟩ : S154)) (wrap64 (x4 + 1))) else (none))) else (none)) else (some x3)
def laws_toIncludesS.f (k : Nat) (l0 : List (S156)) : Option ((List (S154))) := if 0 ≤ (l0.length : Int) then (if ((l0.length : Int) : Int).toNat ≤ 17592186044416 then (laws_toIncludesS.l0 k l0 (List.replicate ((l0.length : Int) : Int).toNat z154) 0) else (none)) else (none)
theorem laws_toIncludesS.calls (k : Nat) (A0 : Option Addr) (c0 : Nat) (l0 : List (S156)) (r : List (S154)) (w : World) (hr0 : Kd.C k156 w A0 l0.length l0) (hc0 : l0.length ≤ c0) (h : laws_toIncludesS.f k l0 = some r) :
  Calls Tryz.prog 18 #[.slice A0 l0.length c0] w fun e w' => ∃ v0_ : Value, e = .returned (v0_) ∧ Kd.R k154 154 w' w.heap.size (fun _ => True) v0_ r ∧ Below w.heap.size w w' := by
 have hu156 := Tryz.underlying156; have hu154 := Tryz.underlying154
 have HR := Aside0.mk hr0; clear hr0
 have HB := Aside0.mk (Below.refl w.heap.size w)
 unfold laws_toIncludesS.f at h
 replace h := ifN h; obtain ⟨c2, h⟩ := h; replace c2 := Aside0.mk c2; replace h := ifN h; obtain ⟨c3, h⟩ := h; replace c3 := Aside0.mk c3
 obtain ⟨ys, hy⟩ : ∃ y_, y_ = (List.replicate ((l0.length : Int) : Int).toNat z154) := ⟨_, rfl⟩
 rw [← hy] at h; replace hy := Aside0.mk hy; replace h := Aside0.mk h
 go_enter Tryz.func18, Tryz.ntmps18
 go_wp2_with (first | ((with_reducible refine gate_dst (N := 7) rfl ?_); refine Kd.R_make k154 _ 154 rfl (N := 7) rfl 33 _ _ rfl (l0.length : Int) rfl rfl Tryz.underlying33 (.agg #[(.int .i64 0), (.int .i64 0)]) 16 info154 rfl (by decide) (by omega) z154 (ok := fun _ => True) (okp := fun _ => True) (k154_mkM _ _ _ z154 ) (fun _ hk => hk) trivial c2.out (Nat.le_trans (Nat.mul_le_mul_right _ c3.out) (by omega)) (Below.refl _ _) (Nat.le_refl _) ?_; intro v W1 ho hb _ _; rw [← hy.out] at ho; have O := Aside0.mk (Kd.R_lower ho (below_size HB.out)); replace HB := Aside0.mk (below_step HB.out hb); clear hb ho))
 go_loopg [4] k (fun kq v4 w' => ∃ (xs : List S154) (i : Int), v4 = .int .i64 i ∧ Aside0 (laws_toIncludesS.l0 kq l0 xs i = some r) ∧ Aside0 (kq ≤ k) ∧ Aside0 (Kd.R k154 154 w' w.heap.size (fun _ => True) v xs) ∧ Aside0 (Below w.heap.size w w'))
 case atStart => exact ⟨_, 0, rfl, h, ⟨Nat.le_refl _⟩, O, HB⟩
 case round =>
  clear h O HB c2 c3
  obtain ⟨xs, i, rfl, H, Hk, O, HB⟩ := hrel
  cases gk with
  | zero => exact absurd H.out (by simp [laws_toIncludesS.l0])
  | succ k1 =>
   have h := H.out; clear H; simp only [laws_toIncludesS.l0] at h; replace h := ifD h; rcases h with ⟨c, h⟩ | ⟨c, h⟩; rotate_left
   ·have d1 := decF c; clear c; obtain rfl := Option.some.inj h; go_wp2; go_ret; exact ⟨_, rfl, O.out, HB.out⟩
   have d1 := decT c; replace h := ifN h; obtain ⟨c7, h⟩ := h; replace h := Option.bind_eq_some_iff.mp h; obtain ⟨⟨t121, t122⟩, m, h⟩ := h; try dsimp only at h
   replace h := ifN h; obtain ⟨c9, h⟩ := h; replace h := Aside0.mk h; replace m := Aside0.mk m; obtain ⟨ad, e_, x0, x1⟩ := at_T156 HR.out i c7 c; cases e_; replace x0 := xC HB ⟨x0⟩; replace x1 := xC HB ⟨x1⟩; obtain ⟨g, co, eo, hg, hq, -, -⟩ := Kd.R_form O.out (by omega); cases eo; have e1 := eq_true c; have e2 := eq_true c7; have e3 := eq_true c9; replace c := Aside0.mk c; replace c7 := Aside0.mk c7; replace c9 := Aside0.mk c9; replace hg := Aside0.mk hg; replace hq := Aside0.mk hq; go_wp2_with (first | (go_at_call 96; refine (laws_toIncludes.calls _ _ t121 t122 _  m.out).mono ?_; rintro e W2 ⟨rfl, hb⟩; obtain ⟨hc, hf, HP⟩ := R_fill O.out hb c7.out c9.out z154 (seg := [.int .i64 t121, .int .i64 t122]) 2 rfl rfl hq.out (k154_mkM _ _ _ (⟨t121, t122⟩ : S154)); obtain ⟨_, y0⟩ := hc 0 (by decide); have q0 := hf 0; obtain ⟨_, y1⟩ := hc 1 (by decide); have q1 := hf 1; simp only [Nat.add_zero] at y0 q0; replace HP := Aside0.mk HP; replace HB := Aside0.mk (below_step HB.out hb); clear hb hc hf O ))
   go_roundg k1
   case measure => have := Hk.out; omega
   case rel => exact ⟨_, _, rfl, h, ⟨by have := Hk.out; omega⟩, HP, ⟨below_set (below_set (HB.out) hg.out) hg.out⟩⟩
def laws_toFact.f (a0_0 : Int) (a0_1 : Int) (a0_2 : Int) (a0_3 : Int) (a0_4 : Int) (a0_5 : Int) : Option (Int × Int × Int × Int × Int × Int) := some (a0_0, a0_1, a0_2, a0_3, a0_4, a0_5)
theorem laws_toFact.calls (a0_0 : Int) (a0_1 : Int) (a0_2 : Int) (a0_3 : Int) (a0_4 : Int) (a0_5 : Int) (r1 : Int) (r2 : Int) (r3 : Int) (r4 : Int) (r5 : Int) (r6 : Int) (w : World) (h : laws_toFact.f a0_0 a0_1 a0_2 a0_3 a0_4 a0_5 = some (r1, r2, r3, r4, r5, r6)) :
  Calls Tryz.prog 97 #[.agg #[.int .i64 a0_0, .int .i64 a0_1, .int .i64 a0_2, .int .i64 a0_3, .int .i64 a0_4, .int .i64 a0_5]] w fun e w' => e = .returned (.agg #[.int .i64 r1, .int .i64 r2, .int .i64 r3, .int .i64 r4, .int .i64 r5, .int .i64 r6]) ∧ Below w.heap.size w w' := by
 have hu136 := Tryz.underlying136; have hu158 := Tryz.underlying158
 unfold laws_toFact.f at h
 simp only [Option.some.injEq, Prod.mk.injEq] at h
 obtain ⟨rfl, rfl, rfl, rfl, rfl, rfl⟩ := h
 go_enter Tryz.func97, Tryz.ntmps97
 go_wp2
 exact bodyPost_ret (v := .agg #[.int .i64 a0_0, .int .i64 a0_1, .int .i64 a0_2, .int .i64 a0_3, .int .i64 a0_4, .int .i64 a0_5]) (by simp [results, Tryz.results97, go_sem]) rfl ⟨rfl, by repeat (first | exact Below.refl _ _ | apply below_alloc | refine bSet ?_ (by omega))⟩
def laws_toFactS.l0 : Nat → List (S158) → List (S136) → Int → Option ((List (S136)))
 | 0, _, _, _ => none
 | k + 1, x0, x3, x4 => if x4 < (x0.length : Int) then (if 0 ≤ x4 then ((laws_toFact.f ((rd_T158 x0 x4).f0) ((rd_T158 x0 x4).f1) ((rd_T158 x0 x4).f2) ((rd_T158 x0 x4).f3) ((rd_T158 x0 x4).f4) ((rd_T158 x0 x4).f5)).bind fun bt141 => (if x4 < (x3.length : Int) then (laws_toFactS.l0 k x0 (x3.set (x4 : Int).toNat (⟨bt141.1, bt141.2.1, bt141.2.2.1, bt141.2.2.2.1, bt141.2.2.2.2.1, bt141.2.2.2.2.2⟩ : S136)) (wrap64 (x4 + 1))) else (none))) else (none)) else (some x3)
def laws_toFactS.f (k : Nat) (l0 : List (S158)) : Option ((List (S136))) := if 0 ≤ (l0.length : Int) then (if ((l0.length : Int) : Int).toNat ≤ 5864062014805 then (laws_toFactS.l0 k l0 (List.replicate ((l0.length : Int) : Int).toNat z136) 0) else (none)) else (none)
theorem laws_toFactS.calls (k : Nat) (A0 : Option Addr) (c0 : Nat) (l0 : List (S158)) (r : List (S136)) (w : World) (hr0 : Kd.C k158 w A0 l0.length l0) (hc0 : l0.length ≤ c0) (h : laws_toFactS.f k l0 = some r) :
  Calls Tryz.prog 19 #[.slice A0 l0.length c0] w fun e w' => ∃ v0_ : Value, e = .returned (v0_) ∧ Kd.R k136 136 w' w.heap.size (fun _ => True) v0_ r ∧ Below w.heap.size w w' := by
 have hu158 := Tryz.underlying158; have hu136 := Tryz.underlying136
 have HR := Aside0.mk hr0; clear hr0
 have HB := Aside0.mk (Below.refl w.heap.size w)
 unfold laws_toFactS.f at h
 replace h := ifN h; obtain ⟨c2, h⟩ := h; replace c2 := Aside0.mk c2; replace h := ifN h; obtain ⟨c3, h⟩ := h; replace c3 := Aside0.mk c3
 obtain ⟨ys, hy⟩ : ∃ y_, y_ = (List.replicate ((l0.length : Int) : Int).toNat z136) := ⟨_, rfl⟩
 rw [← hy] at h; replace hy := Aside0.mk hy; replace h := Aside0.mk h
 go_enter Tryz.func19, Tryz.ntmps19
 go_wp2_with (first | ((with_reducible refine gate_dst (N := 7) rfl ?_); refine Kd.R_make k136 _ 136 rfl (N := 7) rfl 35 _ _ rfl (l0.length : Int) rfl rfl Tryz.underlying35 (.agg #[(.int .i64 0), (.int .i64 0), (.int .i64 0), (.int .i64 0), (.int .i64 0), (.int .i64 0)]) 48 info136 rfl (by decide) (by omega) z136 (ok := fun _ => True) (okp := fun _ => True) (k136_mkM _ _ _ z136 ) (fun _ hk => hk) trivial c2.out (Nat.le_trans (Nat.mul_le_mul_right _ c3.out) (by omega)) (Below.refl _ _) (Nat.le_refl _) ?_; intro v W1 ho hb _ _; rw [← hy.out] at ho; have O := Aside0.mk (Kd.R_lower ho (below_size HB.out)); replace HB := Aside0.mk (below_step HB.out hb); clear hb ho))
 go_loopg [4] k (fun kq v4 w' => ∃ (xs : List S136) (i : Int), v4 = .int .i64 i ∧ Aside0 (laws_toFactS.l0 kq l0 xs i = some r) ∧ Aside0 (kq ≤ k) ∧ Aside0 (Kd.R k136 136 w' w.heap.size (fun _ => True) v xs) ∧ Aside0 (Below w.heap.size w w'))
 case atStart => exact ⟨_, 0, rfl, h, ⟨Nat.le_refl _⟩, O, HB⟩
 case round =>
  clear h O HB c2 c3
  obtain ⟨xs, i, rfl, H, Hk, O, HB⟩ := hrel
  cases gk with
  | zero => exact absurd H.out (by simp [laws_toFactS.l0])
  | succ k1 =>
   have h := H.out; clear H; simp only [laws_toFactS.l0] at h; replace h := ifD h; rcases h with ⟨c, h⟩ | ⟨c, h⟩; rotate_left
   ·have d1 := decF c; clear c; obtain rfl := Option.some.inj h; go_wp2; go_ret; exact ⟨_, rfl, O.out, HB.out⟩
   have d1 := decT c; replace h := ifN h; obtain ⟨c7, h⟩ := h; replace h := Option.bind_eq_some_iff.mp h; obtain ⟨⟨t141, t142, t143, t144, t145, t146⟩, m, h⟩ := h; try dsimp only at h
   replace h := ifN h; obtain ⟨c9, h⟩ := h; replace h := Aside0.mk h; replace m := Aside0.mk m; obtain ⟨ad, e_, x0, x1, x2, x3, x4, x5⟩ := at_T158 HR.out i c7 c; cases e_; replace x0 := xC HB ⟨x0⟩; replace x1 := xC HB ⟨x1⟩; replace x2 := xC HB ⟨x2⟩; replace x3 := xC HB ⟨x3⟩; replace x4 := xC HB ⟨x4⟩; replace x5 := xC HB ⟨x5⟩; obtain ⟨g, co, eo, hg, hq, -, -⟩ := Kd.R_form O.out (by omega); cases eo; have e1 := eq_true c; have e2 := eq_true c7; have e3 := eq_true c9; replace c := Aside0.mk c; replace c7 := Aside0.mk c7; replace c9 := Aside0.mk c9; replace hg := Aside0.mk hg; replace hq := Aside0.mk hq; go_wp2_with (first | (go_at_call 97; refine (laws_toFact.calls _ _ _ _ _ _ t141 t142 t143 t144 t145 t146 _  m.out).mono ?_; rintro e W2 ⟨rfl, hb⟩; obtain ⟨hc, hf, HP⟩ := R_fill O.out hb c7.out c9.out z136 (seg := [.int .i64 t141, .int .i64 t142, .int .i64 t143, .int .i64 t144, .int .i64 t145, .int .i64 t146]) 6 rfl rfl hq.out (k136_mkM _ _ _ (⟨t141, t142, t143, t144, t145, t146⟩ : S136)); obtain ⟨_, y0⟩ := hc 0 (by decide); have q0 := hf 0; obtain ⟨_, y1⟩ := hc 1 (by decide); have q1 := hf 1; obtain ⟨_, y2⟩ := hc 2 (by decide); have q2 := hf 2; obtain ⟨_, y3⟩ := hc 3 (by decide); have q3 := hf 3; obtain ⟨_, y4⟩ := hc 4 (by decide); have q4 := hf 4; obtain ⟨_, y5⟩ := hc 5 (by decide); have q5 := hf 5; simp only [Nat.add_zero] at y0 q0; replace HP := Aside0.mk HP; replace HB := Aside0.mk (below_step HB.out hb); clear hb hc hf O ))
   go_roundg k1
   case measure => have := Hk.out; omega
   case rel => exact ⟨_, _, rfl, h, ⟨by have := Hk.out; omega⟩, HP, ⟨below_set (below_set (below_set (below_set (below_set (below_set (HB.out) hg.out) hg.out) hg.out) hg.out) hg.out) hg.out⟩⟩
mutual
def laws_toCondS.l0 : Nat → List (S188) → List (S172) → Int → Option ((List (S172)))
 | 0, _, _, _ => none
 | k + 1, x0, x3, x4 => if x4 < (x0.length : Int) then (if 0 ≤ x4 then ((laws_toCond.f k ((rd_T188 x0 x4).f0) ((rd_T188 x0 x4).f1) ((rd_T188 x0 x4).f2) ((rd_T188 x0 x4).f3)).bind fun bt163 => (if x4 < (x3.length : Int) then (laws_toCondS.l0 k x0 (x3.set (x4 : Int).toNat (⟨bt163.1, bt163.2.1, bt163.2.2.1, bt163.2.2.2⟩ : S172)) (wrap64 (x4 + 1))) else (none))) else (none)) else (some x3)
def laws_toCondS.f : Nat → List (S188) → Option ((List (S172)))
 | 0, _ => none
 | k + 1, l0 => if 0 ≤ (l0.length : Int) then (if ((l0.length : Int) : Int).toNat ≤ 5864062014805 then (laws_toCondS.l0 k l0 (List.replicate ((l0.length : Int) : Int).toNat z172) 0) else (none)) else (none)
def laws_toCond.f : Nat → Int → Int → Int → List (S188) → Option (Int × Int × Int × (List (S172)))
 | 0, _, _, _, _ => none
 | k + 1, a0_0, a0_1, a0_2, l0_3 => (laws_toCondS.f k l0_3).bind fun t173 => (some (a0_0, a0_1, a0_2, t173))
end
abbrev laws_toCondS.Stmt (k : Nat) : Prop := ∀ (A0 : Option Addr) (c0 : Nat) (l0 : List (S188)) (r : List (S172)) (w : World) (hr0 : Kd.C k188 w A0 l0.length l0) (hc0 : l0.length ≤ c0) (h : laws_toCondS.f k l0 = some r),
  Calls Tryz.prog 332 #[.slice A0 l0.length c0] w fun e w' => ∃ v0_ : Value, e = .returned (v0_) ∧ Kd.R k172 172 w' w.heap.size (fun _ => True) v0_ r ∧ Below w.heap.size w w'
abbrev laws_toCond.Stmt (k : Nat) : Prop := ∀ (a0_0 : Int) (a0_1 : Int) (a0_2 : Int) (A0_3 : Option Addr) (c0_3 : Nat) (l0_3 : List (S188)) (r1 : Int) (r2 : Int) (r3 : Int) (r4 : List (S172)) (w : World) (hr0_3 : Kd.C k188 w A0_3 l0_3.length l0_3) (hc0_3 : l0_3.length ≤ c0_3) (h : laws_toCond.f k a0_0 a0_1 a0_2 l0_3 = some (r1, r2, r3, r4)),
  Calls Tryz.prog 245 #[.agg #[.int .i64 a0_0, .int .i64 a0_1, .int .i64 a0_2, .slice A0_3 l0_3.length c0_3]] w fun e w' => ∃ v3_ : Value, e = .returned (.agg #[.int .i64 r1, .int .i64 r2, .int .i64 r3, v3_]) ∧ Kd.R k172 172 w' w.heap.size (fun _ => True) v3_ r4 ∧ Below w.heap.size w w'
theorem laws_toCondS.step (k : Nat) (ih_laws_toCondS : ∀ m_, m_ < k → laws_toCondS.Stmt m_) (ih_laws_toCond : ∀ m_, m_ < k → laws_toCond.Stmt m_) : laws_toCondS.Stmt k := by
 unfold laws_toCondS.Stmt
 intro A0 c0 l0 r w hr0 hc0 h
 cases k with
 | zero => exact absurd h (by simp [laws_toCondS.f])
 | succ k =>
 simp only [laws_toCondS.f] at h
 have hu188 := Tryz.underlying188
 have hu172 := Tryz.underlying172
 have HR0 := Aside0.mk hr0
 have HC0 := Aside0.mk hc0
 clear hr0 hc0
 have HB := Aside0.mk (Below.refl w.heap.size w)
 have H : (if 0 ≤ (l0.length : Int) then (if ((l0.length : Int) : Int).toNat ≤ 5864062014805 then (laws_toCondS.l0 k l0 (List.replicate ((l0.length : Int) : Int).toNat z172) 0) else (none)) else (none)) = some r := h
 clear h
 replace H := ifN H; obtain ⟨c2, H⟩ := H
 have c2b0 := eq_true c2
 have c2b1 := decT c2
 clear c2
 replace H := ifN H; obtain ⟨c3, H⟩ := H
 have c3b0 := eq_true c3
 have c3b1 := decT c3
 clear c3
 obtain ⟨y159, hy159⟩ : ∃ y_ : List (S172), y_ = (List.replicate ((l0.length : Int) : Int).toNat z172) := ⟨_, rfl⟩
 replace H : (laws_toCondS.l0 k l0 y159 0) = some r := by first | (rw [hy159]; with_reducible exact H) | (have H2_ := (Option.bind_some _ _).symm.trans H; rw [hy159]; with_reducible exact H2_) | (have H2_ := (Option.bind_some _ _).symm.trans H; with_reducible exact H2_) | with_reducible exact H | (rw [hy159]; exact H) | exact H
 have Ny159 := Aside0.mk hy159
 clear hy159
 have H' := Aside0.mk H
 clear H
 go_enter Tryz.func332, Tryz.ntmps332
 go_wp2_with (first | ((with_reducible refine gate_dst (N := 7) rfl ?_); refine Kd.R_make k172 _ 172 rfl (N := 7) rfl 170 _ _ rfl (l0.length : Int) rfl rfl Tryz.underlying170 (.agg #[(.int .i64 0), (.int .i64 0), (.int .i64 0), (.slice none 0 0)]) 48 info172 rfl (by decide) (by omega) z172 (ok := fun _ => True) (okp := fun _ => True) (k172_mkM _ _ _ z172 (Kd.R_nil _ _ _ _ _)) (fun _ hk => hk) trivial (of_decide_eq_true zA) (Nat.le_trans (Nat.mul_le_mul_right _ (of_decide_eq_true zA : (l0.length : Int).toNat ≤ 5864062014805)) (by omega)) (Below.refl _ _) (Nat.le_refl _) ?_; intro v160 w4 ho5 hb hg_ hnew_; clear hg_ hnew_; (first | rw [← Ny159.out] at ho5 | (simp only [Int.reduceToNat] at ho5; rw [← Ny159.out] at ho5)); have n0_ := Aside0.mk (Kd.R_lower ho5 (below_size zB)); have n1_ := Aside0.mk (below_step zB hb); clear HB; have HO161 := n0_; (try have hv1_161 := fun (W_ : World) (a_ : Addr) (m_ : Mode) => run_store Tryz.prog W_ a_ _ m_ (Kd.R_val HO161.out).2); have HB := n1_; clear n0_ n1_; clear hb ho5))
 go_loopg [4] k (fun kq v4 w' => ∃ (x3_1 : List (S172)) (x4_1 : Int), v4 = .int .i64 x4_1 ∧ Aside0 (laws_toCondS.l0 kq l0 x3_1 x4_1 = some r) ∧ Aside0 (kq ≤ k) ∧ Aside0 (Kd.R k172 172 w' w.heap.size (fun _ => True) v160 x3_1) ∧ Aside0 (Below w.heap.size w w'))
 case atStart => exact ⟨(y159), (0), zT, H', ⟨Nat.le_refl _⟩, ⟨zR HO161⟩, ⟨zB⟩⟩
 case round =>
  clear H'
  (try clear c2)
  (try clear c2b0)
  (try clear c2b1)
  (try clear p2)
  (try clear c3)
  (try clear c3b0)
  (try clear c3b1)
  obtain ⟨x3_1, x4_1, rfl, HA, HK1, HO_3, HB⟩ := hrel
  cases gk with
  | zero => exact absurd HA.out (by simp [laws_toCondS.l0])
  | succ k1 =>
   have H := HA.out; clear HA; simp only [laws_toCondS.l0] at H; replace H := ifD H; rcases H with ⟨c6, H⟩ | ⟨c6, H⟩; rotate_left
   ·have c6b0 := decF c6; clear c6; obtain rfl := Option.some.inj H; go_wp2; go_ret; exact ⟨_, zE, zR HO_3, zB⟩
   have c6b0 := decT c6; clear c6; replace H := ifN H; obtain ⟨c7, H⟩ := H; have c7b0 := decT c7; clear c7; replace H := obs H; obtain ⟨⟨t163, t164, t165, t166⟩, A80, H⟩ := H; (try dsimp only at H); have A8 := Aside0.mk A80; clear A80; replace H := ifN H; obtain ⟨c9, H⟩ := H; have c9b0 := decT c9; clear c9; obtain ⟨y169, hy169⟩ : ∃ y_ : List (S172), y_ = (x3_1.set (x4_1 : Int).toNat (⟨t163, t164, t165, t166⟩ : S172)) := ⟨_, rfl⟩; replace H : (laws_toCondS.l0 k1 l0 y169 (wrap64 (x4_1 + 1))) = some r := by first | (rw [hy169]; with_reducible exact H) | (have H2_ := (Option.bind_some _ _).symm.trans H; rw [hy169]; with_reducible exact H2_) | (have H2_ := (Option.bind_some _ _).symm.trans H; with_reducible exact H2_) | with_reducible exact H | (rw [hy169]; exact H) | exact H
   have Ny169 := Aside0.mk hy169; clear hy169; have H' := Aside0.mk H; clear H; have p162 : 0 ≤ (x4_1 : Int) := of_decide_eq_true zA; have q162 : x4_1 < (l0.length : Int) := of_decide_eq_true zA; obtain ⟨ad162, A162_3, c162_3, e162, hx162_0, hx162_1, hx162_2, hx162_3, hl162_3, hi162_3⟩ := at_T188 HR0.out x4_1 p162 q162; cases e162; replace hx162_0 := (HB.out.cell (World.block_lt_of_cell? w _ hx162_0)).trans hx162_0; replace hx162_1 := (HB.out.cell (World.block_lt_of_cell? w _ hx162_1)).trans hx162_1; replace hx162_2 := (HB.out.cell (World.block_lt_of_cell? w _ hx162_2)).trans hx162_2; replace hx162_3 := (HB.out.cell (World.block_lt_of_cell? w _ hx162_3)).trans hx162_3; have HR162_3 := Aside0.mk hi162_3; have HC162_3 := Aside0.mk hl162_3; clear hi162_3 hl162_3; replace p162 := eq_true p162; replace q162 := eq_true q162; go_wp2_with (first | ((with_reducible refine gate_callee (f := 245) rfl ?_); refine goesL_ (some 20) rfl rfl Tryz.func245 (by kernel_rfl) rfl #[.agg #[.int .i64 ((rd_T188 l0 x4_1).f0), .int .i64 ((rd_T188 l0 x4_1).f1), .int .i64 ((rd_T188 l0 x4_1).f2), .slice A162_3 ((rd_T188 l0 x4_1).f3).length c162_3]] rfl zM ?_; (with_reducible refine (ih_laws_toCond k1 (by have := HK1.out; omega) ((rd_T188 l0 x4_1).f0) ((rd_T188 l0 x4_1).f1) ((rd_T188 l0 x4_1).f2) _ _ ((rd_T188 l0 x4_1).f3) t163 t164 t165 t166 _ ?side1 ?side2 A8.out).mono ?_); (case side1 => repeat (first | exact (Kd.C_below HR162_3.out HB.out) | (with_reducible refine Kd.C_alloc ?_ _) | (with_reducible refine Kd.C_drewN ?_ _) | (with_reducible refine Kd.C_drew ?_))); (case side2 => exact HC162_3.out); rintro e w11 ⟨v167, rfl, ho0, hb⟩; refine ⟨_, rfl, ?_⟩; have n0_ := Aside0.mk (Kd.R_elder' (zR HO_3) (Kd.R_base ho0) hb); have n1_ := Aside0.mk (Kd.R_lower (Kd.R_new' ho0 (Kd.R_lt (zR HO_3))) (below_size zB)); have n2_ := Aside0.mk (below_step zB hb); clear HO_3; clear HB; have HO_3 := n0_; have HO168 := n1_; (try have hv1_168 := fun (W_ : World) (a_ : Addr) (m_ : Mode) => run_store Tryz.prog W_ a_ _ m_ (Kd.R_val HO168.out).2); have HB := n2_; clear n0_ n1_ n2_; (try clear hb); (try clear hb2); (try clear hk); (try clear hi); (try clear ho0); have p10 : 0 ≤ (x4_1 : Int) := of_decide_eq_true zA; have q10 : (x4_1 : Int) < ((x3_1.length : Int) : Int) := of_decide_eq_true zA; obtain ⟨go10, co10, eo10, gb10, gl10, cl10, HG10⟩ := Kd.R_form HO_3.out (by omega); (first | cases eo10 | (injection eo10 with ea_ en_ ec_; (first | subst ea_ | (injection ea_ with ea_; subst ea_)); subst ec_; clear en_)); have GB10 := Aside0.mk gb10; have GG10 := Aside0.mk HG10; clear gb10 gl10 HG10; obtain ⟨ce10, hcl10, hM10, hcc10, hfr10⟩ := Kd.R_elem HO_3.out z172 (x4_1 : Int) p10 q10; obtain ⟨ve10_3, rfl, ge10_3⟩ := k172_openM hM10; have hx10_0 : w11.cell? ⟨go10, (x4_1 : Int).toNat * 4, none⟩ = some (.int .i64 ((rd_T172 x3_1 x4_1).f0)) := hcc10 0 _ rfl; have hx10_1 : w11.cell? ⟨go10, (x4_1 : Int).toNat * 4 + 1, none⟩ = some (.int .i64 ((rd_T172 x3_1 x4_1).f1)) := hcc10 1 _ rfl; have hx10_2 : w11.cell? ⟨go10, (x4_1 : Int).toNat * 4 + 2, none⟩ = some (.int .i64 ((rd_T172 x3_1 x4_1).f2)) := hcc10 2 _ rfl; have hx10_3 : w11.cell? ⟨go10, (x4_1 : Int).toNat * 4 + 3, none⟩ = some (ve10_3) := hcc10 3 _ rfl; have hf10_0 : w11.frozen? ⟨go10, (x4_1 : Int).toNat * 4, none⟩ = false := hfr10 0; have hf10_1 : w11.frozen? ⟨go10, (x4_1 : Int).toNat * 4 + 1, none⟩ = false := hfr10 1; have hf10_2 : w11.frozen? ⟨go10, (x4_1 : Int).toNat * 4 + 2, none⟩ = false := hfr10 2; have hf10_3 : w11.frozen? ⟨go10, (x4_1 : Int).toNat * 4 + 3, none⟩ = false := hfr10 3; clear hcl10 hcc10 hfr10 hM10; replace p10 := eq_true p10; replace q10 := eq_true q10; have n_ := Aside0.mk (Kd.R_mono (ok' := (fun k_ => some k_ ≠ (v167 : Value).ownBlock)) HO_3.out (fun k_ hk => hk.2)); clear HO_3; have HO_3 := n_; clear n_; have HX12 := Aside0.mk (show Kd.R k172 172 w11 w.heap.size (fun _ => True) (.slice (some ⟨go10, 0, none⟩) x3_1.length co10) x3_1 from (by (with_reducible repeat (first | apply Kd.R_alloc | apply Kd.R_drewN | apply Kd.R_drew)); exact Kd.R_mono HO_3.out (fun _ hk => trivial))); obtain ⟨ce12, hcl12, hM12, hcc12, hfr12⟩ := Kd.R_elem HX12.out z172 (x4_1 : Int) (of_decide_eq_true zA) (by have h_ : (x4_1 : Int) < ((x3_1.length : Int) : Int) := of_decide_eq_true zA; first | exact h_ | (have e_ := (Kd.R_reads' HO_3.out).1; omega) | simpa using h_); obtain ⟨ve12_3, rfl, ge12_3⟩ := k172_openM hM12; have HP12 := Kd.R_seg HX12.out (x4_1 : Int) (of_decide_eq_true zA) (by have h_ : (x4_1 : Int) < ((x3_1.length : Int) : Int) := of_decide_eq_true zA; first | exact h_ | (have e_ := (Kd.R_reads' HO_3.out).1; omega) | simpa using h_) (seg := [.int .i64 t163, .int .i64 t164, .int .i64 t165, v167]) (j := 0) hcl12 hcc12 (show 4 ≤ 4 from by decide) (x' := (⟨t163, t164, t165, t166⟩ : S172)) (k172_mkM _ _ _ (⟨t163, t164, t165, t166⟩ : S172) (Kd.R_mono (HO168.out) (fun k_ hk => ⟨trivial, fun e_ => (hk.2) (by rw [e_]; rfl)⟩))) (fun _ hk => hk); have hx12_0 := hcc12 0 _ rfl; (try simp only [show (k172).sz = 4 from rfl, Nat.mul_one, Nat.add_zero] at hx12_0); have hf12_0 := hfr12 0; (try simp only [show (k172).sz = 4 from rfl, Nat.mul_one, Nat.add_zero] at hf12_0); have hx12_1 := hcc12 1 _ rfl; (try simp only [show (k172).sz = 4 from rfl, Nat.mul_one, Nat.add_zero] at hx12_1); have hf12_1 := hfr12 1; (try simp only [show (k172).sz = 4 from rfl, Nat.mul_one, Nat.add_zero] at hf12_1); have hx12_2 := hcc12 2 _ rfl; (try simp only [show (k172).sz = 4 from rfl, Nat.mul_one, Nat.add_zero] at hx12_2); have hf12_2 := hfr12 2; (try simp only [show (k172).sz = 4 from rfl, Nat.mul_one, Nat.add_zero] at hf12_2); have hx12_3 := hcc12 3 _ rfl; (try simp only [show (k172).sz = 4 from rfl, Nat.mul_one, Nat.add_zero] at hx12_3); have hf12_3 := hfr12 3; (try simp only [show (k172).sz = 4 from rfl, Nat.mul_one, Nat.add_zero] at hf12_3); clear hcl12 hcc12 hfr12 hM12) | ((with_reducible refine gate_store (t := 172) (p := 21) rfl ?_); refine store_event (t := 172) (p := 21) (v := ?vo_w13) (w1 := ((((w11.setCell ⟨go10, (x4_1 : Int).toNat * 4, none⟩ (.int .i64 t163)).setCell ⟨go10, (x4_1 : Int).toNat * 4 + 1, none⟩ (.int .i64 t164)).setCell ⟨go10, (x4_1 : Int).toNat * 4 + 2, none⟩ (.int .i64 t165)).setCell ⟨go10, (x4_1 : Int).toNat * 4 + 3, none⟩ (v167))) ?hg ?ho ?hn ?hr ?_; (case ho => rfl); (case hg => rfl); (case hn => rfl); (case hr => first | (go_simp; done) | (go_simp; rfl)); intro w13 hw; have hg : w11.grownBy w13 (some go10) := (by rw [hw]; exact HP12.2); have hp_ : Kd.R k172 172 w13 w.heap.size (fun _ => True) (.slice (some ⟨go10, 0, none⟩) x3_1.length co10) y169 := (by rw [hw, Ny169.out]; exact HP12.1); clear HP12; have n0_ := Aside0.mk (hp_); have n1_ := Aside0.mk ((by rw [hw]; exact below_set (below_set (below_set (below_set (HB.out) GB10.out) GB10.out) GB10.out) GB10.out : Below w.heap.size w w13)); clear HO_3; clear HB; clear HO168; have HO_3 := n0_; have HB := n1_; clear n0_ n1_; clear hg hw hp_))
   go_roundg k1
   case measure => have := HK1.out; omega
   case rel => exact ⟨(y169), (wrap64 (x4_1 + 1)), zT, H', ⟨by have := HK1.out; omega⟩, ⟨zR HO_3⟩, ⟨zB⟩⟩
theorem laws_toCond.step (k : Nat) (ih_laws_toCondS : ∀ m_, m_ < k → laws_toCondS.Stmt m_) (ih_laws_toCond : ∀ m_, m_ < k → laws_toCond.Stmt m_) : laws_toCond.Stmt k := by
 unfold laws_toCond.Stmt
 intro a0_0 a0_1 a0_2 A0_3 c0_3 l0_3 r1 r2 r3 r4 w hr0_3 hc0_3 h
 cases k with
 | zero => exact absurd h (by simp [laws_toCond.f])
 | succ k =>
 simp only [laws_toCond.f] at h
 have hu188 := Tryz.underlying188
 have hu172 := Tryz.underlying172
 have HR0_3 := Aside0.mk hr0_3
 have HC0_3 := Aside0.mk hc0_3
 clear hr0_3 hc0_3
 have HB := Aside0.mk (Below.refl w.heap.size w)
 have H : ((laws_toCondS.f k l0_3).bind fun t173 => (some (a0_0, a0_1, a0_2, t173))) = some (r1, r2, r3, r4) := h
 clear h
 replace H := obs H
 obtain ⟨t173, A20, H⟩ := H
 (try dsimp only at H)
 have A2 := Aside0.mk A20
 clear A20
 simp only [Option.some.injEq, Prod.mk.injEq] at H
 obtain ⟨rfl, rfl, rfl, rfl⟩ := H
 go_enter Tryz.func245, Tryz.ntmps245
 go_wp2_with (first | ((with_reducible refine gate_dst (N := 1) rfl ?_); refine box_event ?hg (N := 1) ?hd (cs := #[.int .i64 a0_0, .int .i64 a0_1, .int .i64 a0_2, .slice A0_3 l0_3.length c0_3]) (t := 188) ?hr ?_; (case hd => rfl); (case hg => rfl); (case hr => first | (go_simp; done) | (go_simp; rfl)); intro gb170 hg w3 hbox hb; have n0_ := Aside0.mk (below_step zB hb); have n1_ := Aside0.mk (hbox); have n2_ := Aside0.mk ((by rw [hg]; exact (below_size zB) : w.heap.size ≤ gb170)); have n3_ := Aside0.mk ((by rw [hg]; exact (below_size zB) : w.heap.size ≤ gb170)); clear HB; have HB := n0_; have BK170 := n1_; have GW170 := n2_; have GE170 := n3_; clear n0_ n1_ n2_ n3_; clear hb hbox hg) | ((with_reducible refine gate_dst (N := 2) rfl ?_); refine box_event ?hg (N := 2) ?hd (cs := #[.int .i64 0, .int .i64 0, .int .i64 0, .slice none 0 0]) (t := 172) ?hr ?_; (case hd => rfl); (case hg => rfl); (case hr => first | (go_simp; done) | (go_simp; rfl)); intro gb171 hg w4 hbox hb; have n0_ := Aside0.mk (blk_below (g := gb170) (o := .cells #[.int .i64 a0_0, .int .i64 a0_1, .int .i64 a0_2, .slice A0_3 l0_3.length c0_3] 188 (0, 0)) (zX BK170) hb); have n1_ := Aside0.mk (below_step zB hb); have n2_ := Aside0.mk (hbox); have n3_ := Aside0.mk ((by rw [hg]; exact (below_size zB) : w.heap.size ≤ gb171)); have n4_ := Aside0.mk ((by rw [hg]; exact (below_size zB) : w.heap.size ≤ gb171)); have n5_ := Aside0.mk ((by rw [hg]; exact Nat.ne_of_lt (blk_lt (g := gb170) (o := .cells #[.int .i64 a0_0, .int .i64 a0_1, .int .i64 a0_2, .slice A0_3 l0_3.length c0_3] 188 (0, 0)) (zX BK170)) : gb170 ≠ gb171)); have n6_ := Aside0.mk ((by rw [hg]; exact Nat.ne_of_gt (blk_lt (g := gb170) (o := .cells #[.int .i64 a0_0, .int .i64 a0_1, .int .i64 a0_2, .slice A0_3 l0_3.length c0_3] 188 (0, 0)) (zX BK170)) : gb171 ≠ gb170)); clear BK170; clear HB; have BK170 := n0_; have HB := n1_; have BK171 := n2_; have GW171 := n3_; have GE171 := n4_; have NB170_171 := n5_; have NB171_170 := n6_; clear n0_ n1_ n2_ n3_ n4_ n5_ n6_; clear hb hbox hg) | ((with_reducible refine gate_dst (N := 3) rfl ?_); refine box_event ?hg (N := 3) ?hd (cs := #[.int .i64 0, .int .i64 0, .int .i64 0, .slice none 0 0]) (t := 172) ?hr ?_; (case hd => rfl); (case hg => rfl); (case hr => first | (go_simp; done) | (go_simp; rfl)); intro gb172 hg w5 hbox hb; have n0_ := Aside0.mk (blk_below (g := gb170) (o := .cells #[.int .i64 a0_0, .int .i64 a0_1, .int .i64 a0_2, .slice A0_3 l0_3.length c0_3] 188 (0, 0)) (zX BK170) hb); have n1_ := Aside0.mk (blk_below (g := gb171) (o := .cells #[.int .i64 0, .int .i64 0, .int .i64 0, .slice none 0 0] 172 (0, 0)) (zX BK171) hb); have n2_ := Aside0.mk (below_step zB hb); have n3_ := Aside0.mk (hbox); have n4_ := Aside0.mk ((by rw [hg]; exact (below_size zB) : w.heap.size ≤ gb172)); have n5_ := Aside0.mk ((by rw [hg]; exact (below_size zB) : w.heap.size ≤ gb172)); have n6_ := Aside0.mk ((by rw [hg]; exact Nat.ne_of_lt (blk_lt (g := gb170) (o := .cells #[.int .i64 a0_0, .int .i64 a0_1, .int .i64 a0_2, .slice A0_3 l0_3.length c0_3] 188 (0, 0)) (zX BK170)) : gb170 ≠ gb172)); have n7_ := Aside0.mk ((by rw [hg]; exact Nat.ne_of_gt (blk_lt (g := gb170) (o := .cells #[.int .i64 a0_0, .int .i64 a0_1, .int .i64 a0_2, .slice A0_3 l0_3.length c0_3] 188 (0, 0)) (zX BK170)) : gb172 ≠ gb170)); have n8_ := Aside0.mk ((by rw [hg]; exact Nat.ne_of_lt (blk_lt (g := gb171) (o := .cells #[.int .i64 0, .int .i64 0, .int .i64 0, .slice none 0 0] 172 (0, 0)) (zX BK171)) : gb171 ≠ gb172)); have n9_ := Aside0.mk ((by rw [hg]; exact Nat.ne_of_gt (blk_lt (g := gb171) (o := .cells #[.int .i64 0, .int .i64 0, .int .i64 0, .slice none 0 0] 172 (0, 0)) (zX BK171)) : gb172 ≠ gb171)); clear BK170; clear BK171; clear HB; have BK170 := n0_; have BK171 := n1_; have HB := n2_; have BK172 := n3_; have GW172 := n4_; have GE172 := n5_; have NB170_172 := n6_; have NB172_170 := n7_; have NB171_172 := n8_; have NB172_171 := n9_; clear n0_ n1_ n2_ n3_ n4_ n5_ n6_ n7_ n8_ n9_; clear hb hbox hg; have hnb6 := NB170_171.out; have hnc6 := NB171_170.out; have hnb7 := NB170_172.out; have hnc7 := NB172_170.out; have hcz8_0 : w5.cell? ⟨gb170, 0, none⟩ = some (.int .i64 a0_0) := (blk_cell BK170.out 0).trans rfl; have hcz8_1 : w5.cell? ⟨gb170, 1, none⟩ = some (.int .i64 a0_1) := (blk_cell BK170.out 1).trans rfl; have hcz8_2 : w5.cell? ⟨gb170, 2, none⟩ = some (.int .i64 a0_2) := (blk_cell BK170.out 2).trans rfl; have hcz8_3 : w5.cell? ⟨gb170, 3, none⟩ = some (.slice A0_3 l0_3.length c0_3) := (blk_cell BK170.out 3).trans rfl; have hfz8_0 := blk_frozen BK170.out 0; have hfz8_1 := blk_frozen BK170.out 1; have hfz8_2 := blk_frozen BK170.out 2; have hfz8_3 := blk_frozen BK170.out 3; have hnb9 := NB172_171.out; have hnc9 := NB171_172.out; have hcz10_0 : w5.cell? ⟨gb172, 0, none⟩ = some (.int .i64 0) := (blk_cell BK172.out 0).trans rfl; have hcz10_1 : w5.cell? ⟨gb172, 1, none⟩ = some (.int .i64 0) := (blk_cell BK172.out 1).trans rfl; have hcz10_2 : w5.cell? ⟨gb172, 2, none⟩ = some (.int .i64 0) := (blk_cell BK172.out 2).trans rfl; have hcz10_3 : w5.cell? ⟨gb172, 3, none⟩ = some (.slice none 0 0) := (blk_cell BK172.out 3).trans rfl; have hfz10_0 := blk_frozen BK172.out 0; have hfz10_1 := blk_frozen BK172.out 1; have hfz10_2 := blk_frozen BK172.out 2; have hfz10_3 := blk_frozen BK172.out 3) | ((with_reducible refine gate_callee (f := 332) rfl ?_); refine goesL_ (some 15) rfl rfl Tryz.func332 (by kernel_rfl) rfl #[.slice A0_3 l0_3.length c0_3] rfl zM ?_; (with_reducible refine (ih_laws_toCondS k (by omega) _ _ l0_3 t173 _ ?side1 ?side2 A2.out).mono ?_); (case side1 => exact Kd.C_below HR0_3.out zB); (case side2 => exact HC0_3.out); rintro e w11 ⟨v174, rfl, ho0, hb⟩; refine ⟨_, rfl, ?_⟩; have n0_ := Aside0.mk (Kd.R_lower (Kd.R_newB (Kd.R_newB ho0 (g := gb171) (o := .cells #[.int .i64 0, .int .i64 0, .int .i64 0, .slice none 0 0] 172 (0, 0)) (zF)) (g := gb172) (o := .cells #[.int .i64 a0_0, .int .i64 a0_1, .int .i64 a0_2, .slice none 0 0] 172 (0, 0)) (zP)) (below_size zB)); have n1_ := Aside0.mk (blk_below (g := gb170) (o := .cells #[.int .i64 a0_0, .int .i64 a0_1, .int .i64 a0_2, .slice A0_3 l0_3.length c0_3] 188 (0, 0)) (zF) hb); have n2_ := Aside0.mk (blk_below (g := gb171) (o := .cells #[.int .i64 0, .int .i64 0, .int .i64 0, .slice none 0 0] 172 (0, 0)) (zF) hb); have n3_ := Aside0.mk (blk_below (g := gb172) (o := .cells #[.int .i64 a0_0, .int .i64 a0_1, .int .i64 a0_2, .slice none 0 0] 172 (0, 0)) (zP) hb); have n4_ := Aside0.mk (below_step zB hb); clear BK170; clear BK171; clear BK172; clear HB; have HO175 := n0_; (try have hv1_175 := fun (W_ : World) (a_ : Addr) (m_ : Mode) => run_store Tryz.prog W_ a_ _ m_ (Kd.R_val HO175.out).2); have BK170 := n1_; have BK171 := n2_; have BK172 := n3_; have HB := n4_; clear n0_ n1_ n2_ n3_ n4_; (try clear hb); (try clear hb2); (try clear hk); (try clear hi); (try clear ho0); obtain ⟨Ao12, co12, eo12⟩ := Kd.R_slice HO175.out; subst eo12; have hcz13_0 : w11.cell? ⟨gb172, 0, none⟩ = some (.int .i64 a0_0) := (blk_cell BK172.out 0).trans rfl; have hcz13_1 : w11.cell? ⟨gb172, 1, none⟩ = some (.int .i64 a0_1) := (blk_cell BK172.out 1).trans rfl; have hcz13_2 : w11.cell? ⟨gb172, 2, none⟩ = some (.int .i64 a0_2) := (blk_cell BK172.out 2).trans rfl; have hcz13_3 : w11.cell? ⟨gb172, 3, none⟩ = some (.slice none 0 0) := (blk_cell BK172.out 3).trans rfl; have hfz13_0 := blk_frozen BK172.out 0; have hfz13_1 := blk_frozen BK172.out 1; have hfz13_2 := blk_frozen BK172.out 2; have hfz13_3 := blk_frozen BK172.out 3; have hcz14_0 : w11.cell? ⟨gb171, 0, none⟩ = some (.int .i64 0) := (blk_cell BK171.out 0).trans rfl; have hcz14_1 : w11.cell? ⟨gb171, 1, none⟩ = some (.int .i64 0) := (blk_cell BK171.out 1).trans rfl; have hcz14_2 : w11.cell? ⟨gb171, 2, none⟩ = some (.int .i64 0) := (blk_cell BK171.out 2).trans rfl; have hcz14_3 : w11.cell? ⟨gb171, 3, none⟩ = some (.slice none 0 0) := (blk_cell BK171.out 3).trans rfl; have hfz14_0 := blk_frozen BK171.out 0; have hfz14_1 := blk_frozen BK171.out 1; have hfz14_2 := blk_frozen BK171.out 2; have hfz14_3 := blk_frozen BK171.out 3))
 refine bodyPost_ret (results_cell_row rfl _ _ gb171 172 #[.int .i64 a0_0, .int .i64 a0_1, .int .i64 a0_2, .slice Ao12 t173.length co12] (0, 0) _ rfl (zP) Tryz.underlying172 rfl (by kernel_rfl)) rfl ?_
 exact ⟨_, zE, by (with_reducible repeat (first | apply Kd.R_alloc | apply Kd.R_drewN | apply Kd.R_drew)); exact Kd.R_mono (Kd.R_far (p := ⟨gb171, 3, none⟩) (Kd.R_far (p := ⟨gb171, 2, none⟩) (Kd.R_far (p := ⟨gb171, 1, none⟩) (Kd.R_far (p := ⟨gb171, 0, none⟩) (Kd.R_far (p := ⟨gb172, 3, none⟩) (Kd.R_mono (Kd.R_mono HO175.out (fun k_ hk => (⟨hk, hk.2⟩ : _ ∧ k_ ≠ gb172))) (fun k_ hk => (⟨hk, hk.1.1.2⟩ : _ ∧ k_ ≠ gb171))) (fun _ hk => hk.1.2) (.slice Ao12 t173.length co12)) (fun _ hk => hk.2) (.int .i64 a0_0)) (fun _ hk => hk.2) (.int .i64 a0_1)) (fun _ hk => hk.2) (.int .i64 a0_2)) (fun _ hk => hk.2) (.slice Ao12 t173.length co12)) (fun _ hk => trivial), zB⟩
theorem laws_toCondS.both (k : Nat) : laws_toCondS.Stmt k ∧ laws_toCond.Stmt k := by
 induction k using Nat.strongRecOn with
 | _ k ih =>
 exact ⟨laws_toCondS.step k (fun m hm => (ih m hm).1) (fun m hm => (ih m hm).2), laws_toCond.step k (fun m hm => (ih m hm).1) (fun m hm => (ih m hm).2)⟩
theorem laws_toCond.calls (k : Nat) : ∀ (a0_0 : Int) (a0_1 : Int) (a0_2 : Int) (A0_3 : Option Addr) (c0_3 : Nat) (l0_3 : List (S188)) (r1 : Int) (r2 : Int) (r3 : Int) (r4 : List (S172)) (w : World) (hr0_3 : Kd.C k188 w A0_3 l0_3.length l0_3) (hc0_3 : l0_3.length ≤ c0_3) (h : laws_toCond.f k a0_0 a0_1 a0_2 l0_3 = some (r1, r2, r3, r4)),
  Calls Tryz.prog 245 #[.agg #[.int .i64 a0_0, .int .i64 a0_1, .int .i64 a0_2, .slice A0_3 l0_3.length c0_3]] w fun e w' => ∃ v3_ : Value, e = .returned (.agg #[.int .i64 r1, .int .i64 r2, .int .i64 r3, v3_]) ∧ Kd.R k172 172 w' w.heap.size (fun _ => True) v3_ r4 ∧ Below w.heap.size w w' := (laws_toCondS.both k).2
def laws_toRule.f (k : Nat) (a0_0 : Int) (a0_1 : Int) (a0_2 : Int) (a0_3 : Int) (a0_4 : Int) (a0_5 : Int) (l0_6 : List (S188)) : Option (Int × Int × Int × Int × Int × Int × (List (S172))) := (laws_toCond.f k a0_3 a0_4 a0_5 l0_6).bind fun bt179 => (some (a0_0, a0_1, a0_2, bt179.1, bt179.2.1, bt179.2.2.1, bt179.2.2.2))
theorem laws_toRule.calls (k : Nat) (a0_0 : Int) (a0_1 : Int) (a0_2 : Int) (a0_3 : Int) (a0_4 : Int) (a0_5 : Int) (A0_6 : Option Addr) (c0_6 : Nat) (l0_6 : List (S188)) (r1 : Int) (r2 : Int) (r3 : Int) (r4 : Int) (r5 : Int) (r6 : Int) (r7 : List (S172)) (w : World) (hr0_6 : Kd.C k188 w A0_6 l0_6.length l0_6) (hc0_6 : l0_6.length ≤ c0_6) (h : laws_toRule.f k a0_0 a0_1 a0_2 a0_3 a0_4 a0_5 l0_6 = some (r1, r2, r3, r4, r5, r6, r7)) :
  Calls Tryz.prog 128 #[.agg #[.int .i64 a0_0, .int .i64 a0_1, .int .i64 a0_2, .int .i64 a0_3, .int .i64 a0_4, .int .i64 a0_5, .slice A0_6 l0_6.length c0_6]] w fun e w' => ∃ v6_ : Value, e = .returned (.agg #[.int .i64 r1, .int .i64 r2, .int .i64 r3, .int .i64 r4, .int .i64 r5, .int .i64 r6, v6_]) ∧ Kd.R k172 172 w' w.heap.size (fun _ => True) v6_ r7 ∧ Below w.heap.size w w' := by
 have hu172 := Tryz.underlying172; have hu174 := Tryz.underlying174; have hu188 := Tryz.underlying188; have hu190 := Tryz.underlying190
 have HR0_6 := Aside0.mk hr0_6; have HC0_6 := Aside0.mk hc0_6; clear hr0_6 hc0_6
 unfold laws_toRule.f at h
 obtain ⟨⟨y1_0, y1_1, y1_2, y1_3⟩, m1, h⟩ := Option.bind_eq_some_iff.mp h; try dsimp only at h
 simp only [Option.some.injEq, Prod.mk.injEq] at h
 obtain ⟨rfl, rfl, rfl, rfl, rfl, rfl, rfl⟩ := h
 replace m1 := Aside0.mk m1
 have HB := Aside0.mk (Below.refl w.heap.size w)
 go_enter Tryz.func128, Tryz.ntmps128
 go_upto_region 6 with (first | (go_at_call 245; refine (laws_toCond.calls k _ _ _ _ _ _ y1_0 y1_1 y1_2 y1_3 _ (Kd.C_below HR0_6.out (by repeat (first | exact HB.out | apply below_alloc | refine bSet ?_ (by omega)))) HC0_6.out m1.out).mono ?_; rintro e W1 ⟨v3, rfl, ho3, hb⟩; obtain ⟨A1_3, q1_3, rfl⟩ := Kd.R_slice ho3; have O1_3 := Aside0.mk (R_above (base := w.heap.size) (n := w.heap.size + 1 + 1 + 1) ho3 (by simp; omega) (by simp)); have q_ := alloc3 w (.cells #[.int .i64 a0_0, .int .i64 a0_1, .int .i64 a0_2, .int .i64 a0_3, .int .i64 a0_4, .int .i64 a0_5, .slice A0_6 l0_6.length c0_6] 190) (.cells #[.int .i64 0, .int .i64 0, .int .i64 0, .int .i64 0, .int .i64 0, .int .i64 0, .slice none 0 0] 174) (.cells #[.int .i64 a0_0, .int .i64 a0_1, .int .i64 a0_2, .int .i64 0, .int .i64 0, .int .i64 0, .slice none 0 0] 174); have B1 := Aside0.mk (blk_below q_.1 hb); have B2 := Aside0.mk (blk_below q_.2.1 hb); have B3 := Aside0.mk (blk_below q_.2.2 hb); clear q_; replace HB := Aside0.mk (below_step (by repeat (first | exact HB.out | apply below_alloc | refine bSet ?_ (by omega))) hb); clear hb ho3; have c1 := blk_cell B1.out; have c3 := blk_cell B3.out; have z3 := blk_frozen B3.out))
 have E3 : ((((W1.setCell ⟨w.heap.size + 1 + 1, 3, none⟩ (.int .i64 y1_0)).setCell ⟨w.heap.size + 1 + 1, 4, none⟩ (.int .i64 y1_1)).setCell ⟨w.heap.size + 1 + 1, 5, none⟩ (.int .i64 y1_2)).setCell ⟨w.heap.size + 1 + 1, 6, none⟩ (.slice A1_3 y1_3.length q1_3)).heap[w.heap.size + 1 + 1]? = some (.cells #[.int .i64 a0_0, .int .i64 a0_1, .int .i64 a0_2, .int .i64 y1_0, .int .i64 y1_1, .int .i64 y1_2, .slice A1_3 y1_3.length q1_3] 174 (0, 0)) := (blk_set (blk_set (blk_set (blk_set B3.out 3 (.int .i64 y1_0)) 4 (.int .i64 y1_1)) 5 (.int .i64 y1_2)) 6 (.slice A1_3 y1_3.length q1_3))
 have E2 : ((((W1.setCell ⟨w.heap.size + 1 + 1, 3, none⟩ (.int .i64 y1_0)).setCell ⟨w.heap.size + 1 + 1, 4, none⟩ (.int .i64 y1_1)).setCell ⟨w.heap.size + 1 + 1, 5, none⟩ (.int .i64 y1_2)).setCell ⟨w.heap.size + 1 + 1, 6, none⟩ (.slice A1_3 y1_3.length q1_3)).heap[w.heap.size + 1]? = some (.cells #[.int .i64 0, .int .i64 0, .int .i64 0, .int .i64 0, .int .i64 0, .int .i64 0, .slice none 0 0] 174 (0, 0)) := (by repeat (first | exact B2.out | refine blk_far ?_ (by simp <;> omega) _))
 have EB : Below w.heap.size w ((((W1.setCell ⟨w.heap.size + 1 + 1, 3, none⟩ (.int .i64 y1_0)).setCell ⟨w.heap.size + 1 + 1, 4, none⟩ (.int .i64 y1_1)).setCell ⟨w.heap.size + 1 + 1, 5, none⟩ (.int .i64 y1_2)).setCell ⟨w.heap.size + 1 + 1, 6, none⟩ (.slice A1_3 y1_3.length q1_3)) := (by repeat (first | exact HB.out | apply below_alloc | refine bSet ?_ (by omega)))
 have EO1_3 : Kd.R k172 172 ((((W1.setCell ⟨w.heap.size + 1 + 1, 3, none⟩ (.int .i64 y1_0)).setCell ⟨w.heap.size + 1 + 1, 4, none⟩ (.int .i64 y1_1)).setCell ⟨w.heap.size + 1 + 1, 5, none⟩ (.int .i64 y1_2)).setCell ⟨w.heap.size + 1 + 1, 6, none⟩ (.slice A1_3 y1_3.length q1_3)) w.heap.size (fun k_ => w.heap.size + 1 + 1 + 1 ≤ k_) (.slice A1_3 y1_3.length q1_3) y1_3 := (by repeat (first | exact O1_3.out | refine Kd.R_far ?_ (fun k_ h_ => by have h2_ : w.heap.size + 1 + 1 + 1 ≤ k_ := h_; show _ ≠ _; simp; omega) _))
 clear c1 c3 z3 HB B1 B2 B3 O1_3
 generalize ((((W1.setCell ⟨w.heap.size + 1 + 1, 3, none⟩ (.int .i64 y1_0)).setCell ⟨w.heap.size + 1 + 1, 4, none⟩ (.int .i64 y1_1)).setCell ⟨w.heap.size + 1 + 1, 5, none⟩ (.int .i64 y1_2)).setCell ⟨w.heap.size + 1 + 1, 6, none⟩ (.slice A1_3 y1_3.length q1_3)) = Wf at E3 E2 EB EO1_3 ⊢
 have c3 := blk_cell E3; have c2 := blk_cell E2; have z2 := blk_frozen E2
 go_wp2
 have cf := blk_cell (blk_sets0 (rest := [.int .i64 0, .int .i64 0, .int .i64 0, .int .i64 0, .int .i64 0, .int .i64 0, .slice none 0 0]) E2 [.int .i64 a0_0, .int .i64 a0_1, .int .i64 a0_2, .int .i64 y1_0, .int .i64 y1_1, .int .i64 y1_2, .slice A1_3 y1_3.length q1_3] rfl); simp only [World.setCells] at cf
 exact bodyPost_ret (v := .agg #[.int .i64 a0_0, .int .i64 a0_1, .int .i64 a0_2, .int .i64 y1_0, .int .i64 y1_1, .int .i64 y1_2, .slice A1_3 y1_3.length q1_3]) (by simp [results, Tryz.results128, go_sem, cf]) rfl ⟨_, rfl, Kd.R_mono (R_sets (g := w.heap.size + 1) EO1_3 (fun k_ h_ => by have h2_ : w.heap.size + 1 + 1 + 1 ≤ k_ := h_; omega) [.int .i64 a0_0, .int .i64 a0_1, .int .i64 a0_2, .int .i64 y1_0, .int .i64 y1_1, .int .i64 y1_2, .slice A1_3 y1_3.length q1_3] 0) (fun _ _ => trivial), below_sets (by omega) [.int .i64 a0_0, .int .i64 a0_1, .int .i64 a0_2, .int .i64 y1_0, .int .i64 y1_1, .int .i64 y1_2, .slice A1_3 y1_3.length q1_3] 0 _ EB⟩
def laws_toRuleS.l0 : Nat → List (S190) → List (S174) → Int → Option ((List (S174)))
 | 0, _, _, _ => none
 | k + 1, x0, x3, x4 => if x4 < (x0.length : Int) then (if 0 ≤ x4 then ((laws_toRule.f k ((rd_T190 x0 x4).f0) ((rd_T190 x0 x4).f1) ((rd_T190 x0 x4).f2) ((rd_T190 x0 x4).f3.f0) ((rd_T190 x0 x4).f3.f1) ((rd_T190 x0 x4).f3.f2) ((rd_T190 x0 x4).f3.f3)).bind fun bt198 => (if x4 < (x3.length : Int) then (laws_toRuleS.l0 k x0 (x3.set (x4 : Int).toNat (⟨bt198.1, bt198.2.1, bt198.2.2.1, (⟨bt198.2.2.2.1, bt198.2.2.2.2.1, bt198.2.2.2.2.2.1, bt198.2.2.2.2.2.2⟩ : S172)⟩ : S174)) (wrap64 (x4 + 1))) else (none))) else (none)) else (some x3)
def laws_toRuleS.f (k : Nat) (l0 : List (S190)) : Option ((List (S174))) := if 0 ≤ (l0.length : Int) then (if ((l0.length : Int) : Int).toNat ≤ 3909374676536 then (laws_toRuleS.l0 k l0 (List.replicate ((l0.length : Int) : Int).toNat z174) 0) else (none)) else (none)
theorem laws_toRuleS.calls (k : Nat) (A0 : Option Addr) (c0 : Nat) (l0 : List (S190)) (r : List (S174)) (w : World) (hr0 : Kd.C k190 w A0 l0.length l0) (hc0 : l0.length ≤ c0) (h : laws_toRuleS.f k l0 = some r) :
  Calls Tryz.prog 42 #[.slice A0 l0.length c0] w fun e w' => ∃ v0_ : Value, e = .returned (v0_) ∧ Kd.R k174 174 w' w.heap.size (fun _ => True) v0_ r ∧ Below w.heap.size w w' := by
 have hu190 := Tryz.underlying190; have hu174 := Tryz.underlying174
 have HR := Aside0.mk hr0; clear hr0
 have HB := Aside0.mk (Below.refl w.heap.size w)
 unfold laws_toRuleS.f at h
 replace h := ifN h; obtain ⟨c2, h⟩ := h; replace c2 := Aside0.mk c2; replace h := ifN h; obtain ⟨c3, h⟩ := h; replace c3 := Aside0.mk c3
 obtain ⟨ys, hy⟩ : ∃ y_, y_ = (List.replicate ((l0.length : Int) : Int).toNat z174) := ⟨_, rfl⟩
 rw [← hy] at h; replace hy := Aside0.mk hy; replace h := Aside0.mk h
 go_enter Tryz.func42, Tryz.ntmps42
 go_wp2_with (first | ((with_reducible refine gate_dst (N := 7) rfl ?_); refine Kd.R_make k174 _ 174 rfl (N := 7) rfl 37 _ _ rfl (l0.length : Int) rfl rfl Tryz.underlying37 (.agg #[(.int .i64 0), (.int .i64 0), (.int .i64 0), (.int .i64 0), (.int .i64 0), (.int .i64 0), (.slice none 0 0)]) 72 info174 rfl (by decide) (by omega) z174 (ok := fun _ => True) (okp := fun _ => True) (k174_mkM _ _ _ z174 (Kd.R_nil _ _ _ _ _)) (fun _ hk => hk) trivial c2.out (Nat.le_trans (Nat.mul_le_mul_right _ c3.out) (by omega)) (Below.refl _ _) (Nat.le_refl _) ?_; intro v W1 ho hb _ _; rw [← hy.out] at ho; have O := Aside0.mk (Kd.R_lower ho (below_size HB.out)); replace HB := Aside0.mk (below_step HB.out hb); clear hb ho))
 go_loopg [4] k (fun kq v4 w' => ∃ (xs : List S174) (i : Int), v4 = .int .i64 i ∧ Aside0 (laws_toRuleS.l0 kq l0 xs i = some r) ∧ Aside0 (kq ≤ k) ∧ Aside0 (Kd.R k174 174 w' w.heap.size (fun _ => True) v xs) ∧ Aside0 (Below w.heap.size w w'))
 case atStart => exact ⟨_, 0, rfl, h, ⟨Nat.le_refl _⟩, O, HB⟩
 case round =>
  clear h O HB c2 c3
  obtain ⟨xs, i, rfl, H, Hk, O, HB⟩ := hrel
  cases gk with
  | zero => exact absurd H.out (by simp [laws_toRuleS.l0])
  | succ k1 =>
   have h := H.out; clear H; simp only [laws_toRuleS.l0] at h; replace h := ifD h; rcases h with ⟨c, h⟩ | ⟨c, h⟩; rotate_left
   ·have d1 := decF c; clear c; obtain rfl := Option.some.inj h; go_wp2; go_ret; exact ⟨_, rfl, O.out, HB.out⟩
   have d1 := decT c; replace h := ifN h; obtain ⟨c7, h⟩ := h; replace h := Option.bind_eq_some_iff.mp h; obtain ⟨⟨t198, t199, t200, t201, t202, t203, t204⟩, m, h⟩ := h; try dsimp only at h
   replace h := ifN h; obtain ⟨c9, h⟩ := h; replace h := Aside0.mk h; replace m := Aside0.mk m; obtain ⟨ad, A6, a6, e_, x0, x1, x2, x3, x4, x5, x6, l6, f6⟩ := at_T190 HR.out i c7 c; cases e_; replace x0 := xC HB ⟨x0⟩; replace x1 := xC HB ⟨x1⟩; replace x2 := xC HB ⟨x2⟩; replace x3 := xC HB ⟨x3⟩; replace x4 := xC HB ⟨x4⟩; replace x5 := xC HB ⟨x5⟩; replace x6 := xC HB ⟨x6⟩; replace l6 := Aside0.mk l6; replace f6 := Aside0.mk f6; obtain ⟨g, co, eo, hg, hq, -, -⟩ := Kd.R_form O.out (by omega); cases eo; have e1 := eq_true c; have e2 := eq_true c7; have e3 := eq_true c9; replace c := Aside0.mk c; replace c7 := Aside0.mk c7; replace c9 := Aside0.mk c9; replace hg := Aside0.mk hg; replace hq := Aside0.mk hq; go_wp2_with (first | (go_at_call 128; refine (laws_toRule.calls k1 _ _ _ _ _ _ _ _ _ t198 t199 t200 t201 t202 t203 t204 _ (Kd.C_below f6.out HB.out) l6.out  m.out).mono ?_; rintro e W2 ⟨v6, rfl, o6, hb⟩; obtain ⟨B6, b6, rfl⟩ := Kd.R_slice o6; obtain ⟨hc, hf, HP⟩ := R_fill O.out hb c7.out c9.out z174 (seg := [.int .i64 t198, .int .i64 t199, .int .i64 t200, .int .i64 t201, .int .i64 t202, .int .i64 t203, .slice B6 t204.length b6]) 7 rfl rfl hq.out (k174_mkM _ _ _ (⟨t198, t199, t200, (⟨t201, t202, t203, t204⟩ : S172)⟩ : S174) (R_above o6 (below_size HB.out) (Nat.le_refl _))); obtain ⟨_, y0⟩ := hc 0 (by decide); have q0 := hf 0; obtain ⟨_, y1⟩ := hc 1 (by decide); have q1 := hf 1; obtain ⟨_, y2⟩ := hc 2 (by decide); have q2 := hf 2; obtain ⟨_, y3⟩ := hc 3 (by decide); have q3 := hf 3; obtain ⟨_, y4⟩ := hc 4 (by decide); have q4 := hf 4; obtain ⟨_, y5⟩ := hc 5 (by decide); have q5 := hf 5; obtain ⟨_, y6⟩ := hc 6 (by decide); have q6 := hf 6; simp only [Nat.add_zero] at y0 q0; replace HP := Aside0.mk HP; replace HB := Aside0.mk (below_step HB.out hb); clear hb hc hf O o6))
   go_roundg k1
   case measure => have := Hk.out; omega
   case rel => exact ⟨_, _, rfl, h, ⟨by have := Hk.out; omega⟩, HP, ⟨below_set (below_set (below_set (below_set (below_set (below_set (below_set (HB.out) hg.out) hg.out) hg.out) hg.out) hg.out) hg.out) hg.out⟩⟩
def laws_toPolicy.f (k : Nat) (a0_0 : Int) (l0_1 : List (S190)) : Option (Int × (List (S174))) := (laws_toRuleS.f k l0_1).bind fun t225 => (some (a0_0, t225))
theorem laws_toPolicy.calls (k : Nat) (a0_0 : Int) (A0_1 : Option Addr) (c0_1 : Nat) (l0_1 : List (S190)) (r1 : Int) (r2 : List (S174)) (w : World) (hr0_1 : Kd.C k190 w A0_1 l0_1.length l0_1) (hc0_1 : l0_1.length ≤ c0_1) (h : laws_toPolicy.f k a0_0 l0_1 = some (r1, r2)) :
  Calls Tryz.prog 20 #[.agg #[.int .i64 a0_0, .slice A0_1 l0_1.length c0_1]] w fun e w' => ∃ v1_ : Value, e = .returned (.agg #[.int .i64 r1, v1_]) ∧ Kd.R k174 174 w' w.heap.size (fun _ => True) v1_ r2 ∧ Below w.heap.size w w' := by
 have hu26 := Tryz.underlying26; have hu39 := Tryz.underlying39
 have HR0_1 := Aside0.mk hr0_1; have HC0_1 := Aside0.mk hc0_1; clear hr0_1 hc0_1
 unfold laws_toPolicy.f at h
 obtain ⟨y1_0, m1, h⟩ := Option.bind_eq_some_iff.mp h; try dsimp only at h
 simp only [Option.some.injEq, Prod.mk.injEq] at h
 obtain ⟨rfl, rfl⟩ := h
 replace m1 := Aside0.mk m1
 have HB := Aside0.mk (Below.refl w.heap.size w)
 go_enter Tryz.func20, Tryz.ntmps20
 go_upto_region 4 with (first | (go_at_call 42; refine (laws_toRuleS.calls k _ _ _ y1_0 _ (Kd.C_below HR0_1.out (by repeat (first | exact HB.out | apply below_alloc | refine bSet ?_ (by omega)))) HC0_1.out m1.out).mono ?_; rintro e W1 ⟨v0, rfl, ho0, hb⟩; obtain ⟨A1_0, q1_0, rfl⟩ := Kd.R_slice ho0; have O1_0 := Aside0.mk (R_above (base := w.heap.size) (n := w.heap.size + 1 + 1 + 1) ho0 (by simp; omega) (by simp)); have q_ := alloc3 w (.cells #[.int .i64 a0_0, .slice A0_1 l0_1.length c0_1] 26) (.cells #[.int .i64 0, .slice none 0 0] 39) (.cells #[.int .i64 a0_0, .slice none 0 0] 39); have B1 := Aside0.mk (blk_below q_.1 hb); have B2 := Aside0.mk (blk_below q_.2.1 hb); have B3 := Aside0.mk (blk_below q_.2.2 hb); clear q_; replace HB := Aside0.mk (below_step (by repeat (first | exact HB.out | apply below_alloc | refine bSet ?_ (by omega))) hb); clear hb ho0; have c1 := blk_cell B1.out; have c3 := blk_cell B3.out; have z3 := blk_frozen B3.out))
 have E3 : (W1.setCell ⟨w.heap.size + 1 + 1, 1, none⟩ (.slice A1_0 y1_0.length q1_0)).heap[w.heap.size + 1 + 1]? = some (.cells #[.int .i64 a0_0, .slice A1_0 y1_0.length q1_0] 39 (0, 0)) := (blk_set B3.out 1 (.slice A1_0 y1_0.length q1_0))
 have E2 : (W1.setCell ⟨w.heap.size + 1 + 1, 1, none⟩ (.slice A1_0 y1_0.length q1_0)).heap[w.heap.size + 1]? = some (.cells #[.int .i64 0, .slice none 0 0] 39 (0, 0)) := (by repeat (first | exact B2.out | refine blk_far ?_ (by simp <;> omega) _))
 have EB : Below w.heap.size w (W1.setCell ⟨w.heap.size + 1 + 1, 1, none⟩ (.slice A1_0 y1_0.length q1_0)) := (by repeat (first | exact HB.out | apply below_alloc | refine bSet ?_ (by omega)))
 have EO1_0 : Kd.R k174 174 (W1.setCell ⟨w.heap.size + 1 + 1, 1, none⟩ (.slice A1_0 y1_0.length q1_0)) w.heap.size (fun k_ => w.heap.size + 1 + 1 + 1 ≤ k_) (.slice A1_0 y1_0.length q1_0) y1_0 := (by repeat (first | exact O1_0.out | refine Kd.R_far ?_ (fun k_ h_ => by have h2_ : w.heap.size + 1 + 1 + 1 ≤ k_ := h_; show _ ≠ _; simp; omega) _))
 clear c1 c3 z3 HB B1 B2 B3 O1_0
 generalize (W1.setCell ⟨w.heap.size + 1 + 1, 1, none⟩ (.slice A1_0 y1_0.length q1_0)) = Wf at E3 E2 EB EO1_0 ⊢
 have c3 := blk_cell E3; have c2 := blk_cell E2; have z2 := blk_frozen E2
 go_wp2
 have cf := blk_cell (blk_sets0 (rest := [.int .i64 0, .slice none 0 0]) E2 [.int .i64 a0_0, .slice A1_0 y1_0.length q1_0] rfl); simp only [World.setCells] at cf
 exact bodyPost_ret (v := .agg #[.int .i64 a0_0, .slice A1_0 y1_0.length q1_0]) (by simp [results, Tryz.results20, go_sem, cf]) rfl ⟨_, rfl, Kd.R_mono (R_sets (g := w.heap.size + 1) EO1_0 (fun k_ h_ => by have h2_ : w.heap.size + 1 + 1 + 1 ≤ k_ := h_; omega) [.int .i64 a0_0, .slice A1_0 y1_0.length q1_0] 0) (fun _ _ => trivial), below_sets (by omega) [.int .i64 a0_0, .slice A1_0 y1_0.length q1_0] 0 _ EB⟩
def laws_toRequest.f (a0_0 : Int) (a0_1 : Int) (a0_2 : Int) (a0_3 : Int) (a0_4 : Int) (a0_5 : Int) : Option (Int × Int × Int × Int × Int × Int) := some (a0_0, a0_1, a0_2, a0_3, a0_4, a0_5)
theorem laws_toRequest.calls (a0_0 : Int) (a0_1 : Int) (a0_2 : Int) (a0_3 : Int) (a0_4 : Int) (a0_5 : Int) (r1 : Int) (r2 : Int) (r3 : Int) (r4 : Int) (r5 : Int) (r6 : Int) (w : World) (h : laws_toRequest.f a0_0 a0_1 a0_2 a0_3 a0_4 a0_5 = some (r1, r2, r3, r4, r5, r6)) :
  Calls Tryz.prog 21 #[.agg #[.int .i64 a0_0, .int .i64 a0_1, .int .i64 a0_2, .int .i64 a0_3, .int .i64 a0_4, .int .i64 a0_5]] w fun e w' => e = .returned (.agg #[.int .i64 r1, .int .i64 r2, .int .i64 r3, .int .i64 r4, .int .i64 r5, .int .i64 r6]) ∧ Below w.heap.size w w' := by
 have hu28 := Tryz.underlying28; have hu41 := Tryz.underlying41
 unfold laws_toRequest.f at h
 simp only [Option.some.injEq, Prod.mk.injEq] at h
 obtain ⟨rfl, rfl, rfl, rfl, rfl, rfl⟩ := h
 go_enter Tryz.func21, Tryz.ntmps21
 go_wp2
 exact bodyPost_ret (v := .agg #[.int .i64 a0_0, .int .i64 a0_1, .int .i64 a0_2, .int .i64 a0_3, .int .i64 a0_4, .int .i64 a0_5]) (by simp [results, Tryz.results21, go_sem]) rfl ⟨rfl, by repeat (first | exact Below.refl _ _ | apply below_alloc | refine bSet ?_ (by omega))⟩
def laws_eqIncludes.f (a0_0 : Int) (a0_1 : Int) (a1_0 : Int) (a1_1 : Int) : Option (Bool) := if a0_0 = a1_0 then (if a0_1 = a1_1 then (some true) else (some false)) else (some false)
theorem laws_eqIncludes.calls (a0_0 : Int) (a0_1 : Int) (a1_0 : Int) (a1_1 : Int) (r : Bool) (w : World) (h : laws_eqIncludes.f a0_0 a0_1 a1_0 a1_1 = some r) :
  Calls Tryz.prog 99 #[.agg #[.int .i64 a0_0, .int .i64 a0_1], .agg #[.int .i64 a1_0, .int .i64 a1_1]] w fun e w' => e = .returned (.bool r) ∧ Below w.heap.size w w' := by
 have HB := Aside0.mk (Below.refl w.heap.size w)
 have H := h
 clear h
 unfold laws_eqIncludes.f at H
 have hu154 := Tryz.underlying154
 go_enter Tryz.func99, Tryz.ntmps99
 replace H := Aside0.mk H
 go_upto_region 1 with (first | ((with_reducible refine gate_dst (N := 2) rfl ?_); refine box_event ?hg (N := 2) ?hd (cs := #[.int .i64 a0_0, .int .i64 a0_1]) (t := 154) ?hr ?_; (case hd => rfl); (case hg => rfl); (case hr => first | (go_simp; done) | (go_simp; rfl)); intro gb1 hg W1 hbox hb; replace HB := bH HB hb; clear hb; have BK1 := Aside0.mk hbox; have c_BK1 := blk_cell hbox; have z_BK1 := blk_frozen hbox; clear hg hbox) | ((with_reducible refine gate_dst (N := 3) rfl ?_); refine box_event ?hg (N := 3) ?hd (cs := #[.int .i64 a1_0, .int .i64 a1_1]) (t := 154) ?hr ?_; (case hd => rfl); (case hg => rfl); (case hr => first | (go_simp; done) | (go_simp; rfl)); intro gb2 hg W2 hbox hb; replace BK1 := bK BK1 hb; replace c_BK1 := bcl BK1; replace z_BK1 := bfr BK1; replace HB := bH HB hb; clear hb; have BK2 := Aside0.mk hbox; have c_BK2 := blk_cell hbox; have z_BK2 := blk_frozen hbox; clear hg hbox))
 replace H := ifD H.out; rcases H with ⟨c3, H⟩ | ⟨c3, H⟩
 rotate_left
 ·obtain ⟨c3_0, c3_1, c3_2⟩ := d3F c3
  clear c3
  (first | rw [c3_1] | rw [c3_2] | skip)
  cases H
  go_wp2
  go_ret
  exact ⟨rfl, HB.out⟩
 obtain ⟨c3_0, c3_1, c3_2⟩ := d3T c3
 clear c3
 (first | rw [c3_1] | rw [c3_2] | skip)
 replace H := ifD H; rcases H with ⟨c4, H⟩ | ⟨c4, H⟩
 ·obtain ⟨c4_0, c4_1, c4_2⟩ := d3T c4
  clear c4
  (first | rw [c4_1] | rw [c4_2] | skip)
  cases H
  go_wp2
  go_ret
  exact ⟨rfl, HB.out⟩
 obtain ⟨c4_0, c4_1, c4_2⟩ := d3F c4
 clear c4
 (first | rw [c4_1] | rw [c4_2] | skip)
 cases H
 go_wp2
 go_ret
 exact ⟨rfl, HB.out⟩
end Go.Proofs.YtmgfklmhelabcaaGreat.QFnExactSaveDecision
