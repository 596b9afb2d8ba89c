/- The machine side of FnExactDecisionUntil: what each function that it reaches computes, and that the machine's call gives just that. -/
import Derived.Test.YtmgfklmhelabcaaGreatQFnExactDecisionUntilx0
namespace Go.Proofs.YtmgfklmhelabcaaGreat.QFnExactDecisionUntil
open Go.RowKit Go.Proofs.YtmgfklmhelabcaaGreatW.PrintWords Go.Proofs.YtmgfklmhelabcaaGreatW.PrintLast Go.Proofs.YtmgfklmhelabcaaGreatW.PrintMore
attribute [local go_sem] max2_int min2_int max_two min_two max_three min_three max_four min_four
set_option maxHeartbeats 8000000
set_option maxRecDepth 100000
open Go.Proofs.YtmgfklmhelabcaaGreatM
set_option linter.unusedVariables false
set_option linter.unusedSimpArgs false
def laws_szIncludesS.f (l0 : List (S156)) (a1 : Int) : Option (Int) := if (wrap64 (a1 - (l0.length : Int))) < 0 then (some (-1)) else (some (wrap64 (a1 - (l0.length : Int))))
theorem laws_szIncludesS.calls (A0 : Option Addr) (c0 : Nat) (l0 : List (S156)) (a1 : Int) (r : Int) (w : World) (hr0 : Kd.C k156 w A0 l0.length l0) (hc0 : l0.length ≤ c0) (h : laws_szIncludesS.f l0 a1 = some r) :
  Calls Tryz.prog 14 #[.slice A0 l0.length c0, .int .i64 a1] w fun e w' => e = .returned (.int .i64 r) ∧ Below w.heap.size w w' := by
 have HR0 := Aside0.mk hr0
 have HC0 := Aside0.mk hc0
 clear hr0 hc0
 have HB := Aside0.mk (Below.refl w.heap.size w)
 have H := h
 clear h
 unfold laws_szIncludesS.f at H
 go_enter Tryz.func14, Tryz.ntmps14
 replace H := ifD H; rcases H with ⟨c1, H⟩ | ⟨c1, H⟩
 ·have c1_0 := decT c1
  replace c1 := Aside0.mk c1
  (try rw [c1_0])
  cases H
  go_wp2
  go_ret
  exact ⟨rfl, HB.out⟩
 have c1_0 := decF c1
 replace c1 := Aside0.mk c1
 (try rw [c1_0])
 cases H
 go_wp2
 go_ret
 exact ⟨rfl, HB.out⟩
def laws_szFactS.f (l0 : List (S158)) (a1 : Int) : Option (Int) := if (wrap64 (a1 - (l0.length : Int))) < 0 then (some (-1)) else (some (wrap64 (a1 - (l0.length : Int))))
theorem laws_szFactS.calls (A0 : Option Addr) (c0 : Nat) (l0 : List (S158)) (a1 : Int) (r : Int) (w : World) (hr0 : Kd.C k158 w A0 l0.length l0) (hc0 : l0.length ≤ c0) (h : laws_szFactS.f l0 a1 = some r) :
  Calls Tryz.prog 15 #[.slice A0 l0.length c0, .int .i64 a1] w fun e w' => e = .returned (.int .i64 r) ∧ Below w.heap.size w w' := by
 have HR0 := Aside0.mk hr0
 have HC0 := Aside0.mk hc0
 clear hr0 hc0
 have HB := Aside0.mk (Below.refl w.heap.size w)
 have H := h
 clear h
 unfold laws_szFactS.f at H
 go_enter Tryz.func15, Tryz.ntmps15
 replace H := ifD H; rcases H with ⟨c1, H⟩ | ⟨c1, H⟩
 ·have c1_0 := decT c1
  replace c1 := Aside0.mk c1
  (try rw [c1_0])
  cases H
  go_wp2
  go_ret
  exact ⟨rfl, HB.out⟩
 have c1_0 := decF c1
 replace c1 := Aside0.mk c1
 (try rw [c1_0])
 cases H
 go_wp2
 go_ret
 exact ⟨rfl, HB.out⟩
mutual
def laws_szCondS.l0 : Nat → List (S188) → Int → Int → Option (Int)
 | 0, _, _, _ => none
 | k + 1, x0, x1, x5 => if x5 < (x0.length : Int) then (if 0 ≤ x5 then ((laws_szCond.f k ((rd_T188 x0 x5).f0) ((rd_T188 x0 x5).f1) ((rd_T188 x0 x5).f2) ((rd_T188 x0 x5).f3) x1).bind fun t102 => (if t102 < 0 then (some (-1)) else (laws_szCondS.l0 k x0 t102 (wrap64 (x5 + 1))))) else (none)) else (some x1)
def laws_szCondS.f : Nat → List (S188) → Int → Option (Int)
 | 0, _, _ => none
 | k + 1, l0, a1 => if (wrap64 (a1 - (l0.length : Int))) < 0 then (some (-1)) else (laws_szCondS.l0 k l0 (wrap64 (a1 - (l0.length : Int))) 0)
def laws_szCond.f : Nat → Int → Int → Int → List (S188) → Int → Option (Int)
 | 0, _, _, _, _, _ => none
 | k + 1, a0_0, a0_1, a0_2, l0_3, a1 => (laws_szCondS.f k l0_3 a1).bind fun t104 => (if t104 < 0 then (some (-1)) else (some t104))
end
abbrev laws_szCondS.Stmt (k : Nat) : Prop := ∀ (A0 : Option Addr) (c0 : Nat) (l0 : List (S188)) (a1 : Int) (r : Int) (w : World) (hr0 : Kd.C k188 w A0 l0.length l0) (hc0 : l0.length ≤ c0) (h : laws_szCondS.f k l0 a1 = some r),
  Calls Tryz.prog 330 #[.slice A0 l0.length c0, .int .i64 a1] w fun e w' => e = .returned (.int .i64 r) ∧ Below w.heap.size w w'
abbrev laws_szCond.Stmt (k : Nat) : Prop := ∀ (a0_0 : Int) (a0_1 : Int) (a0_2 : Int) (A0_3 : Option Addr) (c0_3 : Nat) (l0_3 : List (S188)) (a1 : Int) (r : Int) (w : World) (hr0_3 : Kd.C k188 w A0_3 l0_3.length l0_3) (hc0_3 : l0_3.length ≤ c0_3) (h : laws_szCond.f k a0_0 a0_1 a0_2 l0_3 a1 = some r),
  Calls Tryz.prog 237 #[.agg #[.int .i64 a0_0, .int .i64 a0_1, .int .i64 a0_2, .slice A0_3 l0_3.length c0_3], .int .i64 a1] w fun e w' => e = .returned (.int .i64 r) ∧ Below w.heap.size w w'
theorem laws_szCondS.step (k : Nat) (ih_laws_szCondS : ∀ m_, m_ < k → laws_szCondS.Stmt m_) (ih_laws_szCond : ∀ m_, m_ < k → laws_szCond.Stmt m_) : laws_szCondS.Stmt k := by
 unfold laws_szCondS.Stmt
 intro A0 c0 l0 a1 r w hr0 hc0 h
 cases k with
 | zero => exact absurd h (by simp [laws_szCondS.f])
 | succ k =>
 simp only [laws_szCondS.f] at h
 have HR0 := Aside0.mk hr0
 have HC0 := Aside0.mk hc0
 clear hr0 hc0
 have HB := Aside0.mk (Below.refl w.heap.size w)
 have H := h
 clear h
 have hu188 := Tryz.underlying188
 go_enter Tryz.func330, Tryz.ntmps330
 replace H := ifD H; rcases H with ⟨c1, H⟩ | ⟨c1, H⟩
 ·have c1_0 := decT c1
  replace c1 := Aside0.mk c1
  (try rw [c1_0])
  cases H
  go_wp2
  go_ret
  exact ⟨rfl, HB.out⟩
 have c1_0 := decF c1
 replace c1 := Aside0.mk c1
 (try rw [c1_0])
 replace H := Aside0.mk H
 go_wp2
 go_loopg [1, 5] k (fun kq v1 v5 w' => ∃ (x1_2 : Int) (x5_2 : Int), v1 = .int .i64 x1_2 ∧ v5 = .int .i64 x5_2 ∧ Aside0 (laws_szCondS.l0 kq l0 x1_2 x5_2 = some r) ∧ Aside0 (kq ≤ k) ∧ Aside0 (Below w.heap.size w w'))
 case atStart => exact ⟨(wrap64 (a1 - (l0.length : Int))), (0), (by first | rfl | (simp; done) | (simp [*]; done)), (by first | rfl | (simp; done) | (simp [*]; done)), H, ⟨Nat.le_refl _⟩, HB⟩
 case round =>
  clear H HB 
  (try clear c1_0)
  obtain ⟨x1_2, x5_2, rfl, rfl, HA, Hk2, HB⟩ := hrel
  cases gk with
  | zero => exact absurd HA.out (by simp [laws_szCondS.l0])
  | succ k2 =>
   have H := HA.out; clear HA; simp only [laws_szCondS.l0] at H; replace H := ifD H; rcases H with ⟨c3, H⟩ | ⟨c3, H⟩; rotate_left
   ·have c3_0 := decF c3; replace c3 := Aside0.mk c3; (try rw [c3_0]); cases H; go_wp2; go_ret; exact ⟨rfl, HB.out⟩
   have c3_0 := decT c3; replace c3 := Aside0.mk c3; (try rw [c3_0]); replace H := ifN H; obtain ⟨c4, H⟩ := H; have c4_0 := decT c4; replace c4 := Aside0.mk c4; (try rw [c4_0]); have p101 : 0 ≤ (x5_2 : Int) := (of_decide_eq_true (by assumption)); have q101 : x5_2 < (l0.length : Int) := (of_decide_eq_true (by assumption)); obtain ⟨ad101, A101_3, c101_3, e101, hx101_0, hx101_1, hx101_2, hx101_3, hl101_3, hi101_3⟩ := at_T188 HR0.out x5_2 p101 q101; cases e101; have HR101_3 := Aside0.mk hi101_3; have HC101_3 := Aside0.mk hl101_3; clear hi101_3 hl101_3; replace hx101_0 := Aside0.mk hx101_0; have y101_0 := xC HB hx101_0; replace hx101_1 := Aside0.mk hx101_1; have y101_1 := xC HB hx101_1; replace hx101_2 := Aside0.mk hx101_2; have y101_2 := xC HB hx101_2; replace hx101_3 := Aside0.mk hx101_3; have y101_3 := xC HB hx101_3; have r101 := eq_true p101; have s101 := eq_true q101; replace p101 := Aside0.mk p101; replace q101 := Aside0.mk q101; replace H := obs H; obtain ⟨t102, hm, H⟩ := H; (try dsimp only at H); replace H := Aside0.mk H; have hcall := ih_laws_szCond k2 (by have := Hk2.out; omega) _ _ _ _ _ _ _ _ wr (Kd.C_below HR101_3.out HB.out) HC101_3.out hm; clear hm; (go_wp2_with fail)
   refine hcall.mono ?_; rintro e W5 ⟨rfl, hb⟩; clear hcall; (try clear y101_0 y101_1 y101_2 y101_3); replace HB := bH HB hb; clear hb; replace H := ifD H.out; rcases H with ⟨c6, H⟩ | ⟨c6, H⟩
   ·have c6_0 := decT c6; replace c6 := Aside0.mk c6; (try rw [c6_0]); cases H; go_wp2; go_ret; exact ⟨rfl, HB.out⟩
   have c6_0 := decF c6; replace c6 := Aside0.mk c6; (try rw [c6_0]); replace H := Aside0.mk H; go_wp2; go_roundg k2
   case measure => have := Hk2.out; omega
   case rel => exact ⟨(t102), (wrap64 (x5_2 + 1)), (by first | rfl | (simp; done) | (simp [*]; done)), (by first | rfl | (simp; done) | (simp [*]; done)), H, ⟨by have := Hk2.out; omega⟩, HB⟩
theorem laws_szCond.step (k : Nat) (ih_laws_szCondS : ∀ m_, m_ < k → laws_szCondS.Stmt m_) (ih_laws_szCond : ∀ m_, m_ < k → laws_szCond.Stmt m_) : laws_szCond.Stmt k := by
 unfold laws_szCond.Stmt
 intro a0_0 a0_1 a0_2 A0_3 c0_3 l0_3 a1 r w hr0_3 hc0_3 h
 cases k with
 | zero => exact absurd h (by simp [laws_szCond.f])
 | succ k =>
 simp only [laws_szCond.f] at h
 have HR0_3 := Aside0.mk hr0_3
 have HC0_3 := Aside0.mk hc0_3
 clear hr0_3 hc0_3
 have HB := Aside0.mk (Below.refl w.heap.size w)
 have H := h
 clear h
 have hu188 := Tryz.underlying188
 go_enter Tryz.func237, Tryz.ntmps237
 replace H := Aside0.mk H
 go_upto_region 1 with (first | ((with_reducible refine gate_dst (N := 2) rfl ?_); refine box_event ?hg (N := 2) ?hd (cs := #[.int .i64 a0_0, .int .i64 a0_1, .int .i64 a0_2, .slice A0_3 l0_3.length c0_3]) (t := 188) ?hr ?_; (case hd => rfl); (case hg => rfl); (case hr => first | (go_simp; done) | (go_simp; rfl)); intro gb1 hg W1 hbox hb; replace HB := bH HB hb; clear hb; have BK1 := Aside0.mk hbox; have c_BK1 := blk_cell hbox; have z_BK1 := blk_frozen hbox; clear hg hbox))
 replace H := H.out
 replace H := obs H
 obtain ⟨t104, hm, H⟩ := H
 (try dsimp only at H)
 replace H := Aside0.mk H
 have hcall := ih_laws_szCondS k (by omega) _ _ _ _ _ W1 (Kd.C_below HR0_3.out HB.out) HC0_3.out hm
 clear hm
 (go_wp2_with fail)
 refine hcall.mono ?_
 rintro e W2 ⟨rfl, hb⟩
 clear hcall
 replace BK1 := bK BK1 hb; replace c_BK1 := bcl BK1; replace z_BK1 := bfr BK1
 replace HB := bH HB hb; clear hb
 replace H := ifD H.out; rcases H with ⟨c3, H⟩ | ⟨c3, H⟩
 ·have c3_0 := decT c3
  replace c3 := Aside0.mk c3
  (try rw [c3_0])
  cases H
  go_wp2
  go_ret
  exact ⟨rfl, HB.out⟩
 have c3_0 := decF c3
 replace c3 := Aside0.mk c3
 (try rw [c3_0])
 cases H
 go_wp2
 go_ret
 exact ⟨rfl, HB.out⟩
theorem laws_szCondS.both (k : Nat) : laws_szCondS.Stmt k ∧ laws_szCond.Stmt k := by
 induction k using Nat.strongRecOn with
 | _ k ih =>
 exact ⟨laws_szCondS.step k (fun m hm => (ih m hm).1) (fun m hm => (ih m hm).2), laws_szCond.step k (fun m hm => (ih m hm).1) (fun m hm => (ih m hm).2)⟩
theorem laws_szCond.calls (k : Nat) : ∀ (a0_0 : Int) (a0_1 : Int) (a0_2 : Int) (A0_3 : Option Addr) (c0_3 : Nat) (l0_3 : List (S188)) (a1 : Int) (r : Int) (w : World) (hr0_3 : Kd.C k188 w A0_3 l0_3.length l0_3) (hc0_3 : l0_3.length ≤ c0_3) (h : laws_szCond.f k a0_0 a0_1 a0_2 l0_3 a1 = some r),
  Calls Tryz.prog 237 #[.agg #[.int .i64 a0_0, .int .i64 a0_1, .int .i64 a0_2, .slice A0_3 l0_3.length c0_3], .int .i64 a1] w fun e w' => e = .returned (.int .i64 r) ∧ Below w.heap.size w w' := (laws_szCondS.both k).2
def laws_szRule.f (k : Nat) (a0_0 : Int) (a0_1 : Int) (a0_2 : Int) (a0_3 : Int) (a0_4 : Int) (a0_5 : Int) (l0_6 : List (S188)) (a1 : Int) : Option (Int) := (laws_szCond.f k a0_3 a0_4 a0_5 l0_6 a1).bind fun t106 => (if t106 < 0 then (some (-1)) else (some t106))
theorem laws_szRule.calls (k : Nat) (a0_0 : Int) (a0_1 : Int) (a0_2 : Int) (a0_3 : Int) (a0_4 : Int) (a0_5 : Int) (A0_6 : Option Addr) (c0_6 : Nat) (l0_6 : List (S188)) (a1 : Int) (r : Int) (w : World) (hr0_6 : Kd.C k188 w A0_6 l0_6.length l0_6) (hc0_6 : l0_6.length ≤ c0_6) (h : laws_szRule.f k a0_0 a0_1 a0_2 a0_3 a0_4 a0_5 l0_6 a1 = some r) :
  Calls Tryz.prog 121 #[.agg #[.int .i64 a0_0, .int .i64 a0_1, .int .i64 a0_2, .int .i64 a0_3, .int .i64 a0_4, .int .i64 a0_5, .slice A0_6 l0_6.length c0_6], .int .i64 a1] w fun e w' => e = .returned (.int .i64 r) ∧ Below w.heap.size w w' := by
 have HR0_6 := Aside0.mk hr0_6
 have HC0_6 := Aside0.mk hc0_6
 clear hr0_6 hc0_6
 have HB := Aside0.mk (Below.refl w.heap.size w)
 have H := h
 clear h
 unfold laws_szRule.f at H
 have hu188 := Tryz.underlying188
 have hu190 := Tryz.underlying190
 go_enter Tryz.func121, Tryz.ntmps121
 replace H := Aside0.mk H
 go_upto_region 1 with (first | ((with_reducible refine gate_dst (N := 2) rfl ?_); refine box_event ?hg (N := 2) ?hd (cs := #[.int .i64 a0_0, .int .i64 a0_1, .int .i64 a0_2, .int .i64 a0_3, .int .i64 a0_4, .int .i64 a0_5, .slice A0_6 l0_6.length c0_6]) (t := 190) ?hr ?_; (case hd => rfl); (case hg => rfl); (case hr => first | (go_simp; done) | (go_simp; rfl)); intro gb1 hg W1 hbox hb; replace HB := bH HB hb; clear hb; have BK1 := Aside0.mk hbox; have c_BK1 := blk_cell hbox; have z_BK1 := blk_frozen hbox; clear hg hbox))
 replace H := H.out
 replace H := obs H
 obtain ⟨t106, hm, H⟩ := H
 (try dsimp only at H)
 replace H := Aside0.mk H
 have hcall := laws_szCond.calls k _ _ _ _ _ _ _ _ W1 (Kd.C_below HR0_6.out HB.out) HC0_6.out hm
 clear hm
 (go_wp2_with fail)
 refine hcall.mono ?_
 rintro e W2 ⟨rfl, hb⟩
 clear hcall
 replace BK1 := bK BK1 hb; replace c_BK1 := bcl BK1; replace z_BK1 := bfr BK1
 replace HB := bH HB hb; clear hb
 replace H := ifD H.out; rcases H with ⟨c3, H⟩ | ⟨c3, H⟩
 ·have c3_0 := decT c3
  replace c3 := Aside0.mk c3
  (try rw [c3_0])
  cases H
  go_wp2
  go_ret
  exact ⟨rfl, HB.out⟩
 have c3_0 := decF c3
 replace c3 := Aside0.mk c3
 (try rw [c3_0])
 cases H
 go_wp2
 go_ret
 exact ⟨rfl, HB.out⟩
def laws_szRuleS.l0 : Nat → List (S190) → Int → Int → Option (Int)
 | 0, _, _, _ => none
 | k + 1, x0, x1, x5 => if x5 < (x0.length : Int) then (if 0 ≤ x5 then ((laws_szRule.f k ((rd_T190 x0 x5).f0) ((rd_T190 x0 x5).f1) ((rd_T190 x0 x5).f2) ((rd_T190 x0 x5).f3.f0) ((rd_T190 x0 x5).f3.f1) ((rd_T190 x0 x5).f3.f2) ((rd_T190 x0 x5).f3.f3) x1).bind fun t108 => (if t108 < 0 then (some (-1)) else (laws_szRuleS.l0 k x0 t108 (wrap64 (x5 + 1))))) else (none)) else (some x1)
def laws_szRuleS.f (k : Nat) (l0 : List (S190)) (a1 : Int) : Option (Int) := if (wrap64 (a1 - (l0.length : Int))) < 0 then (some (-1)) else (laws_szRuleS.l0 k l0 (wrap64 (a1 - (l0.length : Int))) 0)
theorem laws_szRuleS.calls (k : Nat) (A0 : Option Addr) (c0 : Nat) (l0 : List (S190)) (a1 : Int) (r : Int) (w : World) (hr0 : Kd.C k190 w A0 l0.length l0) (hc0 : l0.length ≤ c0) (h : laws_szRuleS.f k l0 a1 = some r) :
  Calls Tryz.prog 39 #[.slice A0 l0.length c0, .int .i64 a1] w fun e w' => e = .returned (.int .i64 r) ∧ Below w.heap.size w w' := by
 have HR0 := Aside0.mk hr0
 have HC0 := Aside0.mk hc0
 clear hr0 hc0
 have HB := Aside0.mk (Below.refl w.heap.size w)
 have H := h
 clear h
 unfold laws_szRuleS.f at H
 have hu190 := Tryz.underlying190
 go_enter Tryz.func39, Tryz.ntmps39
 replace H := ifD H; rcases H with ⟨c1, H⟩ | ⟨c1, H⟩
 ·have c1_0 := decT c1
  replace c1 := Aside0.mk c1
  (try rw [c1_0])
  cases H
  go_wp2
  go_ret
  exact ⟨rfl, HB.out⟩
 have c1_0 := decF c1
 replace c1 := Aside0.mk c1
 (try rw [c1_0])
 replace H := Aside0.mk H
 go_wp2
 go_loopg [1, 5] k (fun kq v1 v5 w' => ∃ (x1_2 : Int) (x5_2 : Int), v1 = .int .i64 x1_2 ∧ v5 = .int .i64 x5_2 ∧ Aside0 (laws_szRuleS.l0 kq l0 x1_2 x5_2 = some r) ∧ Aside0 (kq ≤ k) ∧ Aside0 (Below w.heap.size w w'))
 case atStart => exact ⟨(wrap64 (a1 - (l0.length : Int))), (0), (by first | rfl | (simp; done) | (simp [*]; done)), (by first | rfl | (simp; done) | (simp [*]; done)), H, ⟨Nat.le_refl _⟩, HB⟩
 case round =>
  clear H HB 
  (try clear c1_0)
  obtain ⟨x1_2, x5_2, rfl, rfl, HA, Hk2, HB⟩ := hrel
  cases gk with
  | zero => exact absurd HA.out (by simp [laws_szRuleS.l0])
  | succ k2 =>
   have H := HA.out; clear HA; simp only [laws_szRuleS.l0] at H; replace H := ifD H; rcases H with ⟨c3, H⟩ | ⟨c3, H⟩; rotate_left
   ·have c3_0 := decF c3; replace c3 := Aside0.mk c3; (try rw [c3_0]); cases H; go_wp2; go_ret; exact ⟨rfl, HB.out⟩
   have c3_0 := decT c3; replace c3 := Aside0.mk c3; (try rw [c3_0]); replace H := ifN H; obtain ⟨c4, H⟩ := H; have c4_0 := decT c4; replace c4 := Aside0.mk c4; (try rw [c4_0]); have p107 : 0 ≤ (x5_2 : Int) := (of_decide_eq_true (by assumption)); have q107 : x5_2 < (l0.length : Int) := (of_decide_eq_true (by assumption)); obtain ⟨ad107, A107_6, c107_6, e107, hx107_0, hx107_1, hx107_2, hx107_3, hx107_4, hx107_5, hx107_6, hl107_6, hi107_6⟩ := at_T190 HR0.out x5_2 p107 q107; cases e107; have HR107_6 := Aside0.mk hi107_6; have HC107_6 := Aside0.mk hl107_6; clear hi107_6 hl107_6; replace hx107_0 := Aside0.mk hx107_0; have y107_0 := xC HB hx107_0; replace hx107_1 := Aside0.mk hx107_1; have y107_1 := xC HB hx107_1; replace hx107_2 := Aside0.mk hx107_2; have y107_2 := xC HB hx107_2; replace hx107_3 := Aside0.mk hx107_3; have y107_3 := xC HB hx107_3; replace hx107_4 := Aside0.mk hx107_4; have y107_4 := xC HB hx107_4; replace hx107_5 := Aside0.mk hx107_5; have y107_5 := xC HB hx107_5; replace hx107_6 := Aside0.mk hx107_6; have y107_6 := xC HB hx107_6; have r107 := eq_true p107; have s107 := eq_true q107; replace p107 := Aside0.mk p107; replace q107 := Aside0.mk q107; replace H := obs H; obtain ⟨t108, hm, H⟩ := H; (try dsimp only at H); replace H := Aside0.mk H; have hcall := laws_szRule.calls k2 _ _ _ _ _ _ _ _ _ _ _ wr (Kd.C_below HR107_6.out HB.out) HC107_6.out hm; clear hm; (go_wp2_with fail)
   refine hcall.mono ?_; rintro e W5 ⟨rfl, hb⟩; clear hcall; (try clear y107_0 y107_1 y107_2 y107_3 y107_4 y107_5 y107_6); replace HB := bH HB hb; clear hb; replace H := ifD H.out; rcases H with ⟨c6, H⟩ | ⟨c6, H⟩
   ·have c6_0 := decT c6; replace c6 := Aside0.mk c6; (try rw [c6_0]); cases H; go_wp2; go_ret; exact ⟨rfl, HB.out⟩
   have c6_0 := decF c6; replace c6 := Aside0.mk c6; (try rw [c6_0]); replace H := Aside0.mk H; go_wp2; go_roundg k2
   case measure => have := Hk2.out; omega
   case rel => exact ⟨(t108), (wrap64 (x5_2 + 1)), (by first | rfl | (simp; done) | (simp [*]; done)), (by first | rfl | (simp; done) | (simp [*]; done)), H, ⟨by have := Hk2.out; omega⟩, HB⟩
def laws_szPolicy.f (k : Nat) (a0_0 : Int) (l0_1 : List (S190)) (a1 : Int) : Option (Int) := (laws_szRuleS.f k l0_1 a1).bind fun t110 => (if t110 < 0 then (some (-1)) else (some t110))
theorem laws_szPolicy.calls (k : Nat) (a0_0 : Int) (A0_1 : Option Addr) (c0_1 : Nat) (l0_1 : List (S190)) (a1 : Int) (r : Int) (w : World) (hr0_1 : Kd.C k190 w A0_1 l0_1.length l0_1) (hc0_1 : l0_1.length ≤ c0_1) (h : laws_szPolicy.f k a0_0 l0_1 a1 = some r) :
  Calls Tryz.prog 16 #[.agg #[.int .i64 a0_0, .slice A0_1 l0_1.length c0_1], .int .i64 a1] w fun e w' => e = .returned (.int .i64 r) ∧ Below w.heap.size w w' := by
 have HR0_1 := Aside0.mk hr0_1
 have HC0_1 := Aside0.mk hc0_1
 clear hr0_1 hc0_1
 have HB := Aside0.mk (Below.refl w.heap.size w)
 have H := h
 clear h
 unfold laws_szPolicy.f at H
 have hu26 := Tryz.underlying26
 go_enter Tryz.func16, Tryz.ntmps16
 replace H := Aside0.mk H
 go_upto_region 1 with (first | ((with_reducible refine gate_dst (N := 2) rfl ?_); refine box_event ?hg (N := 2) ?hd (cs := #[.int .i64 a0_0, .slice A0_1 l0_1.length c0_1]) (t := 26) ?hr ?_; (case hd => rfl); (case hg => rfl); (case hr => first | (go_simp; done) | (go_simp; rfl)); intro gb1 hg W1 hbox hb; replace HB := bH HB hb; clear hb; have BK1 := Aside0.mk hbox; have c_BK1 := blk_cell hbox; have z_BK1 := blk_frozen hbox; clear hg hbox))
 replace H := H.out
 replace H := obs H
 obtain ⟨t110, hm, H⟩ := H
 (try dsimp only at H)
 replace H := Aside0.mk H
 have hcall := laws_szRuleS.calls k _ _ _ _ _ W1 (Kd.C_below HR0_1.out HB.out) HC0_1.out hm
 clear hm
 (go_wp2_with fail)
 refine hcall.mono ?_
 rintro e W2 ⟨rfl, hb⟩
 clear hcall
 replace BK1 := bK BK1 hb; replace c_BK1 := bcl BK1; replace z_BK1 := bfr BK1
 replace HB := bH HB hb; clear hb
 replace H := ifD H.out; rcases H with ⟨c3, H⟩ | ⟨c3, H⟩
 ·have c3_0 := decT c3
  replace c3 := Aside0.mk c3
  (try rw [c3_0])
  cases H
  go_wp2
  go_ret
  exact ⟨rfl, HB.out⟩
 have c3_0 := decF c3
 replace c3 := Aside0.mk c3
 (try rw [c3_0])
 cases H
 go_wp2
 go_ret
 exact ⟨rfl, HB.out⟩
def spec_l1In.f (a0 : Int) (a1 : Int) (a2 : Int) : Option (Bool) := if a0 ≥ a1 then (some (decide (a0 ≤ a2))) else (some false)
theorem spec_l1In.calls (a0 : Int) (a1 : Int) (a2 : Int) (r : Bool) (w : World) (h : spec_l1In.f a0 a1 a2 = some r) :
  Calls Tryz.prog 93 #[.int .i64 a0, .int .i64 a1, .int .i64 a2] w fun e w' => e = .returned (.bool r) ∧ Below w.heap.size w w' := by
 have HB := Aside0.mk (Below.refl w.heap.size w)
 have H := h
 clear h
 unfold spec_l1In.f at H
 go_enter Tryz.func93, Tryz.ntmps93
 replace H := ifD H; rcases H with ⟨c1, H⟩ | ⟨c1, H⟩
 ·replace c1 : a1 ≤ a0 := c1
  have c1_0 := decT c1
  replace c1 := Aside0.mk c1
  (try rw [c1_0])
  cases H
  go_wp2
  go_ret
  exact ⟨rfl, HB.out⟩
 replace c1 : ¬ (a1 ≤ a0) := c1
 have c1_0 := decF c1
 replace c1 := Aside0.mk c1
 (try rw [c1_0])
 cases H
 go_wp2
 go_ret
 exact ⟨rfl, HB.out⟩
def spec_IsTime.f (a0 : Int) : Option (Bool) := (spec_l1In.f a0 0 10000).bind fun t111 => (some t111)
theorem spec_IsTime.calls (a0 : Int) (r : Bool) (w : World) (h : spec_IsTime.f a0 = some r) :
  Calls Tryz.prog 152 #[.int .i64 a0] w fun e w' => e = .returned (.bool r) ∧ Below w.heap.size w w' := by
 have HB := Aside0.mk (Below.refl w.heap.size w)
 have H := h
 clear h
 unfold spec_IsTime.f at H
 go_enter Tryz.func152, Tryz.ntmps152
 replace H := obs H
 obtain ⟨t111, hm, H⟩ := H
 (try dsimp only at H)
 replace H := Aside0.mk H
 have hcall := spec_l1In.calls _ _ _ _ w  hm
 clear hm
 (go_wp2_with fail)
 refine hcall.mono ?_
 rintro e W1 ⟨rfl, hb⟩
 clear hcall
 replace HB := bH HB hb; clear hb
 replace H := H.out
 cases H
 go_wp2
 go_ret
 exact ⟨rfl, HB.out⟩
def spec_IsName.f (a0 : Int) : Option (Bool) := (spec_l1In.f a0 10 49).bind fun t112 => (some t112)
theorem spec_IsName.calls (a0 : Int) (r : Bool) (w : World) (h : spec_IsName.f a0 = some r) :
  Calls Tryz.prog 317 #[.int .i64 a0] w fun e w' => e = .returned (.bool r) ∧ Below w.heap.size w w' := by
 have HB := Aside0.mk (Below.refl w.heap.size w)
 have H := h
 clear h
 unfold spec_IsName.f at H
 go_enter Tryz.func317, Tryz.ntmps317
 replace H := obs H
 obtain ⟨t112, hm, H⟩ := H
 (try dsimp only at H)
 replace H := Aside0.mk H
 have hcall := spec_l1In.calls _ _ _ _ w  hm
 clear hm
 (go_wp2_with fail)
 refine hcall.mono ?_
 rintro e W1 ⟨rfl, hb⟩
 clear hcall
 replace HB := bH HB hb; clear hb
 replace H := H.out
 cases H
 go_wp2
 go_ret
 exact ⟨rfl, HB.out⟩
def spec_HasKind.f (a0 : Int) (a1 : Int) : Option (Bool) := (spec_IsName.f a0).bind fun t113 => (if t113 = true then (some ((wrap64 (Int.tdiv a0 10)) == a1)) else (some false))
theorem spec_HasKind.calls (a0 : Int) (a1 : Int) (r : Bool) (w : World) (h : spec_HasKind.f a0 a1 = some r) :
  Calls Tryz.prog 224 #[.int .i64 a0, .int .i64 a1] w fun e w' => e = .returned (.bool r) ∧ Below w.heap.size w w' := by
 have HB := Aside0.mk (Below.refl w.heap.size w)
 have H := h
 clear h
 unfold spec_HasKind.f at H
 go_enter Tryz.func224, Tryz.ntmps224
 replace H := obs H
 obtain ⟨t113, hm, H⟩ := H
 (try dsimp only at H)
 replace H := Aside0.mk H
 have hcall := spec_IsName.calls _ _ w  hm
 clear hm
 (go_wp2_with fail)
 refine hcall.mono ?_
 rintro e W1 ⟨rfl, hb⟩
 clear hcall
 replace HB := bH HB hb; clear hb
 replace H := ifD H.out; rcases H with ⟨c2, H⟩ | ⟨c2, H⟩
 ·subst c2
  cases H
  go_wp2
  go_ret
  exact ⟨rfl, HB.out⟩
 replace c2 := nT c2
 subst c2
 cases H
 go_wp2
 go_ret
 exact ⟨rfl, HB.out⟩
def spec_IsRequest.f (a0_0 : Int) (a0_1 : Int) (a0_2 : Int) (a0_3 : Int) (a0_4 : Int) (a0_5 : Int) : Option (Bool) := (spec_HasKind.f a0_0 1).bind fun t115 => (if t115 = true then ((spec_HasKind.f a0_1 2).bind fun t116 => (if t116 = true then ((spec_HasKind.f a0_2 3).bind fun t117 => (if t117 = true then ((spec_HasKind.f a0_4 4).bind fun t118 => (if t118 = true then ((spec_l1In.f a0_3 0 5).bind fun t119 => (if t119 = true then ((spec_IsTime.f a0_5).bind fun t120 => (some t120)) else (some false))) else (some false))) else (some false))) else (some false))) else (some false))
theorem spec_IsRequest.calls (a0_0 : Int) (a0_1 : Int) (a0_2 : Int) (a0_3 : Int) (a0_4 : Int) (a0_5 : Int) (r : Bool) (w : World) (h : spec_IsRequest.f a0_0 a0_1 a0_2 a0_3 a0_4 a0_5 = some r) :
  Calls Tryz.prog 91 #[.agg #[.int .i64 a0_0, .int .i64 a0_1, .int .i64 a0_2, .int .i64 a0_3, .int .i64 a0_4, .int .i64 a0_5]] w fun e w' => e = .returned (.bool r) ∧ Below w.heap.size w w' := by
 have HB := Aside0.mk (Below.refl w.heap.size w)
 have H := h
 clear h
 unfold spec_IsRequest.f at H
 have hu41 := Tryz.underlying41
 go_enter Tryz.func91, Tryz.ntmps91
 replace H := Aside0.mk H
 go_upto_region 1 with (first | ((with_reducible refine gate_dst (N := 1) rfl ?_); refine box_event ?hg (N := 1) ?hd (cs := #[.int .i64 a0_0, .int .i64 a0_1, .int .i64 a0_2, .int .i64 a0_3, .int .i64 a0_4, .int .i64 a0_5]) (t := 41) ?hr ?_; (case hd => rfl); (case hg => rfl); (case hr => first | (go_simp; done) | (go_simp; rfl)); intro gb1 hg W1 hbox hb; replace HB := bH HB hb; clear hb; have BK1 := Aside0.mk hbox; have c_BK1 := blk_cell hbox; have z_BK1 := blk_frozen hbox; clear hg hbox))
 replace H := H.out
 replace H := obs H
 obtain ⟨t115, hm, H⟩ := H
 (try dsimp only at H)
 replace H := Aside0.mk H
 have hcall := spec_HasKind.calls _ _ _ W1  hm
 clear hm
 (go_wp2_with fail)
 refine hcall.mono ?_
 rintro e W2 ⟨rfl, hb⟩
 clear hcall
 replace BK1 := bK BK1 hb; replace c_BK1 := bcl BK1; replace z_BK1 := bfr BK1
 replace HB := bH HB hb; clear hb
 replace H := ifD H.out; rcases H with ⟨c3, H⟩ | ⟨c3, H⟩
 rotate_left
 ·replace c3 := nT c3
  subst c3
  cases H
  go_wp2
  go_ret
  exact ⟨rfl, HB.out⟩
 subst c3
 replace H := obs H
 obtain ⟨t116, hm, H⟩ := H
 (try dsimp only at H)
 replace H := Aside0.mk H
 have hcall := spec_HasKind.calls _ _ _ W2  hm
 clear hm
 (go_wp2_with fail)
 refine hcall.mono ?_
 rintro e W4 ⟨rfl, hb⟩
 clear hcall
 replace BK1 := bK BK1 hb; replace c_BK1 := bcl BK1; replace z_BK1 := bfr BK1
 replace HB := bH HB hb; clear hb
 replace H := ifD H.out; rcases H with ⟨c5, H⟩ | ⟨c5, H⟩
 rotate_left
 ·replace c5 := nT c5
  subst c5
  cases H
  go_wp2
  go_ret
  exact ⟨rfl, HB.out⟩
 subst c5
 replace H := obs H
 obtain ⟨t117, hm, H⟩ := H
 (try dsimp only at H)
 replace H := Aside0.mk H
 have hcall := spec_HasKind.calls _ _ _ W4  hm
 clear hm
 (go_wp2_with fail)
 refine hcall.mono ?_
 rintro e W6 ⟨rfl, hb⟩
 clear hcall
 replace BK1 := bK BK1 hb; replace c_BK1 := bcl BK1; replace z_BK1 := bfr BK1
 replace HB := bH HB hb; clear hb
 replace H := ifD H.out; rcases H with ⟨c7, H⟩ | ⟨c7, H⟩
 rotate_left
 ·replace c7 := nT c7
  subst c7
  cases H
  go_wp2
  go_ret
  exact ⟨rfl, HB.out⟩
 subst c7
 replace H := obs H
 obtain ⟨t118, hm, H⟩ := H
 (try dsimp only at H)
 replace H := Aside0.mk H
 have hcall := spec_HasKind.calls _ _ _ W6  hm
 clear hm
 (go_wp2_with fail)
 refine hcall.mono ?_
 rintro e W8 ⟨rfl, hb⟩
 clear hcall
 replace BK1 := bK BK1 hb; replace c_BK1 := bcl BK1; replace z_BK1 := bfr BK1
 replace HB := bH HB hb; clear hb
 replace H := ifD H.out; rcases H with ⟨c9, H⟩ | ⟨c9, H⟩
 rotate_left
 ·replace c9 := nT c9
  subst c9
  cases H
  go_wp2
  go_ret
  exact ⟨rfl, HB.out⟩
 subst c9
 replace H := obs H
 obtain ⟨t119, hm, H⟩ := H
 (try dsimp only at H)
 replace H := Aside0.mk H
 have hcall := spec_l1In.calls _ _ _ _ W8  hm
 clear hm
 (go_wp2_with fail)
 refine hcall.mono ?_
 rintro e W10 ⟨rfl, hb⟩
 clear hcall
 replace BK1 := bK BK1 hb; replace c_BK1 := bcl BK1; replace z_BK1 := bfr BK1
 replace HB := bH HB hb; clear hb
 replace H := ifD H.out; rcases H with ⟨c11, H⟩ | ⟨c11, H⟩
 rotate_left
 ·replace c11 := nT c11
  subst c11
  cases H
  go_wp2
  go_ret
  exact ⟨rfl, HB.out⟩
 subst c11
 replace H := obs H
 obtain ⟨t120, hm, H⟩ := H
 (try dsimp only at H)
 replace H := Aside0.mk H
 have hcall := spec_IsTime.calls _ _ W10  hm
 clear hm
 (go_wp2_with fail)
 refine hcall.mono ?_
 rintro e W12 ⟨rfl, hb⟩
 clear hcall
 replace BK1 := bK BK1 hb; replace c_BK1 := bcl BK1; replace z_BK1 := bfr BK1
 replace HB := bH HB hb; clear hb
 replace H := H.out
 cases H
 go_wp2
 go_ret
 exact ⟨rfl, HB.out⟩
mutual
def spec_l15Left.l0 : Nat → Int → Int → Int → Int → Int → List (S172) → Option (Int)
 | 0, _, _, _, _, _, _ => none
 | k + 1, x1, x5, x122000, x122001, x122002, x122003 => if x5 < (x122003.length : Int) then (if x1 ≥ 0 then (if 0 ≤ x5 then ((spec_l15Left.f k ((rd_T172 x122003 x5).f0) ((rd_T172 x122003 x5).f1) ((rd_T172 x122003 x5).f2) ((rd_T172 x122003 x5).f3) x1).bind fun t123 => (spec_l15Left.l0 k t123 (wrap64 (x5 + 1)) x122000 x122001 x122002 x122003)) else (none)) else (some x1)) else (some x1)
def spec_l15Left.f : Nat → Int → Int → Int → List (S172) → Int → Option (Int)
 | 0, _, _, _, _, _ => none
 | k + 1, a0_0, a0_1, a0_2, l0_3, a1 => spec_l15Left.l0 k (wrap64 (a1 - 1)) 0 a0_0 a0_1 a0_2 l0_3
end
theorem spec_l15Left.calls (k : Nat) : ∀ (a0_0 : Int) (a0_1 : Int) (a0_2 : Int) (A0_3 : Option Addr) (c0_3 : Nat) (l0_3 : List (S172)) (a1 : Int) (r : Int) (w : World) (hr0_3 : Kd.C k172 w A0_3 l0_3.length l0_3) (hc0_3 : l0_3.length ≤ c0_3) (h : spec_l15Left.f k a0_0 a0_1 a0_2 l0_3 a1 = some r),
  Calls Tryz.prog 364 #[.agg #[.int .i64 a0_0, .int .i64 a0_1, .int .i64 a0_2, .slice A0_3 l0_3.length c0_3], .int .i64 a1] w fun e w' => e = .returned (.int .i64 r) ∧ Below w.heap.size w w' := by
 induction k using Nat.strongRecOn with
 | _ k ih =>
 intro a0_0 a0_1 a0_2 A0_3 c0_3 l0_3 a1 r w hr0_3 hc0_3 h
 cases k with
 | zero => exact absurd h (by simp [spec_l15Left.f])
 | succ k =>
 simp only [spec_l15Left.f] at h
 have HR0_3 := Aside0.mk hr0_3
 have HC0_3 := Aside0.mk hc0_3
 clear hr0_3 hc0_3
 have HB := Aside0.mk (Below.refl w.heap.size w)
 have H := h
 clear h
 have hu172 := Tryz.underlying172
 go_enter Tryz.func364, Tryz.ntmps364
 replace H := Aside0.mk H
 go_upto_region 1 with (first | ((with_reducible refine gate_dst (N := 2) rfl ?_); refine box_event ?hg (N := 2) ?hd (cs := #[.int .i64 a0_0, .int .i64 a0_1, .int .i64 a0_2, .slice A0_3 l0_3.length c0_3]) (t := 172) ?hr ?_; (case hd => rfl); (case hg => rfl); (case hr => first | (go_simp; done) | (go_simp; rfl)); intro gb1 hg W1 hbox hb; replace HB := bH HB hb; clear hb; have BK1 := Aside0.mk hbox; have c_BK1 := blk_cell hbox; have z_BK1 := blk_frozen hbox; clear hg hbox))
 go_wp2
 go_loopg [1, 5] k (fun kq v1 v5 w' => ∃ (x1_2 : Int) (x5_2 : Int), v1 = .int .i64 x1_2 ∧ v5 = .int .i64 x5_2 ∧ Aside0 (spec_l15Left.l0 kq x1_2 x5_2 a0_0 a0_1 a0_2 l0_3 = some r) ∧ Aside0 (kq ≤ k) ∧ Aside0 (w'.heap[gb1]? = some (.cells #[.int .i64 a0_0, .int .i64 a0_1, .int .i64 a0_2, .slice A0_3 l0_3.length c0_3] 172 (0, 0))) ∧ Aside0 (Below w.heap.size w w'))
 case atStart => exact ⟨(wrap64 (a1 - 1)), (0), (by first | rfl | (simp; done) | (simp [*]; done)), (by first | rfl | (simp; done) | (simp [*]; done)), H, ⟨Nat.le_refl _⟩, BK1, HB⟩
 case round =>
  clear H HB BK1 c_BK1 z_BK1
  obtain ⟨x1_2, x5_2, rfl, rfl, HA, Hk2, BK1, HB⟩ := hrel
  have c_BK1 := bcl BK1; have z_BK1 := bfr BK1
  cases gk with
  | zero => exact absurd HA.out (by simp [spec_l15Left.l0])
  | succ k2 =>
   have H := HA.out; clear HA; simp only [spec_l15Left.l0] at H; replace H := ifD H; rcases H with ⟨c3, H⟩ | ⟨c3, H⟩; rotate_left
   ·have c3_0 := decF c3; replace c3 := Aside0.mk c3; (try rw [c3_0]); cases H; go_wp2; go_ret; exact ⟨rfl, HB.out⟩
   have c3_0 := decT c3; replace c3 := Aside0.mk c3; (try rw [c3_0]); replace H := ifD H; rcases H with ⟨c4, H⟩ | ⟨c4, H⟩; rotate_left
   ·replace c4 : ¬ (0 ≤ x1_2) := c4; have c4_0 := decF c4; replace c4 := Aside0.mk c4; (try rw [c4_0]); cases H; go_wp2; go_ret; exact ⟨rfl, HB.out⟩
   replace c4 : 0 ≤ x1_2 := c4; have c4_0 := decT c4; replace c4 := Aside0.mk c4; (try rw [c4_0]); replace H := ifN H; obtain ⟨c5, H⟩ := H; have c5_0 := decT c5; replace c5 := Aside0.mk c5; (try rw [c5_0]); have p122 : 0 ≤ (x5_2 : Int) := (of_decide_eq_true (by assumption)); have q122 : x5_2 < (l0_3.length : Int) := (of_decide_eq_true (by assumption)); obtain ⟨ad122, A122_3, c122_3, e122, hx122_0, hx122_1, hx122_2, hx122_3, hl122_3, hi122_3⟩ := at_T172 HR0_3.out x5_2 p122 q122; cases e122; have HR122_3 := Aside0.mk hi122_3; have HC122_3 := Aside0.mk hl122_3; clear hi122_3 hl122_3; replace hx122_0 := Aside0.mk hx122_0; have y122_0 := xC HB hx122_0; replace hx122_1 := Aside0.mk hx122_1; have y122_1 := xC HB hx122_1; replace hx122_2 := Aside0.mk hx122_2; have y122_2 := xC HB hx122_2; replace hx122_3 := Aside0.mk hx122_3; have y122_3 := xC HB hx122_3; have r122 := eq_true p122; have s122 := eq_true q122; replace p122 := Aside0.mk p122; replace q122 := Aside0.mk q122; replace H := obs H; obtain ⟨t123, hm, H⟩ := H; (try dsimp only at H); replace H := Aside0.mk H; have hcall := ih k2 (by have := Hk2.out; omega) _ _ _ _ _ _ _ _ wr (Kd.C_below HR122_3.out HB.out) HC122_3.out hm; clear hm; (go_wp2_with fail)
   refine hcall.mono ?_; rintro e W6 ⟨rfl, hb⟩; clear hcall; (try clear y122_0 y122_1 y122_2 y122_3); replace BK1 := bK BK1 hb; replace c_BK1 := bcl BK1; replace z_BK1 := bfr BK1; replace HB := bH HB hb; clear hb; go_wp2; go_roundg k2
   case measure => have := Hk2.out; omega
   case rel => exact ⟨(t123), (wrap64 (x5_2 + 1)), (by first | rfl | (simp; done) | (simp [*]; done)), (by first | rfl | (simp; done) | (simp [*]; done)), H, ⟨by have := Hk2.out; omega⟩, BK1, HB⟩
def spec_ArityOf.f (a0 : Int) : Option (Int) := if a0 = 1 then (some 0) else (if a0 = 2 then (some 0) else (if a0 = 3 then (some 0) else (if a0 = 4 then (some 0) else (if a0 = 5 then (some 0) else (if a0 = 6 then (some 0) else (if a0 = 7 then (some 1) else (if a0 = 8 then (some 2) else (if a0 = 9 then (some 2) else (some (-1))))))))))
theorem spec_ArityOf.calls (a0 : Int) (r : Int) (w : World) (h : spec_ArityOf.f a0 = some r) :
  Calls Tryz.prog 397 #[.int .i64 a0] w fun e w' => e = .returned (.int .i64 r) ∧ Below w.heap.size w w' := by
 have HB := Aside0.mk (Below.refl w.heap.size w)
 have H := h
 clear h
 unfold spec_ArityOf.f at H
 go_enter Tryz.func397, Tryz.ntmps397
 replace H := ifD H; rcases H with ⟨c1, H⟩ | ⟨c1, H⟩
 ·obtain ⟨c1_0, c1_1, c1_2⟩ := d3T c1
  clear c1
  (first | rw [c1_1] | rw [c1_2] | skip)
  cases H
  go_wp2
  go_ret
  exact ⟨rfl, HB.out⟩
 obtain ⟨c1_0, c1_1, c1_2⟩ := d3F c1
 clear c1
 (first | rw [c1_1] | rw [c1_2] | skip)
 replace H := ifD H; rcases H with ⟨c2, H⟩ | ⟨c2, H⟩
 ·obtain ⟨c2_0, c2_1, c2_2⟩ := d3T c2
  clear c2
  (first | rw [c2_1] | rw [c2_2] | skip)
  cases H
  go_wp2
  go_ret
  exact ⟨rfl, HB.out⟩
 obtain ⟨c2_0, c2_1, c2_2⟩ := d3F c2
 clear c2
 (first | rw [c2_1] | rw [c2_2] | skip)
 replace H := ifD H; rcases H with ⟨c3, H⟩ | ⟨c3, H⟩
 ·obtain ⟨c3_0, c3_1, c3_2⟩ := d3T c3
  clear c3
  (first | rw [c3_1] | rw [c3_2] | skip)
  cases H
  go_wp2
  go_ret
  exact ⟨rfl, HB.out⟩
 obtain ⟨c3_0, c3_1, c3_2⟩ := d3F c3
 clear c3
 (first | rw [c3_1] | rw [c3_2] | skip)
 replace H := ifD H; rcases H with ⟨c4, H⟩ | ⟨c4, H⟩
 ·obtain ⟨c4_0, c4_1, c4_2⟩ := d3T c4
  clear c4
  (first | rw [c4_1] | rw [c4_2] | skip)
  cases H
  go_wp2
  go_ret
  exact ⟨rfl, HB.out⟩
 obtain ⟨c4_0, c4_1, c4_2⟩ := d3F c4
 clear c4
 (first | rw [c4_1] | rw [c4_2] | skip)
 replace H := ifD H; rcases H with ⟨c5, H⟩ | ⟨c5, H⟩
 ·obtain ⟨c5_0, c5_1, c5_2⟩ := d3T c5
  clear c5
  (first | rw [c5_1] | rw [c5_2] | skip)
  cases H
  go_wp2
  go_ret
  exact ⟨rfl, HB.out⟩
 obtain ⟨c5_0, c5_1, c5_2⟩ := d3F c5
 clear c5
 (first | rw [c5_1] | rw [c5_2] | skip)
 replace H := ifD H; rcases H with ⟨c6, H⟩ | ⟨c6, H⟩
 ·obtain ⟨c6_0, c6_1, c6_2⟩ := d3T c6
  clear c6
  (first | rw [c6_1] | rw [c6_2] | skip)
  cases H
  go_wp2
  go_ret
  exact ⟨rfl, HB.out⟩
 obtain ⟨c6_0, c6_1, c6_2⟩ := d3F c6
 clear c6
 (first | rw [c6_1] | rw [c6_2] | skip)
 replace H := ifD H; rcases H with ⟨c7, H⟩ | ⟨c7, H⟩
 ·obtain ⟨c7_0, c7_1, c7_2⟩ := d3T c7
  clear c7
  (first | rw [c7_1] | rw [c7_2] | skip)
  cases H
  go_wp2
  go_ret
  exact ⟨rfl, HB.out⟩
 obtain ⟨c7_0, c7_1, c7_2⟩ := d3F c7
 clear c7
 (first | rw [c7_1] | rw [c7_2] | skip)
 replace H := ifD H; rcases H with ⟨c8, H⟩ | ⟨c8, H⟩
 ·obtain ⟨c8_0, c8_1, c8_2⟩ := d3T c8
  clear c8
  (first | rw [c8_1] | rw [c8_2] | skip)
  cases H
  go_wp2
  go_ret
  exact ⟨rfl, HB.out⟩
 obtain ⟨c8_0, c8_1, c8_2⟩ := d3F c8
 clear c8
 (first | rw [c8_1] | rw [c8_2] | skip)
 replace H := ifD H; rcases H with ⟨c9, H⟩ | ⟨c9, H⟩
 ·obtain ⟨c9_0, c9_1, c9_2⟩ := d3T c9
  clear c9
  (first | rw [c9_1] | rw [c9_2] | skip)
  cases H
  go_wp2
  go_ret
  exact ⟨rfl, HB.out⟩
 obtain ⟨c9_0, c9_1, c9_2⟩ := d3F c9
 clear c9
 (first | rw [c9_1] | rw [c9_2] | skip)
 cases H
 go_wp2
 go_ret
 exact ⟨rfl, HB.out⟩
end Go.Proofs.YtmgfklmhelabcaaGreat.QFnExactDecisionUntil
