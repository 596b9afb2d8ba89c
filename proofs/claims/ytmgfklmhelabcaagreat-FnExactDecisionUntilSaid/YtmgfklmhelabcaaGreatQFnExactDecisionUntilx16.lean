/- The machine side of FnExactDecisionUntil: what each function that it reaches computes, and that the machine's call gives just that. -/
import Derived.Test.YtmgfklmhelabcaaGreatQFnExactDecisionUntilx0
import Derived.Test.YtmgfklmhelabcaaGreatQFnExactDecisionUntilx15
namespace Go.Proofs.YtmgfklmhelabcaaGreat.QFnExactDecisionUntil
open Go.RowKit Go.Proofs.YtmgfklmhelabcaaGreatW.PrintWords Go.Proofs.YtmgfklmhelabcaaGreatW.PrintLast Go.Proofs.YtmgfklmhelabcaaGreatW.PrintMore
attribute [local go_sem] max2_int min2_int max_two min_two max_three min_three max_four min_four
set_option maxHeartbeats 8000000
set_option maxRecDepth 100000
open Go.Proofs.YtmgfklmhelabcaaGreatM
set_option linter.unusedVariables false
set_option linter.unusedSimpArgs false
def laws_eqFactS.l0 : Nat → List (S136) → List (S136) → Int → Option (Bool)
 | 0, _, _, _ => none
 | k + 1, x0, x1, x5 => if x5 < (x0.length : Int) then (if 0 ≤ x5 then (if x5 < (x1.length : Int) then ((laws_eqFact.f ((rd_T136 x0 x5).f0) ((rd_T136 x0 x5).f1) ((rd_T136 x0 x5).f2) ((rd_T136 x0 x5).f3) ((rd_T136 x0 x5).f4) ((rd_T136 x0 x5).f5) ((rd_T136 x1 x5).f0) ((rd_T136 x1 x5).f1) ((rd_T136 x1 x5).f2) ((rd_T136 x1 x5).f3) ((rd_T136 x1 x5).f4) ((rd_T136 x1 x5).f5)).bind fun t613 => (if t613 = true then (laws_eqFactS.l0 k x0 x1 (wrap64 (x5 + 1))) else (some false))) else (none)) else (none)) else (some true)
def laws_eqFactS.f (k : Nat) (l0 : List (S136)) (l1 : List (S136)) : Option (Bool) := if (l0.length : Int) = (l1.length : Int) then (laws_eqFactS.l0 k l0 l1 0) else (some false)
theorem laws_eqFactS.calls (k : Nat) (A0 : Option Addr) (c0 : Nat) (l0 : List (S136)) (A1 : Option Addr) (c1 : Nat) (l1 : List (S136)) (r : Bool) (w : World) (hr0 : Kd.C k136 w A0 l0.length l0) (hc0 : l0.length ≤ c0) (hr1 : Kd.C k136 w A1 l1.length l1) (hc1 : l1.length ≤ c1) (h : laws_eqFactS.f k l0 l1 = some r) :
  Calls Tryz.prog 24 #[.slice A0 l0.length c0, .slice A1 l1.length c1] w fun e w' => e = .returned (.bool r) ∧ Below w.heap.size w w' := by
 have HR0 := Aside0.mk hr0
 have HC0 := Aside0.mk hc0
 clear hr0 hc0
 have HR1 := Aside0.mk hr1
 have HC1 := Aside0.mk hc1
 clear hr1 hc1
 have HB := Aside0.mk (Below.refl w.heap.size w)
 have H := h
 clear h
 unfold laws_eqFactS.f at H
 have hu136 := Tryz.underlying136
 go_enter Tryz.func24, Tryz.ntmps24
 replace H := ifD H; rcases H with ⟨c1, H⟩ | ⟨c1, H⟩
 rotate_left
 ·have c1_x0 : (l0.length == l1.length) = false := by first | simpa using c1 | (simp at c1 ⊢; omega)
  obtain ⟨c1_0, c1_1, c1_2⟩ := d3F c1
  clear c1
  (first | rw [c1_1] | rw [c1_2] | skip)
  cases H
  go_wp2
  go_ret
  exact ⟨rfl, HB.out⟩
 have c1_x0 : (l0.length == l1.length) = true := by first | simpa using c1 | (simp at c1 ⊢; omega)
 obtain ⟨c1_0, c1_1, c1_2⟩ := d3T c1
 clear c1
 (first | rw [c1_1] | rw [c1_2] | skip)
 replace H := Aside0.mk H
 go_wp2
 go_loopg [5] k (fun kq v5 w' => ∃ (x5_2 : Int), v5 = .int .i64 x5_2 ∧ Aside0 (laws_eqFactS.l0 kq l0 l1 x5_2 = some r) ∧ Aside0 (kq ≤ k) ∧ Aside0 (Below w.heap.size w w'))
 case atStart => exact ⟨(0), (by first | rfl | (simp; done) | (simp [*]; done)), H, ⟨Nat.le_refl _⟩, HB⟩
 case round =>
  clear H HB 
  (try clear c1_x0 c1_0 c1_1 c1_2)
  obtain ⟨x5_2, rfl, HA, Hk2, HB⟩ := hrel
  cases gk with
  | zero => exact absurd HA.out (by simp [laws_eqFactS.l0])
  | succ k2 =>
   have H := HA.out; clear HA; simp only [laws_eqFactS.l0] at H; replace H := ifD H; rcases H with ⟨c3, H⟩ | ⟨c3, H⟩; rotate_left
   ·have c3_0 := decF c3; replace c3 := Aside0.mk c3; (try rw [c3_0]); cases H; go_wp2; go_ret; exact ⟨rfl, HB.out⟩
   have c3_0 := decT c3; replace c3 := Aside0.mk c3; (try rw [c3_0]); replace H := Aside0.mk H; try go_wp2
   have HBr := HB; replace HB := dH HB; refine stA (n := 10) (S := fun w' => Below wr.heap.size wr w') (by kernel_rfl) rfl (below_drew1 (Below.refl _ wr)) (by kernel_rfl) (fun hHeld => ?_); generalize wr.drew = W4 at HB hHeld ⊢; refine pu 0 (some 17) 1 ?_; refine pu 1 (some 18) 3 ?_; replace H := ifN H.out; obtain ⟨c5, H⟩ := H; have c5_0 := decT c5; replace c5 := Aside0.mk c5; (try rw [c5_0]); have p611 : 0 ≤ (x5_2 : Int) := (of_decide_eq_true (by assumption)); have q611 : x5_2 < (l0.length : Int) := (of_decide_eq_true (by assumption)); obtain ⟨ad611, e611, hx611_0, hx611_1, hx611_2, hx611_3, hx611_4, hx611_5⟩ := at_T136 HR0.out x5_2 p611 q611; cases e611; replace hx611_0 := Aside0.mk hx611_0; replace hx611_1 := Aside0.mk hx611_1; replace hx611_2 := Aside0.mk hx611_2; replace hx611_3 := Aside0.mk hx611_3; replace hx611_4 := Aside0.mk hx611_4; replace hx611_5 := Aside0.mk hx611_5; have r611 := eq_true p611; have s611 := eq_true q611; replace p611 := Aside0.mk p611; replace q611 := Aside0.mk q611; replace H := Aside0.mk H; refine pu 2 (some 19) 7 ?_; refine pu 4 (some 21) 23 ?_; refine pu 5 (some 22) 55 ?_; refine ld 3 (some 20) 63 hHeld ?_ (hr := by (intro w' h_; have y0_ := xD HBr h_ hx611_0; have y1_ := xD HBr h_ hx611_1; have y2_ := xD HBr h_ hx611_2; have y3_ := xD HBr h_ hx611_3; have y4_ := xD HBr h_ hx611_4; have y5_ := xD HBr h_ hx611_5; go_simp; with_reducible rfl)); replace H := ifN H.out; obtain ⟨c6, H⟩ := H; have c6_0 := decT c6; replace c6 := Aside0.mk c6; (try rw [c6_0]); have p612 : 0 ≤ (x5_2 : Int) := (of_decide_eq_true (by assumption)); have q612 : x5_2 < (l1.length : Int) := (of_decide_eq_true (by assumption)); obtain ⟨ad612, e612, hx612_0, hx612_1, hx612_2, hx612_3, hx612_4, hx612_5⟩ := at_T136 HR1.out x5_2 p612 q612; cases e612; replace hx612_0 := Aside0.mk hx612_0; replace hx612_1 := Aside0.mk hx612_1; replace hx612_2 := Aside0.mk hx612_2; replace hx612_3 := Aside0.mk hx612_3; replace hx612_4 := Aside0.mk hx612_4; replace hx612_5 := Aside0.mk hx612_5; have r612 := eq_true p612; have s612 := eq_true q612; replace p612 := Aside0.mk p612; replace q612 := Aside0.mk q612; replace H := obs H; obtain ⟨t613, hm, H⟩ := H; (try dsimp only at H); replace hm := Aside0.mk hm; replace H := Aside0.mk H; refine pu 6 (some 23) 127 ?_; refine ld 7 (some 24) 255 hHeld ?_ (hr := by (intro w' h_; have y0_ := xD HBr h_ hx612_0; have y1_ := xD HBr h_ hx612_1; have y2_ := xD HBr h_ hx612_2; have y3_ := xD HBr h_ hx612_3; have y4_ := xD HBr h_ hx612_4; have y5_ := xD HBr h_ hx612_5; go_simp; with_reducible rfl)); refine on 8 (some 25) 511 (fun K hK => ?_); have hcall := laws_eqFact.calls _ _ _ _ _ _ _ _ _ _ _ _ _ W4  hm.out; refine goes_ Tryz.func100 (by kernel_rfl) rfl #[.agg #[.int .i64 ((rd_T136 l0 x5_2).f0), .int .i64 ((rd_T136 l0 x5_2).f1), .int .i64 ((rd_T136 l0 x5_2).f2), .int .i64 ((rd_T136 l0 x5_2).f3), .int .i64 ((rd_T136 l0 x5_2).f4), .int .i64 ((rd_T136 l0 x5_2).f5)], .agg #[.int .i64 ((rd_T136 l1 x5_2).f0), .int .i64 ((rd_T136 l1 x5_2).f1), .int .i64 ((rd_T136 l1 x5_2).f2), .int .i64 ((rd_T136 l1 x5_2).f3), .int .i64 ((rd_T136 l1 x5_2).f4), .int .i64 ((rd_T136 l1 x5_2).f5)]] (by rfl) rfl rfl (by (try simp only [List.map_toArray, List.map_cons, List.map_nil]); first | done | rfl) ?_; refine hcall.mono ?_; rintro e W8 ⟨rfl, hb⟩; refine ⟨_, rfl, ?_⟩; clear hcall hm; replace hHeld := below_step hHeld hb; replace HB := bH HB hb; clear hb; refine hK.out _ _ hHeld (fun hHeld => ?_); clear hK K; refine nr 25 ?_; refine pu 9 (some 26) 1023 ?_; refine dn (by kernel_rfl) ?_; clear hHeld HBr; replace H := ifD H.out; rcases H with ⟨c9, H⟩ | ⟨c9, H⟩; rotate_left
   ·replace c9 := nT c9; subst c9; cases H; go_wp2; go_ret; exact ⟨rfl, HB.out⟩
   subst c9; replace H := Aside0.mk H; go_wp2; go_roundg k2
   case measure => have := Hk2.out; omega
   case rel => exact ⟨(wrap64 (x5_2 + 1)), (by first | rfl | (simp; done) | (simp [*]; done)), H, ⟨by have := Hk2.out; omega⟩, HB⟩
mutual
def laws_eqCondS.l0 : Nat → List (S172) → List (S172) → Int → Option (Bool)
 | 0, _, _, _ => none
 | k + 1, x0, x1, x5 => if x5 < (x0.length : Int) then (if 0 ≤ x5 then (if x5 < (x1.length : Int) then ((laws_eqCond.f k ((rd_T172 x0 x5).f0) ((rd_T172 x0 x5).f1) ((rd_T172 x0 x5).f2) ((rd_T172 x0 x5).f3) ((rd_T172 x1 x5).f0) ((rd_T172 x1 x5).f1) ((rd_T172 x1 x5).f2) ((rd_T172 x1 x5).f3)).bind fun t616 => (if t616 = true then (laws_eqCondS.l0 k x0 x1 (wrap64 (x5 + 1))) else (some false))) else (none)) else (none)) else (some true)
def laws_eqCondS.f : Nat → List (S172) → List (S172) → Option (Bool)
 | 0, _, _ => none
 | k + 1, l0, l1 => if (l0.length : Int) = (l1.length : Int) then (laws_eqCondS.l0 k l0 l1 0) else (some false)
def laws_eqCond.f : Nat → Int → Int → Int → List (S172) → Int → Int → Int → List (S172) → Option (Bool)
 | 0, _, _, _, _, _, _, _, _ => none
 | k + 1, a0_0, a0_1, a0_2, l0_3, a1_0, a1_1, a1_2, l1_3 => if a0_0 = a1_0 then (if a0_1 = a1_1 then (if a0_2 = a1_2 then ((laws_eqCondS.f k l0_3 l1_3).bind fun t619 => (if t619 = true then (some true) else (some false))) else (some false)) else (some false)) else (some false)
end
abbrev laws_eqCondS.Stmt (k : Nat) : Prop := ∀ (A0 : Option Addr) (c0 : Nat) (l0 : List (S172)) (A1 : Option Addr) (c1 : Nat) (l1 : List (S172)) (r : Bool) (w : World) (hr0 : Kd.C k172 w A0 l0.length l0) (hc0 : l0.length ≤ c0) (hr1 : Kd.C k172 w A1 l1.length l1) (hc1 : l1.length ≤ c1) (h : laws_eqCondS.f k l0 l1 = some r),
  Calls Tryz.prog 334 #[.slice A0 l0.length c0, .slice A1 l1.length c1] w fun e w' => e = .returned (.bool r) ∧ Below w.heap.size w w'
abbrev laws_eqCond.Stmt (k : Nat) : Prop := ∀ (a0_0 : Int) (a0_1 : Int) (a0_2 : Int) (A0_3 : Option Addr) (c0_3 : Nat) (l0_3 : List (S172)) (a1_0 : Int) (a1_1 : Int) (a1_2 : Int) (A1_3 : Option Addr) (c1_3 : Nat) (l1_3 : List (S172)) (r : Bool) (w : World) (hr0_3 : Kd.C k172 w A0_3 l0_3.length l0_3) (hc0_3 : l0_3.length ≤ c0_3) (hr1_3 : Kd.C k172 w A1_3 l1_3.length l1_3) (hc1_3 : l1_3.length ≤ c1_3) (h : laws_eqCond.f k a0_0 a0_1 a0_2 l0_3 a1_0 a1_1 a1_2 l1_3 = some r),
  Calls Tryz.prog 252 #[.agg #[.int .i64 a0_0, .int .i64 a0_1, .int .i64 a0_2, .slice A0_3 l0_3.length c0_3], .agg #[.int .i64 a1_0, .int .i64 a1_1, .int .i64 a1_2, .slice A1_3 l1_3.length c1_3]] w fun e w' => e = .returned (.bool r) ∧ Below w.heap.size w w'
theorem laws_eqCondS.step (k : Nat) (ih_laws_eqCondS : ∀ m_, m_ < k → laws_eqCondS.Stmt m_) (ih_laws_eqCond : ∀ m_, m_ < k → laws_eqCond.Stmt m_) : laws_eqCondS.Stmt k := by
 unfold laws_eqCondS.Stmt
 intro A0 c0 l0 A1 c1 l1 r w hr0 hc0 hr1 hc1 h
 cases k with
 | zero => exact absurd h (by simp [laws_eqCondS.f])
 | succ k =>
 simp only [laws_eqCondS.f] at h
 have HR0 := Aside0.mk hr0
 have HC0 := Aside0.mk hc0
 clear hr0 hc0
 have HR1 := Aside0.mk hr1
 have HC1 := Aside0.mk hc1
 clear hr1 hc1
 have HB := Aside0.mk (Below.refl w.heap.size w)
 have H := h
 clear h
 have hu172 := Tryz.underlying172
 go_enter Tryz.func334, Tryz.ntmps334
 replace H := ifD H; rcases H with ⟨c1, H⟩ | ⟨c1, H⟩
 rotate_left
 ·have c1_x0 : (l0.length == l1.length) = false := by first | simpa using c1 | (simp at c1 ⊢; omega)
  obtain ⟨c1_0, c1_1, c1_2⟩ := d3F c1
  clear c1
  (first | rw [c1_1] | rw [c1_2] | skip)
  cases H
  go_wp2
  go_ret
  exact ⟨rfl, HB.out⟩
 have c1_x0 : (l0.length == l1.length) = true := by first | simpa using c1 | (simp at c1 ⊢; omega)
 obtain ⟨c1_0, c1_1, c1_2⟩ := d3T c1
 clear c1
 (first | rw [c1_1] | rw [c1_2] | skip)
 replace H := Aside0.mk H
 go_wp2
 go_loopg [5] k (fun kq v5 w' => ∃ (x5_2 : Int), v5 = .int .i64 x5_2 ∧ Aside0 (laws_eqCondS.l0 kq l0 l1 x5_2 = some r) ∧ Aside0 (kq ≤ k) ∧ Aside0 (Below w.heap.size w w'))
 case atStart => exact ⟨(0), (by first | rfl | (simp; done) | (simp [*]; done)), H, ⟨Nat.le_refl _⟩, HB⟩
 case round =>
  clear H HB 
  (try clear c1_x0 c1_0 c1_1 c1_2)
  obtain ⟨x5_2, rfl, HA, Hk2, HB⟩ := hrel
  cases gk with
  | zero => exact absurd HA.out (by simp [laws_eqCondS.l0])
  | succ k2 =>
   have H := HA.out; clear HA; simp only [laws_eqCondS.l0] at H; replace H := ifD H; rcases H with ⟨c3, H⟩ | ⟨c3, H⟩; rotate_left
   ·have c3_0 := decF c3; replace c3 := Aside0.mk c3; (try rw [c3_0]); cases H; go_wp2; go_ret; exact ⟨rfl, HB.out⟩
   have c3_0 := decT c3; replace c3 := Aside0.mk c3; (try rw [c3_0]); replace H := Aside0.mk H; try go_wp2
   have HBr := HB; replace HB := dH HB; refine stA (n := 10) (S := fun w' => Below wr.heap.size wr w') (by kernel_rfl) rfl (below_drew1 (Below.refl _ wr)) (by kernel_rfl) (fun hHeld => ?_); generalize wr.drew = W4 at HB hHeld ⊢; refine pu 0 (some 17) 1 ?_; refine pu 1 (some 18) 3 ?_; replace H := ifN H.out; obtain ⟨c5, H⟩ := H; have c5_0 := decT c5; replace c5 := Aside0.mk c5; (try rw [c5_0]); have p614 : 0 ≤ (x5_2 : Int) := (of_decide_eq_true (by assumption)); have q614 : x5_2 < (l0.length : Int) := (of_decide_eq_true (by assumption)); obtain ⟨ad614, A614_3, c614_3, e614, hx614_0, hx614_1, hx614_2, hx614_3, hl614_3, hi614_3⟩ := at_T172 HR0.out x5_2 p614 q614; cases e614; have HR614_3 := Aside0.mk hi614_3; have HC614_3 := Aside0.mk hl614_3; clear hi614_3 hl614_3; replace hx614_0 := Aside0.mk hx614_0; replace hx614_1 := Aside0.mk hx614_1; replace hx614_2 := Aside0.mk hx614_2; replace hx614_3 := Aside0.mk hx614_3; have r614 := eq_true p614; have s614 := eq_true q614; replace p614 := Aside0.mk p614; replace q614 := Aside0.mk q614; replace H := Aside0.mk H; refine pu 2 (some 19) 7 ?_; refine pu 4 (some 21) 23 ?_; refine pu 5 (some 22) 55 ?_; refine ld 3 (some 20) 63 hHeld ?_ (hr := by (intro w' h_; have y0_ := xD HBr h_ hx614_0; have y1_ := xD HBr h_ hx614_1; have y2_ := xD HBr h_ hx614_2; have y3_ := xD HBr h_ hx614_3; go_simp; with_reducible rfl)); replace H := ifN H.out; obtain ⟨c6, H⟩ := H; have c6_0 := decT c6; replace c6 := Aside0.mk c6; (try rw [c6_0]); have p615 : 0 ≤ (x5_2 : Int) := (of_decide_eq_true (by assumption)); have q615 : x5_2 < (l1.length : Int) := (of_decide_eq_true (by assumption)); obtain ⟨ad615, A615_3, c615_3, e615, hx615_0, hx615_1, hx615_2, hx615_3, hl615_3, hi615_3⟩ := at_T172 HR1.out x5_2 p615 q615; cases e615; have HR615_3 := Aside0.mk hi615_3; have HC615_3 := Aside0.mk hl615_3; clear hi615_3 hl615_3; replace hx615_0 := Aside0.mk hx615_0; replace hx615_1 := Aside0.mk hx615_1; replace hx615_2 := Aside0.mk hx615_2; replace hx615_3 := Aside0.mk hx615_3; have r615 := eq_true p615; have s615 := eq_true q615; replace p615 := Aside0.mk p615; replace q615 := Aside0.mk q615; replace H := obs H; obtain ⟨t616, hm, H⟩ := H; (try dsimp only at H); replace hm := Aside0.mk hm; replace H := Aside0.mk H; refine pu 6 (some 23) 127 ?_; refine ld 7 (some 24) 255 hHeld ?_ (hr := by (intro w' h_; have y0_ := xD HBr h_ hx615_0; have y1_ := xD HBr h_ hx615_1; have y2_ := xD HBr h_ hx615_2; have y3_ := xD HBr h_ hx615_3; go_simp; with_reducible rfl)); refine on 8 (some 25) 511 (fun K hK => ?_); have hcall := ih_laws_eqCond k2 (by have := Hk2.out; omega) _ _ _ _ _ _ _ _ _ _ _ _ _ W4 (Kd.C_below HR614_3.out HB.out) HC614_3.out (Kd.C_below HR615_3.out HB.out) HC615_3.out hm.out; refine goes_ Tryz.func252 (by kernel_rfl) rfl #[.agg #[.int .i64 ((rd_T172 l0 x5_2).f0), .int .i64 ((rd_T172 l0 x5_2).f1), .int .i64 ((rd_T172 l0 x5_2).f2), .slice A614_3 ((rd_T172 l0 x5_2).f3).length c614_3], .agg #[.int .i64 ((rd_T172 l1 x5_2).f0), .int .i64 ((rd_T172 l1 x5_2).f1), .int .i64 ((rd_T172 l1 x5_2).f2), .slice A615_3 ((rd_T172 l1 x5_2).f3).length c615_3]] (by rfl) rfl rfl (by (try simp only [List.map_toArray, List.map_cons, List.map_nil]); first | done | rfl) ?_; refine hcall.mono ?_; rintro e W8 ⟨rfl, hb⟩; refine ⟨_, rfl, ?_⟩; clear hcall hm; replace hHeld := below_step hHeld hb; replace HB := bH HB hb; clear hb; refine hK.out _ _ hHeld (fun hHeld => ?_); clear hK K; refine nr 25 ?_; refine pu 9 (some 26) 1023 ?_; refine dn (by kernel_rfl) ?_; clear hHeld HBr; replace H := ifD H.out; rcases H with ⟨c9, H⟩ | ⟨c9, H⟩; rotate_left
   ·replace c9 := nT c9; subst c9; cases H; go_wp2; go_ret; exact ⟨rfl, HB.out⟩
   subst c9; replace H := Aside0.mk H; go_wp2; go_roundg k2
   case measure => have := Hk2.out; omega
   case rel => exact ⟨(wrap64 (x5_2 + 1)), (by first | rfl | (simp; done) | (simp [*]; done)), H, ⟨by have := Hk2.out; omega⟩, HB⟩
theorem laws_eqCond.step (k : Nat) (ih_laws_eqCondS : ∀ m_, m_ < k → laws_eqCondS.Stmt m_) (ih_laws_eqCond : ∀ m_, m_ < k → laws_eqCond.Stmt m_) : laws_eqCond.Stmt k := by
 unfold laws_eqCond.Stmt
 intro a0_0 a0_1 a0_2 A0_3 c0_3 l0_3 a1_0 a1_1 a1_2 A1_3 c1_3 l1_3 r w hr0_3 hc0_3 hr1_3 hc1_3 h
 cases k with
 | zero => exact absurd h (by simp [laws_eqCond.f])
 | succ k =>
 simp only [laws_eqCond.f] at h
 have HR0_3 := Aside0.mk hr0_3
 have HC0_3 := Aside0.mk hc0_3
 clear hr0_3 hc0_3
 have HR1_3 := Aside0.mk hr1_3
 have HC1_3 := Aside0.mk hc1_3
 clear hr1_3 hc1_3
 have HB := Aside0.mk (Below.refl w.heap.size w)
 have H := h
 clear h
 have hu172 := Tryz.underlying172
 go_enter Tryz.func252, Tryz.ntmps252
 replace H := Aside0.mk H
 go_upto_region 1 with (first | ((with_reducible refine gate_dst (N := 2) rfl ?_); refine box_event ?hg (N := 2) ?hd (cs := #[.int .i64 a0_0, .int .i64 a0_1, .int .i64 a0_2, .slice A0_3 l0_3.length c0_3]) (t := 172) ?hr ?_; (case hd => rfl); (case hg => rfl); (case hr => first | (go_simp; done) | (go_simp; rfl)); intro gb1 hg W1 hbox hb; replace HB := bH HB hb; clear hb; have BK1 := Aside0.mk hbox; have c_BK1 := blk_cell hbox; have z_BK1 := blk_frozen hbox; clear hg hbox) | ((with_reducible refine gate_dst (N := 3) rfl ?_); refine box_event ?hg (N := 3) ?hd (cs := #[.int .i64 a1_0, .int .i64 a1_1, .int .i64 a1_2, .slice A1_3 l1_3.length c1_3]) (t := 172) ?hr ?_; (case hd => rfl); (case hg => rfl); (case hr => first | (go_simp; done) | (go_simp; rfl)); intro gb2 hg W2 hbox hb; replace BK1 := bK BK1 hb; replace c_BK1 := bcl BK1; replace z_BK1 := bfr BK1; replace HB := bH HB hb; clear hb; have BK2 := Aside0.mk hbox; have c_BK2 := blk_cell hbox; have z_BK2 := blk_frozen hbox; clear hg hbox))
 replace H := ifD H.out; rcases H with ⟨c3, H⟩ | ⟨c3, H⟩
 rotate_left
 ·obtain ⟨c3_0, c3_1, c3_2⟩ := d3F c3
  clear c3
  (first | rw [c3_1] | rw [c3_2] | skip)
  cases H
  go_wp2
  go_ret
  exact ⟨rfl, HB.out⟩
 obtain ⟨c3_0, c3_1, c3_2⟩ := d3T c3
 clear c3
 (first | rw [c3_1] | rw [c3_2] | skip)
 replace H := ifD H; rcases H with ⟨c4, H⟩ | ⟨c4, H⟩
 rotate_left
 ·obtain ⟨c4_0, c4_1, c4_2⟩ := d3F c4
  clear c4
  (first | rw [c4_1] | rw [c4_2] | skip)
  cases H
  go_wp2
  go_ret
  exact ⟨rfl, HB.out⟩
 obtain ⟨c4_0, c4_1, c4_2⟩ := d3T c4
 clear c4
 (first | rw [c4_1] | rw [c4_2] | skip)
 replace H := ifD H; rcases H with ⟨c5, H⟩ | ⟨c5, H⟩
 rotate_left
 ·obtain ⟨c5_0, c5_1, c5_2⟩ := d3F c5
  clear c5
  (first | rw [c5_1] | rw [c5_2] | skip)
  cases H
  go_wp2
  go_ret
  exact ⟨rfl, HB.out⟩
 obtain ⟨c5_0, c5_1, c5_2⟩ := d3T c5
 clear c5
 (first | rw [c5_1] | rw [c5_2] | skip)
 replace H := obs H
 obtain ⟨t619, hm, H⟩ := H
 (try dsimp only at H)
 replace H := Aside0.mk H
 have hcall := ih_laws_eqCondS k (by omega) _ _ _ _ _ _ _ W2 (Kd.C_below HR0_3.out HB.out) HC0_3.out (Kd.C_below HR1_3.out HB.out) HC1_3.out hm
 clear hm
 (go_wp2_with fail)
 refine hcall.mono ?_
 rintro e W6 ⟨rfl, hb⟩
 clear hcall
 replace BK1 := bK BK1 hb; replace c_BK1 := bcl BK1; replace z_BK1 := bfr BK1
 replace BK2 := bK BK2 hb; replace c_BK2 := bcl BK2; replace z_BK2 := bfr BK2
 replace HB := bH HB hb; clear hb
 replace H := ifD H.out; rcases H with ⟨c7, H⟩ | ⟨c7, H⟩
 ·subst c7
  cases H
  go_wp2
  go_ret
  exact ⟨rfl, HB.out⟩
 replace c7 := nT c7
 subst c7
 cases H
 go_wp2
 go_ret
 exact ⟨rfl, HB.out⟩
theorem laws_eqCondS.both (k : Nat) : laws_eqCondS.Stmt k ∧ laws_eqCond.Stmt k := by
 induction k using Nat.strongRecOn with
 | _ k ih =>
 exact ⟨laws_eqCondS.step k (fun m hm => (ih m hm).1) (fun m hm => (ih m hm).2), laws_eqCond.step k (fun m hm => (ih m hm).1) (fun m hm => (ih m hm).2)⟩
theorem laws_eqCond.calls (k : Nat) : ∀ (a0_0 : Int) (a0_1 : Int) (a0_2 : Int) (A0_3 : Option Addr) (c0_3 : Nat) (l0_3 : List (S172)) (a1_0 : Int) (a1_1 : Int) (a1_2 : Int) (A1_3 : Option Addr) (c1_3 : Nat) (l1_3 : List (S172)) (r : Bool) (w : World) (hr0_3 : Kd.C k172 w A0_3 l0_3.length l0_3) (hc0_3 : l0_3.length ≤ c0_3) (hr1_3 : Kd.C k172 w A1_3 l1_3.length l1_3) (hc1_3 : l1_3.length ≤ c1_3) (h : laws_eqCond.f k a0_0 a0_1 a0_2 l0_3 a1_0 a1_1 a1_2 l1_3 = some r),
  Calls Tryz.prog 252 #[.agg #[.int .i64 a0_0, .int .i64 a0_1, .int .i64 a0_2, .slice A0_3 l0_3.length c0_3], .agg #[.int .i64 a1_0, .int .i64 a1_1, .int .i64 a1_2, .slice A1_3 l1_3.length c1_3]] w fun e w' => e = .returned (.bool r) ∧ Below w.heap.size w w' := (laws_eqCondS.both k).2
def laws_eqRule.f (k : Nat) (a0_0 : Int) (a0_1 : Int) (a0_2 : Int) (a0_3 : Int) (a0_4 : Int) (a0_5 : Int) (l0_6 : List (S172)) (a1_0 : Int) (a1_1 : Int) (a1_2 : Int) (a1_3 : Int) (a1_4 : Int) (a1_5 : Int) (l1_6 : List (S172)) : Option (Bool) := if a0_0 = a1_0 then (if a0_1 = a1_1 then (if a0_2 = a1_2 then ((laws_eqCond.f k a0_3 a0_4 a0_5 l0_6 a1_3 a1_4 a1_5 l1_6).bind fun t622 => (if t622 = true then (some true) else (some false))) else (some false)) else (some false)) else (some false)
theorem laws_eqRule.calls (k : Nat) (a0_0 : Int) (a0_1 : Int) (a0_2 : Int) (a0_3 : Int) (a0_4 : Int) (a0_5 : Int) (A0_6 : Option Addr) (c0_6 : Nat) (l0_6 : List (S172)) (a1_0 : Int) (a1_1 : Int) (a1_2 : Int) (a1_3 : Int) (a1_4 : Int) (a1_5 : Int) (A1_6 : Option Addr) (c1_6 : Nat) (l1_6 : List (S172)) (r : Bool) (w : World) (hr0_6 : Kd.C k172 w A0_6 l0_6.length l0_6) (hc0_6 : l0_6.length ≤ c0_6) (hr1_6 : Kd.C k172 w A1_6 l1_6.length l1_6) (hc1_6 : l1_6.length ≤ c1_6) (h : laws_eqRule.f k a0_0 a0_1 a0_2 a0_3 a0_4 a0_5 l0_6 a1_0 a1_1 a1_2 a1_3 a1_4 a1_5 l1_6 = some r) :
  Calls Tryz.prog 135 #[.agg #[.int .i64 a0_0, .int .i64 a0_1, .int .i64 a0_2, .int .i64 a0_3, .int .i64 a0_4, .int .i64 a0_5, .slice A0_6 l0_6.length c0_6], .agg #[.int .i64 a1_0, .int .i64 a1_1, .int .i64 a1_2, .int .i64 a1_3, .int .i64 a1_4, .int .i64 a1_5, .slice A1_6 l1_6.length c1_6]] w fun e w' => e = .returned (.bool r) ∧ Below w.heap.size w w' := by
 have HR0_6 := Aside0.mk hr0_6
 have HC0_6 := Aside0.mk hc0_6
 clear hr0_6 hc0_6
 have HR1_6 := Aside0.mk hr1_6
 have HC1_6 := Aside0.mk hc1_6
 clear hr1_6 hc1_6
 have HB := Aside0.mk (Below.refl w.heap.size w)
 have H := h
 clear h
 unfold laws_eqRule.f at H
 have hu172 := Tryz.underlying172
 have hu174 := Tryz.underlying174
 go_enter Tryz.func135, Tryz.ntmps135
 replace H := Aside0.mk H
 go_upto_region 1 with (first | ((with_reducible refine gate_dst (N := 2) rfl ?_); refine box_event ?hg (N := 2) ?hd (cs := #[.int .i64 a0_0, .int .i64 a0_1, .int .i64 a0_2, .int .i64 a0_3, .int .i64 a0_4, .int .i64 a0_5, .slice A0_6 l0_6.length c0_6]) (t := 174) ?hr ?_; (case hd => rfl); (case hg => rfl); (case hr => first | (go_simp; done) | (go_simp; rfl)); intro gb1 hg W1 hbox hb; replace HB := bH HB hb; clear hb; have BK1 := Aside0.mk hbox; have c_BK1 := blk_cell hbox; have z_BK1 := blk_frozen hbox; clear hg hbox) | ((with_reducible refine gate_dst (N := 3) rfl ?_); refine box_event ?hg (N := 3) ?hd (cs := #[.int .i64 a1_0, .int .i64 a1_1, .int .i64 a1_2, .int .i64 a1_3, .int .i64 a1_4, .int .i64 a1_5, .slice A1_6 l1_6.length c1_6]) (t := 174) ?hr ?_; (case hd => rfl); (case hg => rfl); (case hr => first | (go_simp; done) | (go_simp; rfl)); intro gb2 hg W2 hbox hb; replace BK1 := bK BK1 hb; replace c_BK1 := bcl BK1; replace z_BK1 := bfr BK1; replace HB := bH HB hb; clear hb; have BK2 := Aside0.mk hbox; have c_BK2 := blk_cell hbox; have z_BK2 := blk_frozen hbox; clear hg hbox))
 replace H := ifD H.out; rcases H with ⟨c3, H⟩ | ⟨c3, H⟩
 rotate_left
 ·obtain ⟨c3_0, c3_1, c3_2⟩ := d3F c3
  clear c3
  (first | rw [c3_1] | rw [c3_2] | skip)
  cases H
  go_wp2
  go_ret
  exact ⟨rfl, HB.out⟩
 obtain ⟨c3_0, c3_1, c3_2⟩ := d3T c3
 clear c3
 (first | rw [c3_1] | rw [c3_2] | skip)
 replace H := ifD H; rcases H with ⟨c4, H⟩ | ⟨c4, H⟩
 rotate_left
 ·obtain ⟨c4_0, c4_1, c4_2⟩ := d3F c4
  clear c4
  (first | rw [c4_1] | rw [c4_2] | skip)
  cases H
  go_wp2
  go_ret
  exact ⟨rfl, HB.out⟩
 obtain ⟨c4_0, c4_1, c4_2⟩ := d3T c4
 clear c4
 (first | rw [c4_1] | rw [c4_2] | skip)
 replace H := ifD H; rcases H with ⟨c5, H⟩ | ⟨c5, H⟩
 rotate_left
 ·obtain ⟨c5_0, c5_1, c5_2⟩ := d3F c5
  clear c5
  (first | rw [c5_1] | rw [c5_2] | skip)
  cases H
  go_wp2
  go_ret
  exact ⟨rfl, HB.out⟩
 obtain ⟨c5_0, c5_1, c5_2⟩ := d3T c5
 clear c5
 (first | rw [c5_1] | rw [c5_2] | skip)
 replace H := obs H
 obtain ⟨t622, hm, H⟩ := H
 (try dsimp only at H)
 replace H := Aside0.mk H
 have hcall := laws_eqCond.calls k _ _ _ _ _ _ _ _ _ _ _ _ _ W2 (Kd.C_below HR0_6.out HB.out) HC0_6.out (Kd.C_below HR1_6.out HB.out) HC1_6.out hm
 clear hm
 (go_wp2_with fail)
 refine hcall.mono ?_
 rintro e W6 ⟨rfl, hb⟩
 clear hcall
 replace BK1 := bK BK1 hb; replace c_BK1 := bcl BK1; replace z_BK1 := bfr BK1
 replace BK2 := bK BK2 hb; replace c_BK2 := bcl BK2; replace z_BK2 := bfr BK2
 replace HB := bH HB hb; clear hb
 replace H := ifD H.out; rcases H with ⟨c7, H⟩ | ⟨c7, H⟩
 ·subst c7
  cases H
  go_wp2
  go_ret
  exact ⟨rfl, HB.out⟩
 replace c7 := nT c7
 subst c7
 cases H
 go_wp2
 go_ret
 exact ⟨rfl, HB.out⟩
def laws_eqRuleS.l0 : Nat → List (S174) → List (S174) → Int → Option (Bool)
 | 0, _, _, _ => none
 | k + 1, x0, x1, x5 => if x5 < (x0.length : Int) then (if 0 ≤ x5 then (if x5 < (x1.length : Int) then ((laws_eqRule.f k ((rd_T174 x0 x5).f0) ((rd_T174 x0 x5).f1) ((rd_T174 x0 x5).f2) ((rd_T174 x0 x5).f3.f0) ((rd_T174 x0 x5).f3.f1) ((rd_T174 x0 x5).f3.f2) ((rd_T174 x0 x5).f3.f3) ((rd_T174 x1 x5).f0) ((rd_T174 x1 x5).f1) ((rd_T174 x1 x5).f2) ((rd_T174 x1 x5).f3.f0) ((rd_T174 x1 x5).f3.f1) ((rd_T174 x1 x5).f3.f2) ((rd_T174 x1 x5).f3.f3)).bind fun t625 => (if t625 = true then (laws_eqRuleS.l0 k x0 x1 (wrap64 (x5 + 1))) else (some false))) else (none)) else (none)) else (some true)
def laws_eqRuleS.f (k : Nat) (l0 : List (S174)) (l1 : List (S174)) : Option (Bool) := if (l0.length : Int) = (l1.length : Int) then (laws_eqRuleS.l0 k l0 l1 0) else (some false)
theorem laws_eqRuleS.calls (k : Nat) (A0 : Option Addr) (c0 : Nat) (l0 : List (S174)) (A1 : Option Addr) (c1 : Nat) (l1 : List (S174)) (r : Bool) (w : World) (hr0 : Kd.C k174 w A0 l0.length l0) (hc0 : l0.length ≤ c0) (hr1 : Kd.C k174 w A1 l1.length l1) (hc1 : l1.length ≤ c1) (h : laws_eqRuleS.f k l0 l1 = some r) :
  Calls Tryz.prog 45 #[.slice A0 l0.length c0, .slice A1 l1.length c1] w fun e w' => e = .returned (.bool r) ∧ Below w.heap.size w w' := by
 have HR0 := Aside0.mk hr0
 have HC0 := Aside0.mk hc0
 clear hr0 hc0
 have HR1 := Aside0.mk hr1
 have HC1 := Aside0.mk hc1
 clear hr1 hc1
 have HB := Aside0.mk (Below.refl w.heap.size w)
 have H := h
 clear h
 unfold laws_eqRuleS.f at H
 have hu174 := Tryz.underlying174
 go_enter Tryz.func45, Tryz.ntmps45
 replace H := ifD H; rcases H with ⟨c1, H⟩ | ⟨c1, H⟩
 rotate_left
 ·have c1_x0 : (l0.length == l1.length) = false := by first | simpa using c1 | (simp at c1 ⊢; omega)
  obtain ⟨c1_0, c1_1, c1_2⟩ := d3F c1
  clear c1
  (first | rw [c1_1] | rw [c1_2] | skip)
  cases H
  go_wp2
  go_ret
  exact ⟨rfl, HB.out⟩
 have c1_x0 : (l0.length == l1.length) = true := by first | simpa using c1 | (simp at c1 ⊢; omega)
 obtain ⟨c1_0, c1_1, c1_2⟩ := d3T c1
 clear c1
 (first | rw [c1_1] | rw [c1_2] | skip)
 replace H := Aside0.mk H
 go_wp2
 go_loopg [5] k (fun kq v5 w' => ∃ (x5_2 : Int), v5 = .int .i64 x5_2 ∧ Aside0 (laws_eqRuleS.l0 kq l0 l1 x5_2 = some r) ∧ Aside0 (kq ≤ k) ∧ Aside0 (Below w.heap.size w w'))
 case atStart => exact ⟨(0), (by first | rfl | (simp; done) | (simp [*]; done)), H, ⟨Nat.le_refl _⟩, HB⟩
 case round =>
  clear H HB 
  (try clear c1_x0 c1_0 c1_1 c1_2)
  obtain ⟨x5_2, rfl, HA, Hk2, HB⟩ := hrel
  cases gk with
  | zero => exact absurd HA.out (by simp [laws_eqRuleS.l0])
  | succ k2 =>
   have H := HA.out; clear HA; simp only [laws_eqRuleS.l0] at H; replace H := ifD H; rcases H with ⟨c3, H⟩ | ⟨c3, H⟩; rotate_left
   ·have c3_0 := decF c3; replace c3 := Aside0.mk c3; (try rw [c3_0]); cases H; go_wp2; go_ret; exact ⟨rfl, HB.out⟩
   have c3_0 := decT c3; replace c3 := Aside0.mk c3; (try rw [c3_0]); replace H := Aside0.mk H; try go_wp2
   have HBr := HB; replace HB := dH HB; refine stA (n := 10) (S := fun w' => Below wr.heap.size wr w') (by kernel_rfl) rfl (below_drew1 (Below.refl _ wr)) (by kernel_rfl) (fun hHeld => ?_); generalize wr.drew = W4 at HB hHeld ⊢; refine pu 0 (some 17) 1 ?_; refine pu 1 (some 18) 3 ?_; replace H := ifN H.out; obtain ⟨c5, H⟩ := H; have c5_0 := decT c5; replace c5 := Aside0.mk c5; (try rw [c5_0]); have p623 : 0 ≤ (x5_2 : Int) := (of_decide_eq_true (by assumption)); have q623 : x5_2 < (l0.length : Int) := (of_decide_eq_true (by assumption)); obtain ⟨ad623, A623_6, c623_6, e623, hx623_0, hx623_1, hx623_2, hx623_3, hx623_4, hx623_5, hx623_6, hl623_6, hi623_6⟩ := at_T174 HR0.out x5_2 p623 q623; cases e623; have HR623_6 := Aside0.mk hi623_6; have HC623_6 := Aside0.mk hl623_6; clear hi623_6 hl623_6; replace hx623_0 := Aside0.mk hx623_0; replace hx623_1 := Aside0.mk hx623_1; replace hx623_2 := Aside0.mk hx623_2; replace hx623_3 := Aside0.mk hx623_3; replace hx623_4 := Aside0.mk hx623_4; replace hx623_5 := Aside0.mk hx623_5; replace hx623_6 := Aside0.mk hx623_6; have r623 := eq_true p623; have s623 := eq_true q623; replace p623 := Aside0.mk p623; replace q623 := Aside0.mk q623; replace H := Aside0.mk H; refine pu 2 (some 19) 7 ?_; refine pu 4 (some 21) 23 ?_; refine pu 5 (some 22) 55 ?_; refine ld 3 (some 20) 63 hHeld ?_ (hr := by (intro w' h_; have y0_ := xD HBr h_ hx623_0; have y1_ := xD HBr h_ hx623_1; have y2_ := xD HBr h_ hx623_2; have y3_ := xD HBr h_ hx623_3; have y4_ := xD HBr h_ hx623_4; have y5_ := xD HBr h_ hx623_5; have y6_ := xD HBr h_ hx623_6; go_simp; with_reducible rfl)); replace H := ifN H.out; obtain ⟨c6, H⟩ := H; have c6_0 := decT c6; replace c6 := Aside0.mk c6; (try rw [c6_0]); have p624 : 0 ≤ (x5_2 : Int) := (of_decide_eq_true (by assumption)); have q624 : x5_2 < (l1.length : Int) := (of_decide_eq_true (by assumption)); obtain ⟨ad624, A624_6, c624_6, e624, hx624_0, hx624_1, hx624_2, hx624_3, hx624_4, hx624_5, hx624_6, hl624_6, hi624_6⟩ := at_T174 HR1.out x5_2 p624 q624; cases e624; have HR624_6 := Aside0.mk hi624_6; have HC624_6 := Aside0.mk hl624_6; clear hi624_6 hl624_6; replace hx624_0 := Aside0.mk hx624_0; replace hx624_1 := Aside0.mk hx624_1; replace hx624_2 := Aside0.mk hx624_2; replace hx624_3 := Aside0.mk hx624_3; replace hx624_4 := Aside0.mk hx624_4; replace hx624_5 := Aside0.mk hx624_5; replace hx624_6 := Aside0.mk hx624_6; have r624 := eq_true p624; have s624 := eq_true q624; replace p624 := Aside0.mk p624; replace q624 := Aside0.mk q624; replace H := obs H; obtain ⟨t625, hm, H⟩ := H; (try dsimp only at H); replace hm := Aside0.mk hm; replace H := Aside0.mk H; refine pu 6 (some 23) 127 ?_; refine ld 7 (some 24) 255 hHeld ?_ (hr := by (intro w' h_; have y0_ := xD HBr h_ hx624_0; have y1_ := xD HBr h_ hx624_1; have y2_ := xD HBr h_ hx624_2; have y3_ := xD HBr h_ hx624_3; have y4_ := xD HBr h_ hx624_4; have y5_ := xD HBr h_ hx624_5; have y6_ := xD HBr h_ hx624_6; go_simp; with_reducible rfl)); refine on 8 (some 25) 511 (fun K hK => ?_); have hcall := laws_eqRule.calls k2 _ _ _ _ _ _ _ _ _ _ _ _ _ _ _ _ _ _ _ W4 (Kd.C_below HR623_6.out HB.out) HC623_6.out (Kd.C_below HR624_6.out HB.out) HC624_6.out hm.out; refine goes_ Tryz.func135 (by kernel_rfl) rfl #[.agg #[.int .i64 ((rd_T174 l0 x5_2).f0), .int .i64 ((rd_T174 l0 x5_2).f1), .int .i64 ((rd_T174 l0 x5_2).f2), .int .i64 ((rd_T174 l0 x5_2).f3.f0), .int .i64 ((rd_T174 l0 x5_2).f3.f1), .int .i64 ((rd_T174 l0 x5_2).f3.f2), .slice A623_6 ((rd_T174 l0 x5_2).f3.f3).length c623_6], .agg #[.int .i64 ((rd_T174 l1 x5_2).f0), .int .i64 ((rd_T174 l1 x5_2).f1), .int .i64 ((rd_T174 l1 x5_2).f2), .int .i64 ((rd_T174 l1 x5_2).f3.f0), .int .i64 ((rd_T174 l1 x5_2).f3.f1), .int .i64 ((rd_T174 l1 x5_2).f3.f2), .slice A624_6 ((rd_T174 l1 x5_2).f3.f3).length c624_6]] (by rfl) rfl rfl (by (try simp only [List.map_toArray, List.map_cons, List.map_nil]); first | done | rfl) ?_; refine hcall.mono ?_; rintro e W8 ⟨rfl, hb⟩; refine ⟨_, rfl, ?_⟩; clear hcall hm; replace hHeld := below_step hHeld hb
   replace HB := bH HB hb; clear hb; refine hK.out _ _ hHeld (fun hHeld => ?_); clear hK K; refine nr 25 ?_; refine pu 9 (some 26) 1023 ?_; refine dn (by kernel_rfl) ?_; clear hHeld HBr; replace H := ifD H.out; rcases H with ⟨c9, H⟩ | ⟨c9, H⟩; rotate_left
   ·replace c9 := nT c9; subst c9; cases H; go_wp2; go_ret; exact ⟨rfl, HB.out⟩
   subst c9; replace H := Aside0.mk H; go_wp2; go_roundg k2
   case measure => have := Hk2.out; omega
   case rel => exact ⟨(wrap64 (x5_2 + 1)), (by first | rfl | (simp; done) | (simp [*]; done)), H, ⟨by have := Hk2.out; omega⟩, HB⟩
def laws_eqPolicy.f (k : Nat) (a0_0 : Int) (l0_1 : List (S174)) (a1_0 : Int) (l1_1 : List (S174)) : Option (Bool) := if a0_0 = a1_0 then ((laws_eqRuleS.f k l0_1 l1_1).bind fun t628 => (if t628 = true then (some true) else (some false))) else (some false)
theorem laws_eqPolicy.calls (k : Nat) (a0_0 : Int) (A0_1 : Option Addr) (c0_1 : Nat) (l0_1 : List (S174)) (a1_0 : Int) (A1_1 : Option Addr) (c1_1 : Nat) (l1_1 : List (S174)) (r : Bool) (w : World) (hr0_1 : Kd.C k174 w A0_1 l0_1.length l0_1) (hc0_1 : l0_1.length ≤ c0_1) (hr1_1 : Kd.C k174 w A1_1 l1_1.length l1_1) (hc1_1 : l1_1.length ≤ c1_1) (h : laws_eqPolicy.f k a0_0 l0_1 a1_0 l1_1 = some r) :
  Calls Tryz.prog 25 #[.agg #[.int .i64 a0_0, .slice A0_1 l0_1.length c0_1], .agg #[.int .i64 a1_0, .slice A1_1 l1_1.length c1_1]] w fun e w' => e = .returned (.bool r) ∧ Below w.heap.size w w' := by
 have HR0_1 := Aside0.mk hr0_1
 have HC0_1 := Aside0.mk hc0_1
 clear hr0_1 hc0_1
 have HR1_1 := Aside0.mk hr1_1
 have HC1_1 := Aside0.mk hc1_1
 clear hr1_1 hc1_1
 have HB := Aside0.mk (Below.refl w.heap.size w)
 have H := h
 clear h
 unfold laws_eqPolicy.f at H
 have hu39 := Tryz.underlying39
 go_enter Tryz.func25, Tryz.ntmps25
 replace H := Aside0.mk H
 go_upto_region 1 with (first | ((with_reducible refine gate_dst (N := 2) rfl ?_); refine box_event ?hg (N := 2) ?hd (cs := #[.int .i64 a0_0, .slice A0_1 l0_1.length c0_1]) (t := 39) ?hr ?_; (case hd => rfl); (case hg => rfl); (case hr => first | (go_simp; done) | (go_simp; rfl)); intro gb1 hg W1 hbox hb; replace HB := bH HB hb; clear hb; have BK1 := Aside0.mk hbox; have c_BK1 := blk_cell hbox; have z_BK1 := blk_frozen hbox; clear hg hbox) | ((with_reducible refine gate_dst (N := 3) rfl ?_); refine box_event ?hg (N := 3) ?hd (cs := #[.int .i64 a1_0, .slice A1_1 l1_1.length c1_1]) (t := 39) ?hr ?_; (case hd => rfl); (case hg => rfl); (case hr => first | (go_simp; done) | (go_simp; rfl)); intro gb2 hg W2 hbox hb; replace BK1 := bK BK1 hb; replace c_BK1 := bcl BK1; replace z_BK1 := bfr BK1; replace HB := bH HB hb; clear hb; have BK2 := Aside0.mk hbox; have c_BK2 := blk_cell hbox; have z_BK2 := blk_frozen hbox; clear hg hbox))
 replace H := ifD H.out; rcases H with ⟨c3, H⟩ | ⟨c3, H⟩
 rotate_left
 ·obtain ⟨c3_0, c3_1, c3_2⟩ := d3F c3
  clear c3
  (first | rw [c3_1] | rw [c3_2] | skip)
  cases H
  go_wp2
  go_ret
  exact ⟨rfl, HB.out⟩
 obtain ⟨c3_0, c3_1, c3_2⟩ := d3T c3
 clear c3
 (first | rw [c3_1] | rw [c3_2] | skip)
 replace H := obs H
 obtain ⟨t628, hm, H⟩ := H
 (try dsimp only at H)
 replace H := Aside0.mk H
 have hcall := laws_eqRuleS.calls k _ _ _ _ _ _ _ W2 (Kd.C_below HR0_1.out HB.out) HC0_1.out (Kd.C_below HR1_1.out HB.out) HC1_1.out hm
 clear hm
 (go_wp2_with fail)
 refine hcall.mono ?_
 rintro e W4 ⟨rfl, hb⟩
 clear hcall
 replace BK1 := bK BK1 hb; replace c_BK1 := bcl BK1; replace z_BK1 := bfr BK1
 replace BK2 := bK BK2 hb; replace c_BK2 := bcl BK2; replace z_BK2 := bfr BK2
 replace HB := bH HB hb; clear hb
 replace H := ifD H.out; rcases H with ⟨c5, H⟩ | ⟨c5, H⟩
 ·subst c5
  cases H
  go_wp2
  go_ret
  exact ⟨rfl, HB.out⟩
 replace c5 := nT c5
 subst c5
 cases H
 go_wp2
 go_ret
 exact ⟨rfl, HB.out⟩
end Go.Proofs.YtmgfklmhelabcaaGreat.QFnExactDecisionUntil
