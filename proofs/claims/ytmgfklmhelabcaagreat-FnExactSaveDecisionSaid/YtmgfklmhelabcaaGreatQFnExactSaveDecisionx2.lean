/- The machine side of FnExactSaveDecision: what each function that it reaches computes, and that the machine's call gives just that. -/
import Derived.Test.YtmgfklmhelabcaaGreatQFnExactSaveDecisionx0
import Derived.Test.YtmgfklmhelabcaaGreatQFnExactSaveDecisionx1
namespace Go.Proofs.YtmgfklmhelabcaaGreat.QFnExactSaveDecision
open Go.RowKit Go.Proofs.YtmgfklmhelabcaaGreatW.PrintWords Go.Proofs.YtmgfklmhelabcaaGreatW.PrintLast Go.Proofs.YtmgfklmhelabcaaGreatW.PrintMore
attribute [local go_sem] max2_int min2_int max_two min_two max_three min_three max_four min_four
set_option maxHeartbeats 8000000
set_option maxRecDepth 100000
open Go.Proofs.YtmgfklmhelabcaaGreatM
set_option linter.unusedVariables false
set_option linter.unusedSimpArgs false
def laws_eqIncludesS.l0 : Nat → List (S154) → List (S154) → Int → Option (Bool)
 | 0, _, _, _ => none
 | k + 1, x0, x1, x5 => if x5 < (x0.length : Int) then (if 0 ≤ x5 then (if x5 < (x1.length : Int) then ((laws_eqIncludes.f ((rd_T154 x0 x5).f0) ((rd_T154 x0 x5).f1) ((rd_T154 x1 x5).f0) ((rd_T154 x1 x5).f1)).bind fun t244 => (if t244 = true then (laws_eqIncludesS.l0 k x0 x1 (wrap64 (x5 + 1))) else (some false))) else (none)) else (none)) else (some true)
def laws_eqIncludesS.f (k : Nat) (l0 : List (S154)) (l1 : List (S154)) : Option (Bool) := if (l0.length : Int) = (l1.length : Int) then (laws_eqIncludesS.l0 k l0 l1 0) else (some false)
theorem laws_eqIncludesS.calls (k : Nat) (A0 : Option Addr) (c0 : Nat) (l0 : List (S154)) (A1 : Option Addr) (c1 : Nat) (l1 : List (S154)) (r : Bool) (w : World) (hr0 : Kd.C k154 w A0 l0.length l0) (hc0 : l0.length ≤ c0) (hr1 : Kd.C k154 w A1 l1.length l1) (hc1 : l1.length ≤ c1) (h : laws_eqIncludesS.f k l0 l1 = some r) :
  Calls Tryz.prog 23 #[.slice A0 l0.length c0, .slice A1 l1.length c1] w fun e w' => e = .returned (.bool r) ∧ Below w.heap.size w w' := by
 have HR0 := Aside0.mk hr0
 have HC0 := Aside0.mk hc0
 clear hr0 hc0
 have HR1 := Aside0.mk hr1
 have HC1 := Aside0.mk hc1
 clear hr1 hc1
 have HB := Aside0.mk (Below.refl w.heap.size w)
 have H := h
 clear h
 unfold laws_eqIncludesS.f at H
 have hu154 := Tryz.underlying154
 go_enter Tryz.func23, Tryz.ntmps23
 replace H := ifD H; rcases H with ⟨c1, H⟩ | ⟨c1, H⟩
 rotate_left
 ·have c1_x0 : (l0.length == l1.length) = false := by first | simpa using c1 | (simp at c1 ⊢; omega)
  obtain ⟨c1_0, c1_1, c1_2⟩ := d3F c1
  clear c1
  (first | rw [c1_1] | rw [c1_2] | skip)
  cases H
  go_wp2
  go_ret
  exact ⟨rfl, HB.out⟩
 have c1_x0 : (l0.length == l1.length) = true := by first | simpa using c1 | (simp at c1 ⊢; omega)
 obtain ⟨c1_0, c1_1, c1_2⟩ := d3T c1
 clear c1
 (first | rw [c1_1] | rw [c1_2] | skip)
 replace H := Aside0.mk H
 go_wp2
 go_loopg [5] k (fun kq v5 w' => ∃ (x5_2 : Int), v5 = .int .i64 x5_2 ∧ Aside0 (laws_eqIncludesS.l0 kq l0 l1 x5_2 = some r) ∧ Aside0 (kq ≤ k) ∧ Aside0 (Below w.heap.size w w'))
 case atStart => exact ⟨(0), zT, H, ⟨Nat.le_refl _⟩, HB⟩
 case round =>
  clear H HB 
  (try clear c1_x0 c1_0 c1_1 c1_2)
  obtain ⟨x5_2, rfl, HA, Hk2, HB⟩ := hrel
  cases gk with
  | zero => exact absurd HA.out (by simp [laws_eqIncludesS.l0])
  | succ k2 =>
   have H := HA.out; clear HA; simp only [laws_eqIncludesS.l0] at H; replace H := ifD H; rcases H with ⟨c3, H⟩ | ⟨c3, H⟩; rotate_left
   ·have c3_0 := decF c3; replace c3 := Aside0.mk c3; (try rw [c3_0]); cases H; go_wp2; go_ret; exact ⟨rfl, HB.out⟩
   have c3_0 := decT c3; replace c3 := Aside0.mk c3; (try rw [c3_0]); replace H := Aside0.mk H; try go_wp2
   have HBr := HB; replace HB := dH HB; refine stA (n := 10) (S := fun w' => Below wr.heap.size wr w') (by kernel_rfl) rfl (below_drew1 (Below.refl _ wr)) (by kernel_rfl) (fun hHeld => ?_); generalize wr.drew = W4 at HB hHeld ⊢; refine pu 0 (some 17) 1 ?_; refine pu 1 (some 18) 3 ?_; replace H := ifN H.out; obtain ⟨c5, H⟩ := H; have c5_0 := decT c5; replace c5 := Aside0.mk c5; (try rw [c5_0]); have p242 : 0 ≤ (x5_2 : Int) := (of_decide_eq_true (by assumption)); have q242 : x5_2 < (l0.length : Int) := (of_decide_eq_true (by assumption)); obtain ⟨ad242, e242, hx242_0, hx242_1⟩ := at_T154 HR0.out x5_2 p242 q242; cases e242; replace hx242_0 := Aside0.mk hx242_0; replace hx242_1 := Aside0.mk hx242_1; have r242 := eq_true p242; have s242 := eq_true q242; replace p242 := Aside0.mk p242; replace q242 := Aside0.mk q242; replace H := Aside0.mk H; refine pu 2 (some 19) 7 ?_; refine pu 4 (some 21) 23 ?_; refine pu 5 (some 22) 55 ?_; refine ld 3 (some 20) 63 hHeld ?_ (hr := by (intro w' h_; have y0_ := xD HBr h_ hx242_0; have y1_ := xD HBr h_ hx242_1; go_simp; with_reducible rfl)); replace H := ifN H.out; obtain ⟨c6, H⟩ := H; have c6_0 := decT c6; replace c6 := Aside0.mk c6; (try rw [c6_0]); have p243 : 0 ≤ (x5_2 : Int) := (of_decide_eq_true (by assumption)); have q243 : x5_2 < (l1.length : Int) := (of_decide_eq_true (by assumption)); obtain ⟨ad243, e243, hx243_0, hx243_1⟩ := at_T154 HR1.out x5_2 p243 q243; cases e243; replace hx243_0 := Aside0.mk hx243_0; replace hx243_1 := Aside0.mk hx243_1; have r243 := eq_true p243; have s243 := eq_true q243; replace p243 := Aside0.mk p243; replace q243 := Aside0.mk q243; replace H := obs H; obtain ⟨t244, hm, H⟩ := H; (try dsimp only at H); replace hm := Aside0.mk hm; replace H := Aside0.mk H; refine pu 6 (some 23) 127 ?_; refine ld 7 (some 24) 255 hHeld ?_ (hr := by (intro w' h_; have y0_ := xD HBr h_ hx243_0; have y1_ := xD HBr h_ hx243_1; go_simp; with_reducible rfl)); refine on 8 (some 25) 511 (fun K hK => ?_); have hcall := laws_eqIncludes.calls _ _ _ _ _ W4  hm.out; refine goes_ Tryz.func99 (by kernel_rfl) rfl #[.agg #[.int .i64 ((rd_T154 l0 x5_2).f0), .int .i64 ((rd_T154 l0 x5_2).f1)], .agg #[.int .i64 ((rd_T154 l1 x5_2).f0), .int .i64 ((rd_T154 l1 x5_2).f1)]] (by rfl) rfl rfl zM ?_; refine hcall.mono ?_; rintro e W8 ⟨rfl, hb⟩; refine ⟨_, rfl, ?_⟩; clear hcall hm; replace hHeld := below_step hHeld hb; replace HB := bH HB hb; clear hb; refine hK.out _ _ hHeld (fun hHeld => ?_); clear hK K; refine nr 25 ?_; refine pu 9 (some 26) 1023 ?_; refine dn (by kernel_rfl) ?_; clear hHeld HBr; replace H := ifD H.out; rcases H with ⟨c9, H⟩ | ⟨c9, H⟩; rotate_left
   ·replace c9 := nT c9; subst c9; cases H; go_wp2; go_ret; exact ⟨rfl, HB.out⟩
   subst c9; replace H := Aside0.mk H; go_wp2; go_roundg k2
   case measure => have := Hk2.out; omega
   case rel => exact ⟨(wrap64 (x5_2 + 1)), zT, H, ⟨by have := Hk2.out; omega⟩, HB⟩
def laws_eqFact.f (a0_0 : Int) (a0_1 : Int) (a0_2 : Int) (a0_3 : Int) (a0_4 : Int) (a0_5 : Int) (a1_0 : Int) (a1_1 : Int) (a1_2 : Int) (a1_3 : Int) (a1_4 : Int) (a1_5 : Int) : Option (Bool) := if a0_0 = a1_0 then (if a0_1 = a1_1 then (if a0_2 = a1_2 then (if a0_3 = a1_3 then (if a0_4 = a1_4 then (if a0_5 = a1_5 then (some true) else (some false)) else (some false)) else (some false)) else (some false)) else (some false)) else (some false)
theorem laws_eqFact.calls (a0_0 : Int) (a0_1 : Int) (a0_2 : Int) (a0_3 : Int) (a0_4 : Int) (a0_5 : Int) (a1_0 : Int) (a1_1 : Int) (a1_2 : Int) (a1_3 : Int) (a1_4 : Int) (a1_5 : Int) (r : Bool) (w : World) (h : laws_eqFact.f a0_0 a0_1 a0_2 a0_3 a0_4 a0_5 a1_0 a1_1 a1_2 a1_3 a1_4 a1_5 = some r) :
  Calls Tryz.prog 100 #[.agg #[.int .i64 a0_0, .int .i64 a0_1, .int .i64 a0_2, .int .i64 a0_3, .int .i64 a0_4, .int .i64 a0_5], .agg #[.int .i64 a1_0, .int .i64 a1_1, .int .i64 a1_2, .int .i64 a1_3, .int .i64 a1_4, .int .i64 a1_5]] w fun e w' => e = .returned (.bool r) ∧ Below w.heap.size w w' := by
 have HB := Aside0.mk (Below.refl w.heap.size w)
 have H := h
 clear h
 unfold laws_eqFact.f at H
 have hu136 := Tryz.underlying136
 go_enter Tryz.func100, Tryz.ntmps100
 replace H := Aside0.mk H
 go_upto_region 1 with (first | ((with_reducible refine gate_dst (N := 2) rfl ?_); refine box_event ?hg (N := 2) ?hd (cs := #[.int .i64 a0_0, .int .i64 a0_1, .int .i64 a0_2, .int .i64 a0_3, .int .i64 a0_4, .int .i64 a0_5]) (t := 136) ?hr ?_; (case hd => rfl); (case hg => rfl); (case hr => first | (go_simp; done) | (go_simp; rfl)); intro gb1 hg W1 hbox hb; replace HB := bH HB hb; clear hb; have BK1 := Aside0.mk hbox; have c_BK1 := blk_cell hbox; have z_BK1 := blk_frozen hbox; clear hg hbox) | ((with_reducible refine gate_dst (N := 3) rfl ?_); refine box_event ?hg (N := 3) ?hd (cs := #[.int .i64 a1_0, .int .i64 a1_1, .int .i64 a1_2, .int .i64 a1_3, .int .i64 a1_4, .int .i64 a1_5]) (t := 136) ?hr ?_; (case hd => rfl); (case hg => rfl); (case hr => first | (go_simp; done) | (go_simp; rfl)); intro gb2 hg W2 hbox hb; replace BK1 := bK BK1 hb; replace c_BK1 := bcl BK1; replace z_BK1 := bfr BK1; replace HB := bH HB hb; clear hb; have BK2 := Aside0.mk hbox; have c_BK2 := blk_cell hbox; have z_BK2 := blk_frozen hbox; clear hg hbox))
 replace H := ifD H.out; rcases H with ⟨c3, H⟩ | ⟨c3, H⟩
 rotate_left
 ·obtain ⟨c3_0, c3_1, c3_2⟩ := d3F c3
  clear c3
  (first | rw [c3_1] | rw [c3_2] | skip)
  cases H
  go_wp2
  go_ret
  exact ⟨rfl, HB.out⟩
 obtain ⟨c3_0, c3_1, c3_2⟩ := d3T c3
 clear c3
 (first | rw [c3_1] | rw [c3_2] | skip)
 replace H := ifD H; rcases H with ⟨c4, H⟩ | ⟨c4, H⟩
 rotate_left
 ·obtain ⟨c4_0, c4_1, c4_2⟩ := d3F c4
  clear c4
  (first | rw [c4_1] | rw [c4_2] | skip)
  cases H
  go_wp2
  go_ret
  exact ⟨rfl, HB.out⟩
 obtain ⟨c4_0, c4_1, c4_2⟩ := d3T c4
 clear c4
 (first | rw [c4_1] | rw [c4_2] | skip)
 replace H := ifD H; rcases H with ⟨c5, H⟩ | ⟨c5, H⟩
 rotate_left
 ·obtain ⟨c5_0, c5_1, c5_2⟩ := d3F c5
  clear c5
  (first | rw [c5_1] | rw [c5_2] | skip)
  cases H
  go_wp2
  go_ret
  exact ⟨rfl, HB.out⟩
 obtain ⟨c5_0, c5_1, c5_2⟩ := d3T c5
 clear c5
 (first | rw [c5_1] | rw [c5_2] | skip)
 replace H := ifD H; rcases H with ⟨c6, H⟩ | ⟨c6, H⟩
 rotate_left
 ·obtain ⟨c6_0, c6_1, c6_2⟩ := d3F c6
  clear c6
  (first | rw [c6_1] | rw [c6_2] | skip)
  cases H
  go_wp2
  go_ret
  exact ⟨rfl, HB.out⟩
 obtain ⟨c6_0, c6_1, c6_2⟩ := d3T c6
 clear c6
 (first | rw [c6_1] | rw [c6_2] | skip)
 replace H := ifD H; rcases H with ⟨c7, H⟩ | ⟨c7, H⟩
 rotate_left
 ·obtain ⟨c7_0, c7_1, c7_2⟩ := d3F c7
  clear c7
  (first | rw [c7_1] | rw [c7_2] | skip)
  cases H
  go_wp2
  go_ret
  exact ⟨rfl, HB.out⟩
 obtain ⟨c7_0, c7_1, c7_2⟩ := d3T c7
 clear c7
 (first | rw [c7_1] | rw [c7_2] | skip)
 replace H := ifD H; rcases H with ⟨c8, H⟩ | ⟨c8, H⟩
 ·obtain ⟨c8_0, c8_1, c8_2⟩ := d3T c8
  clear c8
  (first | rw [c8_1] | rw [c8_2] | skip)
  cases H
  go_wp2
  go_ret
  exact ⟨rfl, HB.out⟩
 obtain ⟨c8_0, c8_1, c8_2⟩ := d3F c8
 clear c8
 (first | rw [c8_1] | rw [c8_2] | skip)
 cases H
 go_wp2
 go_ret
 exact ⟨rfl, HB.out⟩
def laws_eqFactS.l0 : Nat → List (S136) → List (S136) → Int → Option (Bool)
 | 0, _, _, _ => none
 | k + 1, x0, x1, x5 => if x5 < (x0.length : Int) then (if 0 ≤ x5 then (if x5 < (x1.length : Int) then ((laws_eqFact.f ((rd_T136 x0 x5).f0) ((rd_T136 x0 x5).f1) ((rd_T136 x0 x5).f2) ((rd_T136 x0 x5).f3) ((rd_T136 x0 x5).f4) ((rd_T136 x0 x5).f5) ((rd_T136 x1 x5).f0) ((rd_T136 x1 x5).f1) ((rd_T136 x1 x5).f2) ((rd_T136 x1 x5).f3) ((rd_T136 x1 x5).f4) ((rd_T136 x1 x5).f5)).bind fun t249 => (if t249 = true then (laws_eqFactS.l0 k x0 x1 (wrap64 (x5 + 1))) else (some false))) else (none)) else (none)) else (some true)
def laws_eqFactS.f (k : Nat) (l0 : List (S136)) (l1 : List (S136)) : Option (Bool) := if (l0.length : Int) = (l1.length : Int) then (laws_eqFactS.l0 k l0 l1 0) else (some false)
theorem laws_eqFactS.calls (k : Nat) (A0 : Option Addr) (c0 : Nat) (l0 : List (S136)) (A1 : Option Addr) (c1 : Nat) (l1 : List (S136)) (r : Bool) (w : World) (hr0 : Kd.C k136 w A0 l0.length l0) (hc0 : l0.length ≤ c0) (hr1 : Kd.C k136 w A1 l1.length l1) (hc1 : l1.length ≤ c1) (h : laws_eqFactS.f k l0 l1 = some r) :
  Calls Tryz.prog 24 #[.slice A0 l0.length c0, .slice A1 l1.length c1] w fun e w' => e = .returned (.bool r) ∧ Below w.heap.size w w' := by
 have HR0 := Aside0.mk hr0
 have HC0 := Aside0.mk hc0
 clear hr0 hc0
 have HR1 := Aside0.mk hr1
 have HC1 := Aside0.mk hc1
 clear hr1 hc1
 have HB := Aside0.mk (Below.refl w.heap.size w)
 have H := h
 clear h
 unfold laws_eqFactS.f at H
 have hu136 := Tryz.underlying136
 go_enter Tryz.func24, Tryz.ntmps24
 replace H := ifD H; rcases H with ⟨c1, H⟩ | ⟨c1, H⟩
 rotate_left
 ·have c1_x0 : (l0.length == l1.length) = false := by first | simpa using c1 | (simp at c1 ⊢; omega)
  obtain ⟨c1_0, c1_1, c1_2⟩ := d3F c1
  clear c1
  (first | rw [c1_1] | rw [c1_2] | skip)
  cases H
  go_wp2
  go_ret
  exact ⟨rfl, HB.out⟩
 have c1_x0 : (l0.length == l1.length) = true := by first | simpa using c1 | (simp at c1 ⊢; omega)
 obtain ⟨c1_0, c1_1, c1_2⟩ := d3T c1
 clear c1
 (first | rw [c1_1] | rw [c1_2] | skip)
 replace H := Aside0.mk H
 go_wp2
 go_loopg [5] k (fun kq v5 w' => ∃ (x5_2 : Int), v5 = .int .i64 x5_2 ∧ Aside0 (laws_eqFactS.l0 kq l0 l1 x5_2 = some r) ∧ Aside0 (kq ≤ k) ∧ Aside0 (Below w.heap.size w w'))
 case atStart => exact ⟨(0), zT, H, ⟨Nat.le_refl _⟩, HB⟩
 case round =>
  clear H HB 
  (try clear c1_x0 c1_0 c1_1 c1_2)
  obtain ⟨x5_2, rfl, HA, Hk2, HB⟩ := hrel
  cases gk with
  | zero => exact absurd HA.out (by simp [laws_eqFactS.l0])
  | succ k2 =>
   have H := HA.out; clear HA; simp only [laws_eqFactS.l0] at H; replace H := ifD H; rcases H with ⟨c3, H⟩ | ⟨c3, H⟩; rotate_left
   ·have c3_0 := decF c3; replace c3 := Aside0.mk c3; (try rw [c3_0]); cases H; go_wp2; go_ret; exact ⟨rfl, HB.out⟩
   have c3_0 := decT c3; replace c3 := Aside0.mk c3; (try rw [c3_0]); replace H := Aside0.mk H; try go_wp2
   have HBr := HB; replace HB := dH HB; refine stA (n := 10) (S := fun w' => Below wr.heap.size wr w') (by kernel_rfl) rfl (below_drew1 (Below.refl _ wr)) (by kernel_rfl) (fun hHeld => ?_); generalize wr.drew = W4 at HB hHeld ⊢; refine pu 0 (some 17) 1 ?_; refine pu 1 (some 18) 3 ?_; replace H := ifN H.out; obtain ⟨c5, H⟩ := H; have c5_0 := decT c5; replace c5 := Aside0.mk c5; (try rw [c5_0]); have p247 : 0 ≤ (x5_2 : Int) := (of_decide_eq_true (by assumption)); have q247 : x5_2 < (l0.length : Int) := (of_decide_eq_true (by assumption)); obtain ⟨ad247, e247, hx247_0, hx247_1, hx247_2, hx247_3, hx247_4, hx247_5⟩ := at_T136 HR0.out x5_2 p247 q247; cases e247; replace hx247_0 := Aside0.mk hx247_0; replace hx247_1 := Aside0.mk hx247_1; replace hx247_2 := Aside0.mk hx247_2; replace hx247_3 := Aside0.mk hx247_3; replace hx247_4 := Aside0.mk hx247_4; replace hx247_5 := Aside0.mk hx247_5; have r247 := eq_true p247; have s247 := eq_true q247; replace p247 := Aside0.mk p247; replace q247 := Aside0.mk q247; replace H := Aside0.mk H; refine pu 2 (some 19) 7 ?_; refine pu 4 (some 21) 23 ?_; refine pu 5 (some 22) 55 ?_; refine ld 3 (some 20) 63 hHeld ?_ (hr := by (intro w' h_; have y0_ := xD HBr h_ hx247_0; have y1_ := xD HBr h_ hx247_1; have y2_ := xD HBr h_ hx247_2; have y3_ := xD HBr h_ hx247_3; have y4_ := xD HBr h_ hx247_4; have y5_ := xD HBr h_ hx247_5; go_simp; with_reducible rfl)); replace H := ifN H.out; obtain ⟨c6, H⟩ := H; have c6_0 := decT c6; replace c6 := Aside0.mk c6; (try rw [c6_0]); have p248 : 0 ≤ (x5_2 : Int) := (of_decide_eq_true (by assumption)); have q248 : x5_2 < (l1.length : Int) := (of_decide_eq_true (by assumption)); obtain ⟨ad248, e248, hx248_0, hx248_1, hx248_2, hx248_3, hx248_4, hx248_5⟩ := at_T136 HR1.out x5_2 p248 q248; cases e248; replace hx248_0 := Aside0.mk hx248_0; replace hx248_1 := Aside0.mk hx248_1; replace hx248_2 := Aside0.mk hx248_2; replace hx248_3 := Aside0.mk hx248_3; replace hx248_4 := Aside0.mk hx248_4; replace hx248_5 := Aside0.mk hx248_5; have r248 := eq_true p248; have s248 := eq_true q248; replace p248 := Aside0.mk p248; replace q248 := Aside0.mk q248; replace H := obs H; obtain ⟨t249, hm, H⟩ := H; (try dsimp only at H); replace hm := Aside0.mk hm; replace H := Aside0.mk H; refine pu 6 (some 23) 127 ?_; refine ld 7 (some 24) 255 hHeld ?_ (hr := by (intro w' h_; have y0_ := xD HBr h_ hx248_0; have y1_ := xD HBr h_ hx248_1; have y2_ := xD HBr h_ hx248_2; have y3_ := xD HBr h_ hx248_3; have y4_ := xD HBr h_ hx248_4; have y5_ := xD HBr h_ hx248_5; go_simp; with_reducible rfl)); refine on 8 (some 25) 511 (fun K hK => ?_); have hcall := laws_eqFact.calls _ _ _ _ _ _ _ _ _ _ _ _ _ W4  hm.out; refine goes_ Tryz.func100 (by kernel_rfl) rfl #[.agg #[.int .i64 ((rd_T136 l0 x5_2).f0), .int .i64 ((rd_T136 l0 x5_2).f1), .int .i64 ((rd_T136 l0 x5_2).f2), .int .i64 ((rd_T136 l0 x5_2).f3), .int .i64 ((rd_T136 l0 x5_2).f4), .int .i64 ((rd_T136 l0 x5_2).f5)], .agg #[.int .i64 ((rd_T136 l1 x5_2).f0), .int .i64 ((rd_T136 l1 x5_2).f1), .int .i64 ((rd_T136 l1 x5_2).f2), .int .i64 ((rd_T136 l1 x5_2).f3), .int .i64 ((rd_T136 l1 x5_2).f4), .int .i64 ((rd_T136 l1 x5_2).f5)]] (by rfl) rfl rfl zM ?_; refine hcall.mono ?_; rintro e W8 ⟨rfl, hb⟩; refine ⟨_, rfl, ?_⟩; clear hcall hm; replace hHeld := below_step hHeld hb; replace HB := bH HB hb; clear hb; refine hK.out _ _ hHeld (fun hHeld => ?_); clear hK K; refine nr 25 ?_; refine pu 9 (some 26) 1023 ?_; refine dn (by kernel_rfl) ?_; clear hHeld HBr; replace H := ifD H.out; rcases H with ⟨c9, H⟩ | ⟨c9, H⟩; rotate_left
   ·replace c9 := nT c9; subst c9; cases H; go_wp2; go_ret; exact ⟨rfl, HB.out⟩
   subst c9; replace H := Aside0.mk H; go_wp2; go_roundg k2
   case measure => have := Hk2.out; omega
   case rel => exact ⟨(wrap64 (x5_2 + 1)), zT, H, ⟨by have := Hk2.out; omega⟩, HB⟩
mutual
def laws_eqCondS.l0 : Nat → List (S172) → List (S172) → Int → Option (Bool)
 | 0, _, _, _ => none
 | k + 1, x0, x1, x5 => if x5 < (x0.length : Int) then (if 0 ≤ x5 then (if x5 < (x1.length : Int) then ((laws_eqCond.f k ((rd_T172 x0 x5).f0) ((rd_T172 x0 x5).f1) ((rd_T172 x0 x5).f2) ((rd_T172 x0 x5).f3) ((rd_T172 x1 x5).f0) ((rd_T172 x1 x5).f1) ((rd_T172 x1 x5).f2) ((rd_T172 x1 x5).f3)).bind fun t252 => (if t252 = true then (laws_eqCondS.l0 k x0 x1 (wrap64 (x5 + 1))) else (some false))) else (none)) else (none)) else (some true)
def laws_eqCondS.f : Nat → List (S172) → List (S172) → Option (Bool)
 | 0, _, _ => none
 | k + 1, l0, l1 => if (l0.length : Int) = (l1.length : Int) then (laws_eqCondS.l0 k l0 l1 0) else (some false)
def laws_eqCond.f : Nat → Int → Int → Int → List (S172) → Int → Int → Int → List (S172) → Option (Bool)
 | 0, _, _, _, _, _, _, _, _ => none
 | k + 1, a0_0, a0_1, a0_2, l0_3, a1_0, a1_1, a1_2, l1_3 => if a0_0 = a1_0 then (if a0_1 = a1_1 then (if a0_2 = a1_2 then ((laws_eqCondS.f k l0_3 l1_3).bind fun t255 => (if t255 = true then (some true) else (some false))) else (some false)) else (some false)) else (some false)
end
abbrev laws_eqCondS.Stmt (k : Nat) : Prop := ∀ (A0 : Option Addr) (c0 : Nat) (l0 : List (S172)) (A1 : Option Addr) (c1 : Nat) (l1 : List (S172)) (r : Bool) (w : World) (hr0 : Kd.C k172 w A0 l0.length l0) (hc0 : l0.length ≤ c0) (hr1 : Kd.C k172 w A1 l1.length l1) (hc1 : l1.length ≤ c1) (h : laws_eqCondS.f k l0 l1 = some r),
  Calls Tryz.prog 334 #[.slice A0 l0.length c0, .slice A1 l1.length c1] w fun e w' => e = .returned (.bool r) ∧ Below w.heap.size w w'
abbrev laws_eqCond.Stmt (k : Nat) : Prop := ∀ (a0_0 : Int) (a0_1 : Int) (a0_2 : Int) (A0_3 : Option Addr) (c0_3 : Nat) (l0_3 : List (S172)) (a1_0 : Int) (a1_1 : Int) (a1_2 : Int) (A1_3 : Option Addr) (c1_3 : Nat) (l1_3 : List (S172)) (r : Bool) (w : World) (hr0_3 : Kd.C k172 w A0_3 l0_3.length l0_3) (hc0_3 : l0_3.length ≤ c0_3) (hr1_3 : Kd.C k172 w A1_3 l1_3.length l1_3) (hc1_3 : l1_3.length ≤ c1_3) (h : laws_eqCond.f k a0_0 a0_1 a0_2 l0_3 a1_0 a1_1 a1_2 l1_3 = some r),
  Calls Tryz.prog 252 #[.agg #[.int .i64 a0_0, .int .i64 a0_1, .int .i64 a0_2, .slice A0_3 l0_3.length c0_3], .agg #[.int .i64 a1_0, .int .i64 a1_1, .int .i64 a1_2, .slice A1_3 l1_3.length c1_3]] w fun e w' => e = .returned (.bool r) ∧ Below w.heap.size w w'
theorem laws_eqCondS.step (k : Nat) (ih_laws_eqCondS : ∀ m_, m_ < k → laws_eqCondS.Stmt m_) (ih_laws_eqCond : ∀ m_, m_ < k → laws_eqCond.Stmt m_) : laws_eqCondS.Stmt k := by
 unfold laws_eqCondS.Stmt
 intro A0 c0 l0 A1 c1 l1 r w hr0 hc0 hr1 hc1 h
 cases k with
 | zero => exact absurd h (by simp [laws_eqCondS.f])
 | succ k =>
 simp only [laws_eqCondS.f] at h
 have HR0 := Aside0.mk hr0
 have HC0 := Aside0.mk hc0
 clear hr0 hc0
 have HR1 := Aside0.mk hr1
 have HC1 := Aside0.mk hc1
 clear hr1 hc1
 have HB := Aside0.mk (Below.refl w.heap.size w)
 have H := h
 clear h
 have hu172 := Tryz.underlying172
 go_enter Tryz.func334, Tryz.ntmps334
 replace H := ifD H; rcases H with ⟨c1, H⟩ | ⟨c1, H⟩
 rotate_left
 ·have c1_x0 : (l0.length == l1.length) = false := by first | simpa using c1 | (simp at c1 ⊢; omega)
  obtain ⟨c1_0, c1_1, c1_2⟩ := d3F c1
  clear c1
  (first | rw [c1_1] | rw [c1_2] | skip)
  cases H
  go_wp2
  go_ret
  exact ⟨rfl, HB.out⟩
 have c1_x0 : (l0.length == l1.length) = true := by first | simpa using c1 | (simp at c1 ⊢; omega)
 obtain ⟨c1_0, c1_1, c1_2⟩ := d3T c1
 clear c1
 (first | rw [c1_1] | rw [c1_2] | skip)
 replace H := Aside0.mk H
 go_wp2
 go_loopg [5] k (fun kq v5 w' => ∃ (x5_2 : Int), v5 = .int .i64 x5_2 ∧ Aside0 (laws_eqCondS.l0 kq l0 l1 x5_2 = some r) ∧ Aside0 (kq ≤ k) ∧ Aside0 (Below w.heap.size w w'))
 case atStart => exact ⟨(0), zT, H, ⟨Nat.le_refl _⟩, HB⟩
 case round =>
  clear H HB 
  (try clear c1_x0 c1_0 c1_1 c1_2)
  obtain ⟨x5_2, rfl, HA, Hk2, HB⟩ := hrel
  cases gk with
  | zero => exact absurd HA.out (by simp [laws_eqCondS.l0])
  | succ k2 =>
   have H := HA.out; clear HA; simp only [laws_eqCondS.l0] at H; replace H := ifD H; rcases H with ⟨c3, H⟩ | ⟨c3, H⟩; rotate_left
   ·have c3_0 := decF c3; replace c3 := Aside0.mk c3; (try rw [c3_0]); cases H; go_wp2; go_ret; exact ⟨rfl, HB.out⟩
   have c3_0 := decT c3; replace c3 := Aside0.mk c3; (try rw [c3_0]); replace H := Aside0.mk H; try go_wp2
   have HBr := HB; replace HB := dH HB; refine stA (n := 10) (S := fun w' => Below wr.heap.size wr w') (by kernel_rfl) rfl (below_drew1 (Below.refl _ wr)) (by kernel_rfl) (fun hHeld => ?_); generalize wr.drew = W4 at HB hHeld ⊢; refine pu 0 (some 17) 1 ?_; refine pu 1 (some 18) 3 ?_; replace H := ifN H.out; obtain ⟨c5, H⟩ := H; have c5_0 := decT c5; replace c5 := Aside0.mk c5; (try rw [c5_0]); have p250 : 0 ≤ (x5_2 : Int) := (of_decide_eq_true (by assumption)); have q250 : x5_2 < (l0.length : Int) := (of_decide_eq_true (by assumption)); obtain ⟨ad250, A250_3, c250_3, e250, hx250_0, hx250_1, hx250_2, hx250_3, hl250_3, hi250_3⟩ := at_T172 HR0.out x5_2 p250 q250; cases e250; have HR250_3 := Aside0.mk hi250_3; have HC250_3 := Aside0.mk hl250_3; clear hi250_3 hl250_3; replace hx250_0 := Aside0.mk hx250_0; replace hx250_1 := Aside0.mk hx250_1; replace hx250_2 := Aside0.mk hx250_2; replace hx250_3 := Aside0.mk hx250_3; have r250 := eq_true p250; have s250 := eq_true q250; replace p250 := Aside0.mk p250; replace q250 := Aside0.mk q250; replace H := Aside0.mk H; refine pu 2 (some 19) 7 ?_; refine pu 4 (some 21) 23 ?_; refine pu 5 (some 22) 55 ?_; refine ld 3 (some 20) 63 hHeld ?_ (hr := by (intro w' h_; have y0_ := xD HBr h_ hx250_0; have y1_ := xD HBr h_ hx250_1; have y2_ := xD HBr h_ hx250_2; have y3_ := xD HBr h_ hx250_3; go_simp; with_reducible rfl)); replace H := ifN H.out; obtain ⟨c6, H⟩ := H; have c6_0 := decT c6; replace c6 := Aside0.mk c6; (try rw [c6_0]); have p251 : 0 ≤ (x5_2 : Int) := (of_decide_eq_true (by assumption)); have q251 : x5_2 < (l1.length : Int) := (of_decide_eq_true (by assumption)); obtain ⟨ad251, A251_3, c251_3, e251, hx251_0, hx251_1, hx251_2, hx251_3, hl251_3, hi251_3⟩ := at_T172 HR1.out x5_2 p251 q251; cases e251; have HR251_3 := Aside0.mk hi251_3; have HC251_3 := Aside0.mk hl251_3; clear hi251_3 hl251_3; replace hx251_0 := Aside0.mk hx251_0; replace hx251_1 := Aside0.mk hx251_1; replace hx251_2 := Aside0.mk hx251_2; replace hx251_3 := Aside0.mk hx251_3; have r251 := eq_true p251; have s251 := eq_true q251; replace p251 := Aside0.mk p251; replace q251 := Aside0.mk q251; replace H := obs H; obtain ⟨t252, hm, H⟩ := H; (try dsimp only at H); replace hm := Aside0.mk hm; replace H := Aside0.mk H; refine pu 6 (some 23) 127 ?_; refine ld 7 (some 24) 255 hHeld ?_ (hr := by (intro w' h_; have y0_ := xD HBr h_ hx251_0; have y1_ := xD HBr h_ hx251_1; have y2_ := xD HBr h_ hx251_2; have y3_ := xD HBr h_ hx251_3; go_simp; with_reducible rfl)); refine on 8 (some 25) 511 (fun K hK => ?_); have hcall := ih_laws_eqCond k2 (by have := Hk2.out; omega) _ _ _ _ _ _ _ _ _ _ _ _ _ W4 (Kd.C_below HR250_3.out HB.out) HC250_3.out (Kd.C_below HR251_3.out HB.out) HC251_3.out hm.out; refine goes_ Tryz.func252 (by kernel_rfl) rfl #[.agg #[.int .i64 ((rd_T172 l0 x5_2).f0), .int .i64 ((rd_T172 l0 x5_2).f1), .int .i64 ((rd_T172 l0 x5_2).f2), .slice A250_3 ((rd_T172 l0 x5_2).f3).length c250_3], .agg #[.int .i64 ((rd_T172 l1 x5_2).f0), .int .i64 ((rd_T172 l1 x5_2).f1), .int .i64 ((rd_T172 l1 x5_2).f2), .slice A251_3 ((rd_T172 l1 x5_2).f3).length c251_3]] (by rfl) rfl rfl zM ?_; refine hcall.mono ?_; rintro e W8 ⟨rfl, hb⟩; refine ⟨_, rfl, ?_⟩; clear hcall hm; replace hHeld := below_step hHeld hb; replace HB := bH HB hb; clear hb; refine hK.out _ _ hHeld (fun hHeld => ?_); clear hK K; refine nr 25 ?_; refine pu 9 (some 26) 1023 ?_; refine dn (by kernel_rfl) ?_; clear hHeld HBr; replace H := ifD H.out; rcases H with ⟨c9, H⟩ | ⟨c9, H⟩; rotate_left
   ·replace c9 := nT c9; subst c9; cases H; go_wp2; go_ret; exact ⟨rfl, HB.out⟩
   subst c9; replace H := Aside0.mk H; go_wp2; go_roundg k2
   case measure => have := Hk2.out; omega
   case rel => exact ⟨(wrap64 (x5_2 + 1)), zT, H, ⟨by have := Hk2.out; omega⟩, HB⟩
theorem laws_eqCond.step (k : Nat) (ih_laws_eqCondS : ∀ m_, m_ < k → laws_eqCondS.Stmt m_) (ih_laws_eqCond : ∀ m_, m_ < k → laws_eqCond.Stmt m_) : laws_eqCond.Stmt k := by
 unfold laws_eqCond.Stmt
 intro a0_0 a0_1 a0_2 A0_3 c0_3 l0_3 a1_0 a1_1 a1_2 A1_3 c1_3 l1_3 r w hr0_3 hc0_3 hr1_3 hc1_3 h
 cases k with
 | zero => exact absurd h (by simp [laws_eqCond.f])
 | succ k =>
 simp only [laws_eqCond.f] at h
 have HR0_3 := Aside0.mk hr0_3
 have HC0_3 := Aside0.mk hc0_3
 clear hr0_3 hc0_3
 have HR1_3 := Aside0.mk hr1_3
 have HC1_3 := Aside0.mk hc1_3
 clear hr1_3 hc1_3
 have HB := Aside0.mk (Below.refl w.heap.size w)
 have H := h
 clear h
 have hu172 := Tryz.underlying172
 go_enter Tryz.func252, Tryz.ntmps252
 replace H := Aside0.mk H
 go_upto_region 1 with (first | ((with_reducible refine gate_dst (N := 2) rfl ?_); refine box_event ?hg (N := 2) ?hd (cs := #[.int .i64 a0_0, .int .i64 a0_1, .int .i64 a0_2, .slice A0_3 l0_3.length c0_3]) (t := 172) ?hr ?_; (case hd => rfl); (case hg => rfl); (case hr => first | (go_simp; done) | (go_simp; rfl)); intro gb1 hg W1 hbox hb; replace HB := bH HB hb; clear hb; have BK1 := Aside0.mk hbox; have c_BK1 := blk_cell hbox; have z_BK1 := blk_frozen hbox; clear hg hbox) | ((with_reducible refine gate_dst (N := 3) rfl ?_); refine box_event ?hg (N := 3) ?hd (cs := #[.int .i64 a1_0, .int .i64 a1_1, .int .i64 a1_2, .slice A1_3 l1_3.length c1_3]) (t := 172) ?hr ?_; (case hd => rfl); (case hg => rfl); (case hr => first | (go_simp; done) | (go_simp; rfl)); intro gb2 hg W2 hbox hb; replace BK1 := bK BK1 hb; replace c_BK1 := bcl BK1; replace z_BK1 := bfr BK1; replace HB := bH HB hb; clear hb; have BK2 := Aside0.mk hbox; have c_BK2 := blk_cell hbox; have z_BK2 := blk_frozen hbox; clear hg hbox))
 replace H := ifD H.out; rcases H with ⟨c3, H⟩ | ⟨c3, H⟩
 rotate_left
 ·obtain ⟨c3_0, c3_1, c3_2⟩ := d3F c3
  clear c3
  (first | rw [c3_1] | rw [c3_2] | skip)
  cases H
  go_wp2
  go_ret
  exact ⟨rfl, HB.out⟩
 obtain ⟨c3_0, c3_1, c3_2⟩ := d3T c3
 clear c3
 (first | rw [c3_1] | rw [c3_2] | skip)
 replace H := ifD H; rcases H with ⟨c4, H⟩ | ⟨c4, H⟩
 rotate_left
 ·obtain ⟨c4_0, c4_1, c4_2⟩ := d3F c4
  clear c4
  (first | rw [c4_1] | rw [c4_2] | skip)
  cases H
  go_wp2
  go_ret
  exact ⟨rfl, HB.out⟩
 obtain ⟨c4_0, c4_1, c4_2⟩ := d3T c4
 clear c4
 (first | rw [c4_1] | rw [c4_2] | skip)
 replace H := ifD H; rcases H with ⟨c5, H⟩ | ⟨c5, H⟩
 rotate_left
 ·obtain ⟨c5_0, c5_1, c5_2⟩ := d3F c5
  clear c5
  (first | rw [c5_1] | rw [c5_2] | skip)
  cases H
  go_wp2
  go_ret
  exact ⟨rfl, HB.out⟩
 obtain ⟨c5_0, c5_1, c5_2⟩ := d3T c5
 clear c5
 (first | rw [c5_1] | rw [c5_2] | skip)
 replace H := obs H
 obtain ⟨t255, hm, H⟩ := H
 (try dsimp only at H)
 replace H := Aside0.mk H
 have hcall := ih_laws_eqCondS k (by omega) _ _ _ _ _ _ _ W2 (Kd.C_below HR0_3.out HB.out) HC0_3.out (Kd.C_below HR1_3.out HB.out) HC1_3.out hm
 clear hm
 (go_wp2_with fail)
 refine hcall.mono ?_
 rintro e W6 ⟨rfl, hb⟩
 clear hcall
 replace BK1 := bK BK1 hb; replace c_BK1 := bcl BK1; replace z_BK1 := bfr BK1
 replace BK2 := bK BK2 hb; replace c_BK2 := bcl BK2; replace z_BK2 := bfr BK2
 replace HB := bH HB hb; clear hb
 replace H := ifD H.out; rcases H with ⟨c7, H⟩ | ⟨c7, H⟩
 ·subst c7
  cases H
  go_wp2
  go_ret
  exact ⟨rfl, HB.out⟩
 replace c7 := nT c7
 subst c7
 cases H
 go_wp2
 go_ret
 exact ⟨rfl, HB.out⟩
theorem laws_eqCondS.both (k : Nat) : laws_eqCondS.Stmt k ∧ laws_eqCond.Stmt k := by
 induction k using Nat.strongRecOn with
 | _ k ih =>
 exact ⟨laws_eqCondS.step k (fun m hm => (ih m hm).1) (fun m hm => (ih m hm).2), laws_eqCond.step k (fun m hm => (ih m hm).1) (fun m hm => (ih m hm).2)⟩
theorem laws_eqCond.calls (k : Nat) : ∀ (a0_0 : Int) (a0_1 : Int) (a0_2 : Int) (A0_3 : Option Addr) (c0_3 : Nat) (l0_3 : List (S172)) (a1_0 : Int) (a1_1 : Int) (a1_2 : Int) (A1_3 : Option Addr) (c1_3 : Nat) (l1_3 : List (S172)) (r : Bool) (w : World) (hr0_3 : Kd.C k172 w A0_3 l0_3.length l0_3) (hc0_3 : l0_3.length ≤ c0_3) (hr1_3 : Kd.C k172 w A1_3 l1_3.length l1_3) (hc1_3 : l1_3.length ≤ c1_3) (h : laws_eqCond.f k a0_0 a0_1 a0_2 l0_3 a1_0 a1_1 a1_2 l1_3 = some r),
  Calls Tryz.prog 252 #[.agg #[.int .i64 a0_0, .int .i64 a0_1, .int .i64 a0_2, .slice A0_3 l0_3.length c0_3], .agg #[.int .i64 a1_0, .int .i64 a1_1, .int .i64 a1_2, .slice A1_3 l1_3.length c1_3]] w fun e w' => e = .returned (.bool r) ∧ Below w.heap.size w w' := (laws_eqCondS.both k).2
def laws_eqRule.f (k : Nat) (a0_0 : Int) (a0_1 : Int) (a0_2 : Int) (a0_3 : Int) (a0_4 : Int) (a0_5 : Int) (l0_6 : List (S172)) (a1_0 : Int) (a1_1 : Int) (a1_2 : Int) (a1_3 : Int) (a1_4 : Int) (a1_5 : Int) (l1_6 : List (S172)) : Option (Bool) := if a0_0 = a1_0 then (if a0_1 = a1_1 then (if a0_2 = a1_2 then ((laws_eqCond.f k a0_3 a0_4 a0_5 l0_6 a1_3 a1_4 a1_5 l1_6).bind fun t258 => (if t258 = true then (some true) else (some false))) else (some false)) else (some false)) else (some false)
theorem laws_eqRule.calls (k : Nat) (a0_0 : Int) (a0_1 : Int) (a0_2 : Int) (a0_3 : Int) (a0_4 : Int) (a0_5 : Int) (A0_6 : Option Addr) (c0_6 : Nat) (l0_6 : List (S172)) (a1_0 : Int) (a1_1 : Int) (a1_2 : Int) (a1_3 : Int) (a1_4 : Int) (a1_5 : Int) (A1_6 : Option Addr) (c1_6 : Nat) (l1_6 : List (S172)) (r : Bool) (w : World) (hr0_6 : Kd.C k172 w A0_6 l0_6.length l0_6) (hc0_6 : l0_6.length ≤ c0_6) (hr1_6 : Kd.C k172 w A1_6 l1_6.length l1_6) (hc1_6 : l1_6.length ≤ c1_6) (h : laws_eqRule.f k a0_0 a0_1 a0_2 a0_3 a0_4 a0_5 l0_6 a1_0 a1_1 a1_2 a1_3 a1_4 a1_5 l1_6 = some r) :
  Calls Tryz.prog 135 #[.agg #[.int .i64 a0_0, .int .i64 a0_1, .int .i64 a0_2, .int .i64 a0_3, .int .i64 a0_4, .int .i64 a0_5, .slice A0_6 l0_6.length c0_6], .agg #[.int .i64 a1_0, .int .i64 a1_1, .int .i64 a1_2, .int .i64 a1_3, .int .i64 a1_4, .int .i64 a1_5, .slice A1_6 l1_6.length c1_6]] w fun e w' => e = .returned (.bool r) ∧ Below w.heap.size w w' := by
 have HR0_6 := Aside0.mk hr0_6
 have HC0_6 := Aside0.mk hc0_6
 clear hr0_6 hc0_6
 have HR1_6 := Aside0.mk hr1_6
 have HC1_6 := Aside0.mk hc1_6
 clear hr1_6 hc1_6
 have HB := Aside0.mk (Below.refl w.heap.size w)
 have H := h
 clear h
 unfold laws_eqRule.f at H
 have hu172 := Tryz.underlying172
 have hu174 := Tryz.underlying174
 go_enter Tryz.func135, Tryz.ntmps135
 replace H := Aside0.mk H
 go_upto_region 1 with (first | ((with_reducible refine gate_dst (N := 2) rfl ?_); refine box_event ?hg (N := 2) ?hd (cs := #[.int .i64 a0_0, .int .i64 a0_1, .int .i64 a0_2, .int .i64 a0_3, .int .i64 a0_4, .int .i64 a0_5, .slice A0_6 l0_6.length c0_6]) (t := 174) ?hr ?_; (case hd => rfl); (case hg => rfl); (case hr => first | (go_simp; done) | (go_simp; rfl)); intro gb1 hg W1 hbox hb; replace HB := bH HB hb; clear hb; have BK1 := Aside0.mk hbox; have c_BK1 := blk_cell hbox; have z_BK1 := blk_frozen hbox; clear hg hbox) | ((with_reducible refine gate_dst (N := 3) rfl ?_); refine box_event ?hg (N := 3) ?hd (cs := #[.int .i64 a1_0, .int .i64 a1_1, .int .i64 a1_2, .int .i64 a1_3, .int .i64 a1_4, .int .i64 a1_5, .slice A1_6 l1_6.length c1_6]) (t := 174) ?hr ?_; (case hd => rfl); (case hg => rfl); (case hr => first | (go_simp; done) | (go_simp; rfl)); intro gb2 hg W2 hbox hb; replace BK1 := bK BK1 hb; replace c_BK1 := bcl BK1; replace z_BK1 := bfr BK1; replace HB := bH HB hb; clear hb; have BK2 := Aside0.mk hbox; have c_BK2 := blk_cell hbox; have z_BK2 := blk_frozen hbox; clear hg hbox))
 replace H := ifD H.out; rcases H with ⟨c3, H⟩ | ⟨c3, H⟩
 rotate_left
 ·obtain ⟨c3_0, c3_1, c3_2⟩ := d3F c3
  clear c3
  (first | rw [c3_1] | rw [c3_2] | skip)
  cases H
  go_wp2
  go_ret
  exact ⟨rfl, HB.out⟩
 obtain ⟨c3_0, c3_1, c3_2⟩ := d3T c3
 clear c3
 (first | rw [c3_1] | rw [c3_2] | skip)
 replace H := ifD H; rcases H with ⟨c4, H⟩ | ⟨c4, H⟩
 rotate_left
 ·obtain ⟨c4_0, c4_1, c4_2⟩ := d3F c4
  clear c4
  (first | rw [c4_1] | rw [c4_2] | skip)
  cases H
  go_wp2
  go_ret
  exact ⟨rfl, HB.out⟩
 obtain ⟨c4_0, c4_1, c4_2⟩ := d3T c4
 clear c4
 (first | rw [c4_1] | rw [c4_2] | skip)
 replace H := ifD H; rcases H with ⟨c5, H⟩ | ⟨c5, H⟩
 rotate_left
 ·obtain ⟨c5_0, c5_1, c5_2⟩ := d3F c5
  clear c5
  (first | rw [c5_1] | rw [c5_2] | skip)
  cases H
  go_wp2
  go_ret
  exact ⟨rfl, HB.out⟩
 obtain ⟨c5_0, c5_1, c5_2⟩ := d3T c5
 clear c5
 (first | rw [c5_1] | rw [c5_2] | skip)
 replace H := obs H
 obtain ⟨t258, hm, H⟩ := H
 (try dsimp only at H)
 replace H := Aside0.mk H
 have hcall := laws_eqCond.calls k _ _ _ _ _ _ _ _ _ _ _ _ _ W2 (Kd.C_below HR0_6.out HB.out) HC0_6.out (Kd.C_below HR1_6.out HB.out) HC1_6.out hm
 clear hm
 (go_wp2_with fail)
 refine hcall.mono ?_
 rintro e W6 ⟨rfl, hb⟩
 clear hcall
 replace BK1 := bK BK1 hb; replace c_BK1 := bcl BK1; replace z_BK1 := bfr BK1
 replace BK2 := bK BK2 hb; replace c_BK2 := bcl BK2; replace z_BK2 := bfr BK2
 replace HB := bH HB hb; clear hb
 replace H := ifD H.out; rcases H with ⟨c7, H⟩ | ⟨c7, H⟩
 ·subst c7
  cases H
  go_wp2
  go_ret
  exact ⟨rfl, HB.out⟩
 replace c7 := nT c7
 subst c7
 cases H
 go_wp2
 go_ret
 exact ⟨rfl, HB.out⟩
def laws_eqRuleS.l0 : Nat → List (S174) → List (S174) → Int → Option (Bool)
 | 0, _, _, _ => none
 | k + 1, x0, x1, x5 => if x5 < (x0.length : Int) then (if 0 ≤ x5 then (if x5 < (x1.length : Int) then ((laws_eqRule.f k ((rd_T174 x0 x5).f0) ((rd_T174 x0 x5).f1) ((rd_T174 x0 x5).f2) ((rd_T174 x0 x5).f3.f0) ((rd_T174 x0 x5).f3.f1) ((rd_T174 x0 x5).f3.f2) ((rd_T174 x0 x5).f3.f3) ((rd_T174 x1 x5).f0) ((rd_T174 x1 x5).f1) ((rd_T174 x1 x5).f2) ((rd_T174 x1 x5).f3.f0) ((rd_T174 x1 x5).f3.f1) ((rd_T174 x1 x5).f3.f2) ((rd_T174 x1 x5).f3.f3)).bind fun t261 => (if t261 = true then (laws_eqRuleS.l0 k x0 x1 (wrap64 (x5 + 1))) else (some false))) else (none)) else (none)) else (some true)
def laws_eqRuleS.f (k : Nat) (l0 : List (S174)) (l1 : List (S174)) : Option (Bool) := if (l0.length : Int) = (l1.length : Int) then (laws_eqRuleS.l0 k l0 l1 0) else (some false)
theorem laws_eqRuleS.calls (k : Nat) (A0 : Option Addr) (c0 : Nat) (l0 : List (S174)) (A1 : Option Addr) (c1 : Nat) (l1 : List (S174)) (r : Bool) (w : World) (hr0 : Kd.C k174 w A0 l0.length l0) (hc0 : l0.length ≤ c0) (hr1 : Kd.C k174 w A1 l1.length l1) (hc1 : l1.length ≤ c1) (h : laws_eqRuleS.f k l0 l1 = some r) :
  Calls Tryz.prog 45 #[.slice A0 l0.length c0, .slice A1 l1.length c1] w fun e w' => e = .returned (.bool r) ∧ Below w.heap.size w w' := by
 have HR0 := Aside0.mk hr0
 have HC0 := Aside0.mk hc0
 clear hr0 hc0
 have HR1 := Aside0.mk hr1
 have HC1 := Aside0.mk hc1
 clear hr1 hc1
 have HB := Aside0.mk (Below.refl w.heap.size w)
 have H := h
 clear h
 unfold laws_eqRuleS.f at H
 have hu174 := Tryz.underlying174
 go_enter Tryz.func45, Tryz.ntmps45
 replace H := ifD H; rcases H with ⟨c1, H⟩ | ⟨c1, H⟩
 rotate_left
 ·have c1_x0 : (l0.length == l1.length) = false := by first | simpa using c1 | (simp at c1 ⊢; omega)
  obtain ⟨c1_0, c1_1, c1_2⟩ := d3F c1
  clear c1
  (first | rw [c1_1] | rw [c1_2] | skip)
  cases H
  go_wp2
  go_ret
  exact ⟨rfl, HB.out⟩
 have c1_x0 : (l0.length == l1.length) = true := by first | simpa using c1 | (simp at c1 ⊢; omega)
 obtain ⟨c1_0, c1_1, c1_2⟩ := d3T c1
 clear c1
 (first | rw [c1_1] | rw [c1_2] | skip)
 replace H := Aside0.mk H
 go_wp2
 go_loopg [5] k (fun kq v5 w' => ∃ (x5_2 : Int), v5 = .int .i64 x5_2 ∧ Aside0 (laws_eqRuleS.l0 kq l0 l1 x5_2 = some r) ∧ Aside0 (kq ≤ k) ∧ Aside0 (Below w.heap.size w w'))
 case atStart => exact ⟨(0), zT, H, ⟨Nat.le_refl _⟩, HB⟩
 case round =>
  clear H HB 
  (try clear c1_x0 c1_0 c1_1 c1_2)
  obtain ⟨x5_2, rfl, HA, Hk2, HB⟩ := hrel
  cases gk with
  | zero => exact absurd HA.out (by simp [laws_eqRuleS.l0])
  | succ k2 =>
   have H := HA.out; clear HA; simp only [laws_eqRuleS.l0] at H; replace H := ifD H; rcases H with ⟨c3, H⟩ | ⟨c3, H⟩; rotate_left
   ·have c3_0 := decF c3; replace c3 := Aside0.mk c3; (try rw [c3_0]); cases H; go_wp2; go_ret; exact ⟨rfl, HB.out⟩
   have c3_0 := decT c3; replace c3 := Aside0.mk c3; (try rw [c3_0]); replace H := Aside0.mk H; try go_wp2
   have HBr := HB; replace HB := dH HB; refine stA (n := 10) (S := fun w' => Below wr.heap.size wr w') (by kernel_rfl) rfl (below_drew1 (Below.refl _ wr)) (by kernel_rfl) (fun hHeld => ?_); generalize wr.drew = W4 at HB hHeld ⊢; refine pu 0 (some 17) 1 ?_; refine pu 1 (some 18) 3 ?_; replace H := ifN H.out; obtain ⟨c5, H⟩ := H; have c5_0 := decT c5; replace c5 := Aside0.mk c5; (try rw [c5_0]); have p259 : 0 ≤ (x5_2 : Int) := (of_decide_eq_true (by assumption)); have q259 : x5_2 < (l0.length : Int) := (of_decide_eq_true (by assumption)); obtain ⟨ad259, A259_6, c259_6, e259, hx259_0, hx259_1, hx259_2, hx259_3, hx259_4, hx259_5, hx259_6, hl259_6, hi259_6⟩ := at_T174 HR0.out x5_2 p259 q259; cases e259; have HR259_6 := Aside0.mk hi259_6; have HC259_6 := Aside0.mk hl259_6; clear hi259_6 hl259_6; replace hx259_0 := Aside0.mk hx259_0; replace hx259_1 := Aside0.mk hx259_1; replace hx259_2 := Aside0.mk hx259_2; replace hx259_3 := Aside0.mk hx259_3; replace hx259_4 := Aside0.mk hx259_4; replace hx259_5 := Aside0.mk hx259_5; replace hx259_6 := Aside0.mk hx259_6; have r259 := eq_true p259; have s259 := eq_true q259; replace p259 := Aside0.mk p259; replace q259 := Aside0.mk q259; replace H := Aside0.mk H; refine pu 2 (some 19) 7 ?_; refine pu 4 (some 21) 23 ?_; refine pu 5 (some 22) 55 ?_; refine ld 3 (some 20) 63 hHeld ?_ (hr := by (intro w' h_; have y0_ := xD HBr h_ hx259_0; have y1_ := xD HBr h_ hx259_1; have y2_ := xD HBr h_ hx259_2; have y3_ := xD HBr h_ hx259_3; have y4_ := xD HBr h_ hx259_4; have y5_ := xD HBr h_ hx259_5; have y6_ := xD HBr h_ hx259_6; go_simp; with_reducible rfl)); replace H := ifN H.out; obtain ⟨c6, H⟩ := H; have c6_0 := decT c6; replace c6 := Aside0.mk c6; (try rw [c6_0]); have p260 : 0 ≤ (x5_2 : Int) := (of_decide_eq_true (by assumption)); have q260 : x5_2 < (l1.length : Int) := (of_decide_eq_true (by assumption)); obtain ⟨ad260, A260_6, c260_6, e260, hx260_0, hx260_1, hx260_2, hx260_3, hx260_4, hx260_5, hx260_6, hl260_6, hi260_6⟩ := at_T174 HR1.out x5_2 p260 q260; cases e260; have HR260_6 := Aside0.mk hi260_6; have HC260_6 := Aside0.mk hl260_6; clear hi260_6 hl260_6; replace hx260_0 := Aside0.mk hx260_0; replace hx260_1 := Aside0.mk hx260_1; replace hx260_2 := Aside0.mk hx260_2; replace hx260_3 := Aside0.mk hx260_3; replace hx260_4 := Aside0.mk hx260_4; replace hx260_5 := Aside0.mk hx260_5; replace hx260_6 := Aside0.mk hx260_6; have r260 := eq_true p260; have s260 := eq_true q260; replace p260 := Aside0.mk p260; replace q260 := Aside0.mk q260; replace H := obs H; obtain ⟨t261, hm, H⟩ := H; (try dsimp only at H); replace hm := Aside0.mk hm; replace H := Aside0.mk H; refine pu 6 (some 23) 127 ?_; refine ld 7 (some 24) 255 hHeld ?_ (hr := by (intro w' h_; have y0_ := xD HBr h_ hx260_0; have y1_ := xD HBr h_ hx260_1; have y2_ := xD HBr h_ hx260_2; have y3_ := xD HBr h_ hx260_3; have y4_ := xD HBr h_ hx260_4; have y5_ := xD HBr h_ hx260_5; have y6_ := xD HBr h_ hx260_6; go_simp; with_reducible rfl)); refine on 8 (some 25) 511 (fun K hK => ?_); have hcall := laws_eqRule.calls k2 _ _ _ _ _ _ _ _ _ _ _ _ _ _ _ _ _ _ _ W4 (Kd.C_below HR259_6.out HB.out) HC259_6.out (Kd.C_below HR260_6.out HB.out) HC260_6.out hm.out; refine goes_ Tryz.func135 (by kernel_rfl) rfl #[.agg #[.int .i64 ((rd_T174 l0 x5_2).f0), .int .i64 ((rd_T174 l0 x5_2).f1), .int .i64 ((rd_T174 l0 x5_2).f2), .int .i64 ((rd_T174 l0 x5_2).f3.f0), .int .i64 ((rd_T174 l0 x5_2).f3.f1), .int .i64 ((rd_T174 l0 x5_2).f3.f2), .slice A259_6 ((rd_T174 l0 x5_2).f3.f3).length c259_6], .agg #[.int .i64 ((rd_T174 l1 x5_2).f0), .int .i64 ((rd_T174 l1 x5_2).f1), .int .i64 ((rd_T174 l1 x5_2).f2), .int .i64 ((rd_T174 l1 x5_2).f3.f0), .int .i64 ((rd_T174 l1 x5_2).f3.f1), .int .i64 ((rd_T174 l1 x5_2).f3.f2), .slice A260_6 ((rd_T174 l1 x5_2).f3.f3).length c260_6]] (by rfl) rfl rfl zM ?_; refine hcall.mono ?_; rintro e W8 ⟨rfl, hb⟩; refine ⟨_, rfl, ?_⟩; clear hcall hm; replace hHeld := below_step hHeld hb; replace HB := bH HB hb; clear hb; refine hK.out _ _ hHeld (fun hHeld => ?_); clear hK K
   refine nr 25 ?_; refine pu 9 (some 26) 1023 ?_; refine dn (by kernel_rfl) ?_; clear hHeld HBr; replace H := ifD H.out; rcases H with ⟨c9, H⟩ | ⟨c9, H⟩; rotate_left
   ·replace c9 := nT c9; subst c9; cases H; go_wp2; go_ret; exact ⟨rfl, HB.out⟩
   subst c9; replace H := Aside0.mk H; go_wp2; go_roundg k2
   case measure => have := Hk2.out; omega
   case rel => exact ⟨(wrap64 (x5_2 + 1)), zT, H, ⟨by have := Hk2.out; omega⟩, HB⟩
def laws_eqPolicy.f (k : Nat) (a0_0 : Int) (l0_1 : List (S174)) (a1_0 : Int) (l1_1 : List (S174)) : Option (Bool) := if a0_0 = a1_0 then ((laws_eqRuleS.f k l0_1 l1_1).bind fun t264 => (if t264 = true then (some true) else (some false))) else (some false)
theorem laws_eqPolicy.calls (k : Nat) (a0_0 : Int) (A0_1 : Option Addr) (c0_1 : Nat) (l0_1 : List (S174)) (a1_0 : Int) (A1_1 : Option Addr) (c1_1 : Nat) (l1_1 : List (S174)) (r : Bool) (w : World) (hr0_1 : Kd.C k174 w A0_1 l0_1.length l0_1) (hc0_1 : l0_1.length ≤ c0_1) (hr1_1 : Kd.C k174 w A1_1 l1_1.length l1_1) (hc1_1 : l1_1.length ≤ c1_1) (h : laws_eqPolicy.f k a0_0 l0_1 a1_0 l1_1 = some r) :
  Calls Tryz.prog 25 #[.agg #[.int .i64 a0_0, .slice A0_1 l0_1.length c0_1], .agg #[.int .i64 a1_0, .slice A1_1 l1_1.length c1_1]] w fun e w' => e = .returned (.bool r) ∧ Below w.heap.size w w' := by
 have HR0_1 := Aside0.mk hr0_1
 have HC0_1 := Aside0.mk hc0_1
 clear hr0_1 hc0_1
 have HR1_1 := Aside0.mk hr1_1
 have HC1_1 := Aside0.mk hc1_1
 clear hr1_1 hc1_1
 have HB := Aside0.mk (Below.refl w.heap.size w)
 have H := h
 clear h
 unfold laws_eqPolicy.f at H
 have hu39 := Tryz.underlying39
 go_enter Tryz.func25, Tryz.ntmps25
 replace H := Aside0.mk H
 go_upto_region 1 with (first | ((with_reducible refine gate_dst (N := 2) rfl ?_); refine box_event ?hg (N := 2) ?hd (cs := #[.int .i64 a0_0, .slice A0_1 l0_1.length c0_1]) (t := 39) ?hr ?_; (case hd => rfl); (case hg => rfl); (case hr => first | (go_simp; done) | (go_simp; rfl)); intro gb1 hg W1 hbox hb; replace HB := bH HB hb; clear hb; have BK1 := Aside0.mk hbox; have c_BK1 := blk_cell hbox; have z_BK1 := blk_frozen hbox; clear hg hbox) | ((with_reducible refine gate_dst (N := 3) rfl ?_); refine box_event ?hg (N := 3) ?hd (cs := #[.int .i64 a1_0, .slice A1_1 l1_1.length c1_1]) (t := 39) ?hr ?_; (case hd => rfl); (case hg => rfl); (case hr => first | (go_simp; done) | (go_simp; rfl)); intro gb2 hg W2 hbox hb; replace BK1 := bK BK1 hb; replace c_BK1 := bcl BK1; replace z_BK1 := bfr BK1; replace HB := bH HB hb; clear hb; have BK2 := Aside0.mk hbox; have c_BK2 := blk_cell hbox; have z_BK2 := blk_frozen hbox; clear hg hbox))
 replace H := ifD H.out; rcases H with ⟨c3, H⟩ | ⟨c3, H⟩
 rotate_left
 ·obtain ⟨c3_0, c3_1, c3_2⟩ := d3F c3
  clear c3
  (first | rw [c3_1] | rw [c3_2] | skip)
  cases H
  go_wp2
  go_ret
  exact ⟨rfl, HB.out⟩
 obtain ⟨c3_0, c3_1, c3_2⟩ := d3T c3
 clear c3
 (first | rw [c3_1] | rw [c3_2] | skip)
 replace H := obs H
 obtain ⟨t264, hm, H⟩ := H
 (try dsimp only at H)
 replace H := Aside0.mk H
 have hcall := laws_eqRuleS.calls k _ _ _ _ _ _ _ W2 (Kd.C_below HR0_1.out HB.out) HC0_1.out (Kd.C_below HR1_1.out HB.out) HC1_1.out hm
 clear hm
 (go_wp2_with fail)
 refine hcall.mono ?_
 rintro e W4 ⟨rfl, hb⟩
 clear hcall
 replace BK1 := bK BK1 hb; replace c_BK1 := bcl BK1; replace z_BK1 := bfr BK1
 replace BK2 := bK BK2 hb; replace c_BK2 := bcl BK2; replace z_BK2 := bfr BK2
 replace HB := bH HB hb; clear hb
 replace H := ifD H.out; rcases H with ⟨c5, H⟩ | ⟨c5, H⟩
 ·subst c5
  cases H
  go_wp2
  go_ret
  exact ⟨rfl, HB.out⟩
 replace c5 := nT c5
 subst c5
 cases H
 go_wp2
 go_ret
 exact ⟨rfl, HB.out⟩
def spec_l1In.f (a0 : Int) (a1 : Int) (a2 : Int) : Option (Bool) := if a0 ≥ a1 then (some (decide (a0 ≤ a2))) else (some false)
theorem spec_l1In.calls (a0 : Int) (a1 : Int) (a2 : Int) (r : Bool) (w : World) (h : spec_l1In.f a0 a1 a2 = some r) :
  Calls Tryz.prog 93 #[.int .i64 a0, .int .i64 a1, .int .i64 a2] w fun e w' => e = .returned (.bool r) ∧ Below w.heap.size w w' := by
 have HB := Aside0.mk (Below.refl w.heap.size w)
 have H := h
 clear h
 unfold spec_l1In.f at H
 go_enter Tryz.func93, Tryz.ntmps93
 replace H := ifD H; rcases H with ⟨c1, H⟩ | ⟨c1, H⟩
 ·replace c1 : a1 ≤ a0 := c1
  have c1_0 := decT c1
  replace c1 := Aside0.mk c1
  (try rw [c1_0])
  cases H
  go_wp2
  go_ret
  exact ⟨rfl, HB.out⟩
 replace c1 : ¬ (a1 ≤ a0) := c1
 have c1_0 := decF c1
 replace c1 := Aside0.mk c1
 (try rw [c1_0])
 cases H
 go_wp2
 go_ret
 exact ⟨rfl, HB.out⟩
def spec_IsTime.f (a0 : Int) : Option (Bool) := (spec_l1In.f a0 0 10000).bind fun t265 => (some t265)
theorem spec_IsTime.calls (a0 : Int) (r : Bool) (w : World) (h : spec_IsTime.f a0 = some r) :
  Calls Tryz.prog 152 #[.int .i64 a0] w fun e w' => e = .returned (.bool r) ∧ Below w.heap.size w w' := by
 have HB := Aside0.mk (Below.refl w.heap.size w)
 have H := h
 clear h
 unfold spec_IsTime.f at H
 go_enter Tryz.func152, Tryz.ntmps152
 replace H := obs H
 obtain ⟨t265, hm, H⟩ := H
 (try dsimp only at H)
 replace H := Aside0.mk H
 have hcall := spec_l1In.calls _ _ _ _ w  hm
 clear hm
 (go_wp2_with fail)
 refine hcall.mono ?_
 rintro e W1 ⟨rfl, hb⟩
 clear hcall
 replace HB := bH HB hb; clear hb
 replace H := H.out
 cases H
 go_wp2
 go_ret
 exact ⟨rfl, HB.out⟩
def spec_IsName.f (a0 : Int) : Option (Bool) := (spec_l1In.f a0 10 49).bind fun t266 => (some t266)
theorem spec_IsName.calls (a0 : Int) (r : Bool) (w : World) (h : spec_IsName.f a0 = some r) :
  Calls Tryz.prog 317 #[.int .i64 a0] w fun e w' => e = .returned (.bool r) ∧ Below w.heap.size w w' := by
 have HB := Aside0.mk (Below.refl w.heap.size w)
 have H := h
 clear h
 unfold spec_IsName.f at H
 go_enter Tryz.func317, Tryz.ntmps317
 replace H := obs H
 obtain ⟨t266, hm, H⟩ := H
 (try dsimp only at H)
 replace H := Aside0.mk H
 have hcall := spec_l1In.calls _ _ _ _ w  hm
 clear hm
 (go_wp2_with fail)
 refine hcall.mono ?_
 rintro e W1 ⟨rfl, hb⟩
 clear hcall
 replace HB := bH HB hb; clear hb
 replace H := H.out
 cases H
 go_wp2
 go_ret
 exact ⟨rfl, HB.out⟩
end Go.Proofs.YtmgfklmhelabcaaGreat.QFnExactSaveDecision
