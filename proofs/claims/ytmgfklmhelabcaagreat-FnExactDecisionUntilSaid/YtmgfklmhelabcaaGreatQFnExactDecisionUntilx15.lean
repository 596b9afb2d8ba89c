/- The machine side of FnExactDecisionUntil: what each function that it reaches computes, and that the machine's call gives just that. -/
import Derived.Test.YtmgfklmhelabcaaGreatQFnExactDecisionUntilx0
import Derived.Test.YtmgfklmhelabcaaGreatQFnExactDecisionUntilx9
import Derived.Test.YtmgfklmhelabcaaGreatQFnExactDecisionUntilx12
import Derived.Test.YtmgfklmhelabcaaGreatQFnExactDecisionUntilx14
namespace Go.Proofs.YtmgfklmhelabcaaGreat.QFnExactDecisionUntil
open Go.RowKit Go.Proofs.YtmgfklmhelabcaaGreatW.PrintWords Go.Proofs.YtmgfklmhelabcaaGreatW.PrintLast Go.Proofs.YtmgfklmhelabcaaGreatW.PrintMore
attribute [local go_sem] max2_int min2_int max_two min_two max_three min_three max_four min_four
set_option maxHeartbeats 8000000
set_option maxRecDepth 100000
open Go.Proofs.YtmgfklmhelabcaaGreatM
set_option linter.unusedVariables false
set_option linter.unusedSimpArgs false
mutual
def impl_RulesThatHold.l0 : Nat → List (S154) → List (S136) → List Int → List (S174) → Int → Int → Int → Int → Int → Int → Int → Int → Option (List Int)
 | 0, _, _, _, _, _, _, _, _, _, _, _, _ => none
 | k + 1, x0, x1, x9, x14, x15, x16, x573000, x573001, x573002, x573003, x573004, x573005 => if x16 < x15 then (if 0 ≤ x16 then (if x16 < (x14.length : Int) then ((impl_IsFor.f ((rd_T174 x14 x16).f0) ((rd_T174 x14 x16).f1) ((rd_T174 x14 x16).f2) ((rd_T174 x14 x16).f3.f0) ((rd_T174 x14 x16).f3.f1) ((rd_T174 x14 x16).f3.f2) ((rd_T174 x14 x16).f3.f3) x573003 x573004).bind fun t578 => (if t578 = true then ((impl_EvalCond.f k x0 x1 ((rd_T174 x14 x16).f3.f0) ((rd_T174 x14 x16).f3.f1) ((rd_T174 x14 x16).f3.f2) ((rd_T174 x14 x16).f3.f3) x573000 x573001 x573002 x573003 x573004 x573005).bind fun t579 => (impl_RulesThatHold.j1 k x0 x1 x9 x16 x14 x15 x16 t579 x573000 x573001 x573002 x573003 x573004 x573005)) else (impl_RulesThatHold.j1 k x0 x1 x9 x16 x14 x15 x16 false x573000 x573001 x573002 x573003 x573004 x573005))) else (none)) else (none)) else (some x9)
def impl_RulesThatHold.j1 : Nat → List (S154) → List (S136) → List Int → Int → List (S174) → Int → Int → Bool → Int → Int → Int → Int → Int → Int → Option (List Int)
 | 0, _, _, _, _, _, _, _, _, _, _, _, _, _, _ => none
 | k + 1, x0, x1, x9, x10, x14, x15, x16, x34, x573000, x573001, x573002, x573003, x573004, x573005 => if x34 = true then (if x9.length < 17592186044416 then (impl_RulesThatHold.l0 k x0 x1 (x9 ++ [x10]) x14 x15 (wrap64 (x16 + 1)) x573000 x573001 x573002 x573003 x573004 x573005) else (none)) else (impl_RulesThatHold.l0 k x0 x1 x9 x14 x15 (wrap64 (x16 + 1)) x573000 x573001 x573002 x573003 x573004 x573005)
end
def impl_RulesThatHold.f (k : Nat) (l0 : List (S154)) (l1 : List (S136)) (a2_0 : Int) (l2_1 : List (S174)) (a3_0 : Int) (a3_1 : Int) (a3_2 : Int) (a3_3 : Int) (a3_4 : Int) (a3_5 : Int) : Option (List Int) := impl_RulesThatHold.l0 k l0 l1 (([] : List Int)) l2_1 (l2_1.length : Int) 0 a3_0 a3_1 a3_2 a3_3 a3_4 a3_5
theorem impl_RulesThatHold.calls (k : Nat) (A0 : Option Addr) (c0 : Nat) (l0 : List (S154)) (A1 : Option Addr) (c1 : Nat) (l1 : List (S136)) (a2_0 : Int) (A2_1 : Option Addr) (c2_1 : Nat) (l2_1 : List (S174)) (a3_0 : Int) (a3_1 : Int) (a3_2 : Int) (a3_3 : Int) (a3_4 : Int) (a3_5 : Int) (r : List Int) (w : World) (hr0 : Kd.C k154 w A0 l0.length l0) (hc0 : l0.length ≤ c0) (hr1 : Kd.C k136 w A1 l1.length l1) (hc1 : l1.length ≤ c1) (hr2_1 : Kd.C k174 w A2_1 l2_1.length l2_1) (hc2_1 : l2_1.length ≤ c2_1) (h : impl_RulesThatHold.f k l0 l1 a2_0 l2_1 a3_0 a3_1 a3_2 a3_3 a3_4 a3_5 = some r) :
  Calls Tryz.prog 114 #[.slice A0 l0.length c0, .slice A1 l1.length c1, .agg #[.int .i64 a2_0, .slice A2_1 l2_1.length c2_1], .agg #[.int .i64 a3_0, .int .i64 a3_1, .int .i64 a3_2, .int .i64 a3_3, .int .i64 a3_4, .int .i64 a3_5]] w fun e w' => ∃ v0_ : Value, e = .returned (v0_) ∧ Kd.R (Kd.int .i64) 3 w' w.heap.size (fun _ => True) v0_ r ∧ Below w.heap.size w w' := by
 have hu39 := Tryz.underlying39
 have hu41 := Tryz.underlying41
 have hu174 := Tryz.underlying174
 have hu172 := Tryz.underlying172
 have HR0 := Aside0.mk hr0
 have HC0 := Aside0.mk hc0
 clear hr0 hc0
 have HR1 := Aside0.mk hr1
 have HC1 := Aside0.mk hc1
 clear hr1 hc1
 have HR2_1 := Aside0.mk hr2_1
 have HC2_1 := Aside0.mk hc2_1
 clear hr2_1 hc2_1
 have HB := Aside0.mk (Below.refl w.heap.size w)
 have H : (impl_RulesThatHold.l0 k l0 l1 (([] : List Int)) l2_1 (l2_1.length : Int) 0 a3_0 a3_1 a3_2 a3_3 a3_4 a3_5) = some r := h
 clear h
 obtain ⟨y573, hy573⟩ : ∃ y_ : List Int, y_ = (([] : List Int)) := ⟨_, rfl⟩
 replace H : (impl_RulesThatHold.l0 k l0 l1 y573 l2_1 (l2_1.length : Int) 0 a3_0 a3_1 a3_2 a3_3 a3_4 a3_5) = some r := by first | (rw [hy573]; with_reducible exact H) | (have H2_ := (Option.bind_some _ _).symm.trans H; rw [hy573]; with_reducible exact H2_) | (have H2_ := (Option.bind_some _ _).symm.trans H; with_reducible exact H2_) | with_reducible exact H | (rw [hy573]; exact H) | exact H
 have Ny573 := Aside0.mk hy573
 clear hy573
 have H' := Aside0.mk H
 clear H
 go_enter Tryz.func114, Tryz.ntmps114
 go_wp2_with (first | ((with_reducible refine gate_dst (N := 6) rfl ?_); refine box_event ?hg (N := 6) ?hd (cs := #[.int .i64 a2_0, .slice A2_1 l2_1.length c2_1]) (t := 39) ?hr ?_; (case hd => rfl); (case hg => rfl); (case hr => first | (go_simp; done) | (go_simp; rfl)); intro gb571 hg w5 hbox hb; have n0_ := Aside0.mk (below_step (by repeat (first | (with_reducible first | exact HB.out | apply below_alloc | apply pw_below_drewN | apply below_drew1) | exact HB.out)) hb); have n1_ := Aside0.mk (hbox); have n2_ := Aside0.mk ((by rw [hg]; exact (below_size (by repeat (first | (with_reducible first | exact HB.out | apply below_alloc | apply pw_below_drewN | apply below_drew1) | exact HB.out))) : w.heap.size ≤ gb571)); have n3_ := Aside0.mk ((by rw [hg]; exact (below_size (by repeat (first | (with_reducible first | exact HB.out | apply below_alloc | apply pw_below_drewN | apply below_drew1) | exact HB.out))) : w.heap.size ≤ gb571)); clear HB; have HB := n0_; have BK571 := n1_; have GW571 := n2_; have GE571 := n3_; clear n0_ n1_ n2_ n3_; clear hb hbox hg) | ((with_reducible refine gate_dst (N := 7) rfl ?_); refine box_event ?hg (N := 7) ?hd (cs := #[.int .i64 a3_0, .int .i64 a3_1, .int .i64 a3_2, .int .i64 a3_3, .int .i64 a3_4, .int .i64 a3_5]) (t := 41) ?hr ?_; (case hd => rfl); (case hg => rfl); (case hr => first | (go_simp; done) | (go_simp; rfl)); intro gb572 hg w6 hbox hb; have n0_ := Aside0.mk (blk_below (g := gb571) (o := .cells #[.int .i64 a2_0, .slice A2_1 l2_1.length c2_1] 39 (0, 0)) (by (with_reducible repeat (first | refine blk_drewN ?_ _ | refine blk_drew ?_ | refine blk_alloc ?_ _)); exact BK571.out) hb); have n1_ := Aside0.mk (below_step (by repeat (first | (with_reducible first | exact HB.out | apply below_alloc | apply pw_below_drewN | apply below_drew1 | refine below_set ?_ GE571.out) | exact HB.out)) hb); have n2_ := Aside0.mk (hbox); have n3_ := Aside0.mk ((by rw [hg]; exact (below_size (by repeat (first | (with_reducible first | exact HB.out | apply below_alloc | apply pw_below_drewN | apply below_drew1 | refine below_set ?_ GE571.out) | exact HB.out))) : w.heap.size ≤ gb572)); have n4_ := Aside0.mk ((by rw [hg]; exact (below_size (by repeat (first | (with_reducible first | exact HB.out | apply below_alloc | apply pw_below_drewN | apply below_drew1 | refine below_set ?_ GE571.out) | exact HB.out))) : w.heap.size ≤ gb572)); have n5_ := Aside0.mk ((by rw [hg]; exact Nat.ne_of_lt (blk_lt (g := gb571) (o := .cells #[.int .i64 a2_0, .slice A2_1 l2_1.length c2_1] 39 (0, 0)) (by (with_reducible repeat (first | refine blk_drewN ?_ _ | refine blk_drew ?_ | refine blk_alloc ?_ _)); exact BK571.out)) : gb571 ≠ gb572)); have n6_ := Aside0.mk ((by rw [hg]; exact Nat.ne_of_gt (blk_lt (g := gb571) (o := .cells #[.int .i64 a2_0, .slice A2_1 l2_1.length c2_1] 39 (0, 0)) (by (with_reducible repeat (first | refine blk_drewN ?_ _ | refine blk_drew ?_ | refine blk_alloc ?_ _)); exact BK571.out)) : gb572 ≠ gb571)); clear BK571; clear HB; have BK571 := n0_; have HB := n1_; have BK572 := n2_; have GW572 := n3_; have GE572 := n4_; have NB571_572 := n5_; have NB572_571 := n6_; clear n0_ n1_ n2_ n3_ n4_ n5_ n6_; clear hb hbox hg) | ((with_reducible refine gate_dst (N := 12) rfl ?_); refine Kd.R_lit (Kd.int .i64) _ 3 ?hg (N := 12) ?hd (xs := ([] : List Int)) (inner := []) (ok := fun _ => True) (okp := fun _ => True) ?hr ?hp (fun _ hk => hk) trivial (Below.refl _ _) (Nat.le_refl _) (by simp) ?_; (case hd => rfl); (case hg => rfl); (case hr => first | (go_simp; done) | (go_simp; rfl)); (case hp => exact (Reps.none _ _)); intro v574 w7 ho8 hb hg_ hnew_; clear hg_ hnew_; (first | rw [← Ny573.out] at ho8 | (simp only [Int.reduceToNat] at ho8; rw [← Ny573.out] at ho8)); have n0_ := Aside0.mk (Kd.R_lower ho8 (below_size (by repeat (first | (with_reducible first | exact HB.out | apply below_alloc | apply pw_below_drewN | apply below_drew1 | refine below_set ?_ GE571.out | refine below_set ?_ GE572.out) | exact HB.out)))); have n1_ := Aside0.mk (blk_below (g := gb571) (o := .cells #[.int .i64 a2_0, .slice A2_1 l2_1.length c2_1] 39 (0, 0)) (by (with_reducible repeat (first | refine blk_drewN ?_ _ | refine blk_drew ?_ | refine blk_alloc ?_ _)); exact BK571.out) hb); have n2_ := Aside0.mk (blk_below (g := gb572) (o := .cells #[.int .i64 a3_0, .int .i64 a3_1, .int .i64 a3_2, .int .i64 a3_3, .int .i64 a3_4, .int .i64 a3_5] 41 (0, 0)) (by (with_reducible repeat (first | refine blk_drewN ?_ _ | refine blk_drew ?_ | refine blk_alloc ?_ _)); exact BK572.out) hb); have n3_ := Aside0.mk (below_step (by repeat (first | (with_reducible first | exact HB.out | apply below_alloc | apply pw_below_drewN | apply below_drew1 | refine below_set ?_ GE571.out | refine below_set ?_ GE572.out) | exact HB.out)) hb); clear BK571; clear BK572; clear HB; have HO575 := n0_; have BK571 := n1_; have BK572 := n2_; have HB := n3_; clear n0_ n1_ n2_ n3_; clear hb ho8; have hnb9 := NB571_572.out; have hnc9 := NB572_571.out; have hcz10_0 : w7.cell? ⟨gb571, 0, none⟩ = some (.int .i64 a2_0) := (blk_cell BK571.out 0).trans rfl; have hcz10_1 : w7.cell? ⟨gb571, 1, none⟩ = some (.slice A2_1 l2_1.length c2_1) := (blk_cell BK571.out 1).trans rfl; have hfz10_0 := blk_frozen BK571.out 0; have hfz10_1 := blk_frozen BK571.out 1))
 go_loopg [9, 16] k (fun kq v9 v16 w' => ∃ (x9_1 : List Int) (x16_1 : Int), v16 = .int .i64 x16_1 ∧ Aside0 (impl_RulesThatHold.l0 kq l0 l1 x9_1 l2_1 (l2_1.length : Int) x16_1 a3_0 a3_1 a3_2 a3_3 a3_4 a3_5 = some r) ∧ Aside0 (kq ≤ k) ∧ Aside0 (Kd.R (Kd.int .i64) 3 w' w.heap.size (fun _ => True) v9 x9_1) ∧ Aside0 (w'.heap[gb571]? = some (.cells #[.int .i64 a2_0, (.slice A2_1 l2_1.length c2_1)] 39 (0, 0))) ∧ Aside0 (w'.heap[gb572]? = some (.cells #[.int .i64 a3_0, .int .i64 a3_1, .int .i64 a3_2, .int .i64 a3_3, .int .i64 a3_4, .int .i64 a3_5] 41 (0, 0))) ∧ Aside0 (Below w.heap.size w w'))
 case atStart => exact ⟨(y573), (0), (by first | rfl | (simp; done) | (simp [*]; done)), H', ⟨Nat.le_refl _⟩, ⟨by (with_reducible repeat (first | apply Kd.R_alloc | apply Kd.R_drewN | apply Kd.R_drew)); exact HO575.out⟩, ⟨by (with_reducible repeat (first | refine blk_drewN ?_ _ | refine blk_drew ?_ | refine blk_alloc ?_ _)); exact BK571.out⟩, ⟨by (with_reducible repeat (first | refine blk_drewN ?_ _ | refine blk_drew ?_ | refine blk_alloc ?_ _)); exact BK572.out⟩, ⟨by repeat (first | (with_reducible first | exact HB.out | apply below_alloc | apply pw_below_drewN | apply below_drew1 | refine below_set ?_ GE571.out | refine below_set ?_ GE572.out) | exact HB.out)⟩⟩
 case round =>
  clear H'
  (try clear c1)
  (try clear c2)
  (try clear p2)
  (try clear c9)
  (try clear hcz10_0)
  (try clear hcz10_1)
  (try clear hfz10_0)
  (try clear hfz10_1)
  obtain ⟨x9_1, x16_1, rfl, HA, HK1, HO_9, BK571, BK572, HB⟩ := hrel
  cases gk with
  | zero => exact absurd HA.out (by simp [impl_RulesThatHold.l0])
  | succ k1 =>
   have H := HA.out; clear HA; simp only [impl_RulesThatHold.l0] at H; replace H := ifD H; rcases H with ⟨c11, H⟩ | ⟨c11, H⟩; rotate_left
   ·have c11b0 : decide (x16_1 < (l2_1.length : Int)) = false := decide_eq_false c11; clear c11; obtain rfl := Option.some.inj H; go_wp2; go_ret; exact ⟨_, by first | rfl | (simp [errW_none, errW_some] <;> rfl) | (simp [*, errW_none, errW_some] <;> rfl), by (with_reducible repeat (first | apply Kd.R_alloc | apply Kd.R_drewN | apply Kd.R_drew)); exact HO_9.out, by repeat (first | (with_reducible first | exact HB.out | apply below_alloc | apply pw_below_drewN | apply below_drew1 | refine below_set ?_ GE571.out | refine below_set ?_ GE572.out) | exact HB.out)⟩
   have c11b0 : decide (x16_1 < (l2_1.length : Int)) = true := decide_eq_true c11; clear c11; replace H := ifN H; obtain ⟨c12, H⟩ := H; have c12b0 : decide (0 ≤ x16_1) = true := decide_eq_true c12; clear c12; replace H := ifN H; obtain ⟨c13, H⟩ := H; have c13b0 : decide (x16_1 < (l2_1.length : Int)) = true := decide_eq_true c13; clear c13; have HC14 := Aside0.mk H; clear H; have p576 : 0 ≤ (x16_1 : Int) := of_decide_eq_true (by first | (with_reducible assumption) | assumption); have q576 : x16_1 < (l2_1.length : Int) := of_decide_eq_true (by first | (with_reducible assumption) | assumption); obtain ⟨ad576, A576_6, c576_6, e576, hx576_0, hx576_1, hx576_2, hx576_3, hx576_4, hx576_5, hx576_6, hl576_6, hi576_6⟩ := at_T174 HR2_1.out x16_1 p576 q576; cases e576; replace hx576_0 := (HB.out.cell (World.block_lt_of_cell? w _ hx576_0)).trans hx576_0; replace hx576_1 := (HB.out.cell (World.block_lt_of_cell? w _ hx576_1)).trans hx576_1; replace hx576_2 := (HB.out.cell (World.block_lt_of_cell? w _ hx576_2)).trans hx576_2; replace hx576_3 := (HB.out.cell (World.block_lt_of_cell? w _ hx576_3)).trans hx576_3; replace hx576_4 := (HB.out.cell (World.block_lt_of_cell? w _ hx576_4)).trans hx576_4; replace hx576_5 := (HB.out.cell (World.block_lt_of_cell? w _ hx576_5)).trans hx576_5; replace hx576_6 := (HB.out.cell (World.block_lt_of_cell? w _ hx576_6)).trans hx576_6; have HR576_6 := Aside0.mk hi576_6; have HC576_6 := Aside0.mk hl576_6; clear hi576_6 hl576_6; replace p576 := eq_true p576; replace q576 := eq_true q576; go_upto_region 5 with (first | ((with_reducible refine gate_dst (N := 11) rfl ?_); refine box_event ?hg (N := 11) ?hd (cs := #[.int .i64 0, .int .i64 0, .int .i64 0, .int .i64 0, .int .i64 0, .int .i64 0, .slice none 0 0]) (t := 174) ?hr ?_; (case hd => rfl); (case hg => rfl); (case hr => first | (go_simp; done) | (go_simp; rfl)); intro gb577 hg w15 hbox hb; have n0_ := Aside0.mk (Kd.R_below (by (with_reducible repeat (first | apply Kd.R_alloc | apply Kd.R_drewN | apply Kd.R_drew)); exact HO_9.out) hb); have n1_ := Aside0.mk (blk_below (g := gb571) (o := .cells #[.int .i64 a2_0, .slice (some ad576) l2_1.length c2_1] 39 (0, 0)) (by (with_reducible repeat (first | refine blk_drewN ?_ _ | refine blk_drew ?_ | refine blk_alloc ?_ _)); exact BK571.out) hb); have n2_ := Aside0.mk (blk_below (g := gb572) (o := .cells #[.int .i64 a3_0, .int .i64 a3_1, .int .i64 a3_2, .int .i64 a3_3, .int .i64 a3_4, .int .i64 a3_5] 41 (0, 0)) (by (with_reducible repeat (first | refine blk_drewN ?_ _ | refine blk_drew ?_ | refine blk_alloc ?_ _)); exact BK572.out) hb); have n3_ := Aside0.mk (below_step (by repeat (first | (with_reducible first | exact HB.out | apply below_alloc | apply pw_below_drewN | apply below_drew1 | refine below_set ?_ GE571.out | refine below_set ?_ GE572.out) | exact HB.out)) hb); have n4_ := Aside0.mk (hbox); have n5_ := Aside0.mk ((by rw [hg]; exact (below_size (by repeat (first | (with_reducible first | exact HB.out | apply below_alloc | apply pw_below_drewN | apply below_drew1 | refine below_set ?_ GE571.out | refine below_set ?_ GE572.out) | exact HB.out))) : w.heap.size ≤ gb577)); have n6_ := Aside0.mk ((by rw [hg]; exact (below_size (by repeat (first | (with_reducible first | exact HB.out | apply below_alloc | apply pw_below_drewN | apply below_drew1 | refine below_set ?_ GE571.out | refine below_set ?_ GE572.out) | exact HB.out))) : w.heap.size ≤ gb577)); have n7_ := Aside0.mk ((by rw [hg]; exact Nat.ne_of_lt (blk_lt (g := gb571) (o := .cells #[.int .i64 a2_0, .slice (some ad576) l2_1.length c2_1] 39 (0, 0)) (by (with_reducible repeat (first | refine blk_drewN ?_ _ | refine blk_drew ?_ | refine blk_alloc ?_ _)); exact BK571.out)) : gb571 ≠ gb577)); have n8_ := Aside0.mk ((by rw [hg]; exact Nat.ne_of_gt (blk_lt (g := gb571) (o := .cells #[.int .i64 a2_0, .slice (some ad576) l2_1.length c2_1] 39 (0, 0)) (by (with_reducible repeat (first | refine blk_drewN ?_ _ | refine blk_drew ?_ | refine blk_alloc ?_ _)); exact BK571.out)) : gb577 ≠ gb571)); have n9_ := Aside0.mk ((by rw [hg]; exact Nat.ne_of_lt (blk_lt (g := gb572) (o := .cells #[.int .i64 a3_0, .int .i64 a3_1, .int .i64 a3_2, .int .i64 a3_3, .int .i64 a3_4, .int .i64 a3_5] 41 (0, 0)) (by (with_reducible repeat (first | refine blk_drewN ?_ _ | refine blk_drew ?_ | refine blk_alloc ?_ _)); exact BK572.out)) : gb572 ≠ gb577)); have n10_ := Aside0.mk ((by rw [hg]; exact Nat.ne_of_gt (blk_lt (g := gb572) (o := .cells #[.int .i64 a3_0, .int .i64 a3_1, .int .i64 a3_2, .int .i64 a3_3, .int .i64 a3_4, .int .i64 a3_5] 41 (0, 0)) (by (with_reducible repeat (first | refine blk_drewN ?_ _ | refine blk_drew ?_ | refine blk_alloc ?_ _)); exact BK572.out)) : gb577 ≠ gb572)); clear HO_9; clear BK571; clear BK572; clear HB; have HO_9 := n0_; have BK571 := n1_; have BK572 := n2_; have HB := n3_; have BK577 := n4_; have GW577 := n5_; have GE577 := n6_; have NB571_577 := n7_; have NB577_571 := n8_; have NB572_577 := n9_; have NB577_572 := n10_; clear n0_ n1_ n2_ n3_ n4_ n5_ n6_ n7_ n8_ n9_ n10_; clear hb hbox hg; have hnb16 := NB577_571.out; have hnc16 := NB571_577.out; have hnb17 := NB577_572.out; have hnc17 := NB572_577.out; have hcz18_0 : w15.cell? ⟨gb577, 0, none⟩ = some (.int .i64 0) := (blk_cell BK577.out 0).trans rfl; have hcz18_1 : w15.cell? ⟨gb577, 1, none⟩ = some (.int .i64 0) := (blk_cell BK577.out 1).trans rfl; have hcz18_2 : w15.cell? ⟨gb577, 2, none⟩ = some (.int .i64 0) := (blk_cell BK577.out 2).trans rfl; have hcz18_3 : w15.cell? ⟨gb577, 3, none⟩ = some (.int .i64 0) := (blk_cell BK577.out 3).trans rfl; have hcz18_4 : w15.cell? ⟨gb577, 4, none⟩ = some (.int .i64 0) := (blk_cell BK577.out 4).trans rfl; have hcz18_5 : w15.cell? ⟨gb577, 5, none⟩ = some (.int .i64 0) := (blk_cell BK577.out 5).trans rfl; have hcz18_6 : w15.cell? ⟨gb577, 6, none⟩ = some (.slice none 0 0) := (blk_cell BK577.out 6).trans rfl; have hfz18_0 := blk_frozen BK577.out 0; have hfz18_1 := blk_frozen BK577.out 1; have hfz18_2 := blk_frozen BK577.out 2; have hfz18_3 := blk_frozen BK577.out 3; have hfz18_4 := blk_frozen BK577.out 4; have hfz18_5 := blk_frozen BK577.out 5; have hfz18_6 := blk_frozen BK577.out 6))
   (try simp only [Act.put, List.setIfInBounds_toArray, List.set_cons_zero, List.set_cons_succ]); go_cut [34] (fun v34 wc => ∃ (kq : Nat) (x34_13 : Bool), v34 = .bool x34_13 ∧ Aside0 (impl_RulesThatHold.j1 kq l0 l1 x9_1 x16_1 l2_1 (l2_1.length : Int) x16_1 x34_13 a3_0 a3_1 a3_2 a3_3 a3_4 a3_5 = some r) ∧ Aside0 (kq ≤ k1) ∧ Aside0 (Kd.R (Kd.int .i64) 3 wc w.heap.size (fun _ => True) u9 x9_1) ∧ Aside0 (wc.heap[gb571]? = some (.cells #[.int .i64 a2_0, (.slice (some ad576) l2_1.length c2_1)] 39 (0, 0))) ∧ Aside0 (wc.heap[gb572]? = some (.cells #[.int .i64 a3_0, .int .i64 a3_1, .int .i64 a3_2, .int .i64 a3_3, .int .i64 a3_4, .int .i64 a3_5] 41 (0, 0))) ∧ Aside0 (wc.heap[gb577]? = some (.cells #[.int .i64 ((rd_T174 l2_1 x16_1).f0), .int .i64 ((rd_T174 l2_1 x16_1).f1), .int .i64 ((rd_T174 l2_1 x16_1).f2), .int .i64 ((rd_T174 l2_1 x16_1).f3.f0), .int .i64 ((rd_T174 l2_1 x16_1).f3.f1), .int .i64 ((rd_T174 l2_1 x16_1).f3.f2), (.slice A576_6 ((rd_T174 l2_1 x16_1).f3.f3).length c576_6)] 174 (0, 0))) ∧ Aside0 (Below w.heap.size w wc))
   case first =>
    have H := HC14.out; clear HC14; replace H := obs H; obtain ⟨t578, A190, H⟩ := H; replace H : (if t578 = true then ((impl_EvalCond.f k1 l0 l1 ((rd_T174 l2_1 x16_1).f3.f0) ((rd_T174 l2_1 x16_1).f3.f1) ((rd_T174 l2_1 x16_1).f3.f2) ((rd_T174 l2_1 x16_1).f3.f3) a3_0 a3_1 a3_2 a3_3 a3_4 a3_5).bind fun t579 => (impl_RulesThatHold.j1 k1 l0 l1 x9_1 x16_1 l2_1 (l2_1.length : Int) x16_1 t579 a3_0 a3_1 a3_2 a3_3 a3_4 a3_5)) else (impl_RulesThatHold.j1 k1 l0 l1 x9_1 x16_1 l2_1 (l2_1.length : Int) x16_1 false a3_0 a3_1 a3_2 a3_3 a3_4 a3_5)) = some r := H; have A19 := Aside0.mk A190; clear A190; by_cases c20 : t578 = true
    rotate_left
    ·replace c20 := Bool.eq_false_iff.mpr c20; subst c20; have H1 : (impl_RulesThatHold.j1 k1 l0 l1 x9_1 x16_1 l2_1 (l2_1.length : Int) x16_1 false a3_0 a3_1 a3_2 a3_3 a3_4 a3_5) = some r := by rw [if_neg (show ¬ (false = true) by decide)] at H; exact H
     clear H; have H := H1; clear H1; have H' := Aside0.mk H; clear H; have hnb31 := NB577_571.out; have hnc31 := NB571_577.out; have hnb32 := NB577_572.out; have hnc32 := NB572_577.out; have hcz33_0 : w15.cell? ⟨gb577, 0, none⟩ = some (.int .i64 0) := (blk_cell BK577.out 0).trans rfl; have hcz33_1 : w15.cell? ⟨gb577, 1, none⟩ = some (.int .i64 0) := (blk_cell BK577.out 1).trans rfl; have hcz33_2 : w15.cell? ⟨gb577, 2, none⟩ = some (.int .i64 0) := (blk_cell BK577.out 2).trans rfl; have hcz33_3 : w15.cell? ⟨gb577, 3, none⟩ = some (.int .i64 0) := (blk_cell BK577.out 3).trans rfl; have hcz33_4 : w15.cell? ⟨gb577, 4, none⟩ = some (.int .i64 0) := (blk_cell BK577.out 4).trans rfl; have hcz33_5 : w15.cell? ⟨gb577, 5, none⟩ = some (.int .i64 0) := (blk_cell BK577.out 5).trans rfl; have hcz33_6 : w15.cell? ⟨gb577, 6, none⟩ = some (.slice none 0 0) := (blk_cell BK577.out 6).trans rfl; have hfz33_0 := blk_frozen BK577.out 0; have hfz33_1 := blk_frozen BK577.out 1; have hfz33_2 := blk_frozen BK577.out 2; have hfz33_3 := blk_frozen BK577.out 3; have hfz33_4 := blk_frozen BK577.out 4; have hfz33_5 := blk_frozen BK577.out 5; have hfz33_6 := blk_frozen BK577.out 6; have hnb34 := NB572_571.out; have hnc34 := NB571_572.out; have hcz35_0 : w15.cell? ⟨gb572, 0, none⟩ = some (.int .i64 a3_0) := (blk_cell BK572.out 0).trans rfl; have hcz35_1 : w15.cell? ⟨gb572, 1, none⟩ = some (.int .i64 a3_1) := (blk_cell BK572.out 1).trans rfl; have hcz35_2 : w15.cell? ⟨gb572, 2, none⟩ = some (.int .i64 a3_2) := (blk_cell BK572.out 2).trans rfl; have hcz35_3 : w15.cell? ⟨gb572, 3, none⟩ = some (.int .i64 a3_3) := (blk_cell BK572.out 3).trans rfl; have hcz35_4 : w15.cell? ⟨gb572, 4, none⟩ = some (.int .i64 a3_4) := (blk_cell BK572.out 4).trans rfl; have hcz35_5 : w15.cell? ⟨gb572, 5, none⟩ = some (.int .i64 a3_5) := (blk_cell BK572.out 5).trans rfl; have hfz35_0 := blk_frozen BK572.out 0; have hfz35_1 := blk_frozen BK572.out 1; have hfz35_2 := blk_frozen BK572.out 2; have hfz35_3 := blk_frozen BK572.out 3; have hfz35_4 := blk_frozen BK572.out 4; have hfz35_5 := blk_frozen BK572.out 5; go_wp2_with (first | ((with_reducible refine gate_callee (f := 234) rfl ?_); refine goesL_ (some 26) rfl rfl Tryz.func234 (by kernel_rfl) rfl #[.agg #[.int .i64 ((rd_T174 l2_1 x16_1).f0), .int .i64 ((rd_T174 l2_1 x16_1).f1), .int .i64 ((rd_T174 l2_1 x16_1).f2), .int .i64 ((rd_T174 l2_1 x16_1).f3.f0), .int .i64 ((rd_T174 l2_1 x16_1).f3.f1), .int .i64 ((rd_T174 l2_1 x16_1).f3.f2), .slice A576_6 ((rd_T174 l2_1 x16_1).f3.f3).length c576_6], .int .i64 a3_3, .int .i64 a3_4] rfl (by (try simp only [List.map_toArray, List.map_cons, List.map_nil]); first | done | rfl | (simp only [List.length_drop, List.length_take]; rfl)) ?_; (with_reducible refine (impl_IsFor.calls ((rd_T174 l2_1 x16_1).f0) ((rd_T174 l2_1 x16_1).f1) ((rd_T174 l2_1 x16_1).f2) ((rd_T174 l2_1 x16_1).f3.f0) ((rd_T174 l2_1 x16_1).f3.f1) ((rd_T174 l2_1 x16_1).f3.f2) _ _ ((rd_T174 l2_1 x16_1).f3.f3) a3_3 a3_4 false _ ?side1 ?side2 A19.out).mono ?_); (case side1 => exact Kd.C_below HR576_6.out (by repeat (first | (with_reducible first | exact HB.out | apply below_alloc | apply pw_below_drewN | apply below_drew1 | refine below_set ?_ GE571.out | refine below_set ?_ GE572.out | refine below_set ?_ GE577.out) | exact HB.out))); (case side2 => exact HC576_6.out); rintro e w36 ⟨rfl, hb⟩; refine ⟨_, rfl, ?_⟩; have n0_ := Aside0.mk (Kd.R_below (by (with_reducible repeat (first | apply Kd.R_alloc | apply Kd.R_drewN | apply Kd.R_drew)); exact (Kd.R_mono (Kd.R_far (p := ⟨gb577, 6, none⟩) (Kd.R_far (p := ⟨gb577, 5, none⟩) (Kd.R_far (p := ⟨gb577, 4, none⟩) (Kd.R_far (p := ⟨gb577, 3, none⟩) (Kd.R_far (p := ⟨gb577, 2, none⟩) (Kd.R_far (p := ⟨gb577, 1, none⟩) (Kd.R_far (p := ⟨gb577, 0, none⟩) (Kd.R_types HO_9.out BK577.out (by decide)) (fun _ hk => hk.2) (.int .i64 ((rd_T174 l2_1 x16_1).f0))) (fun _ hk => hk.2) (.int .i64 ((rd_T174 l2_1 x16_1).f1))) (fun _ hk => hk.2) (.int .i64 ((rd_T174 l2_1 x16_1).f2))) (fun _ hk => hk.2) (.int .i64 ((rd_T174 l2_1 x16_1).f3.f0))) (fun _ hk => hk.2) (.int .i64 ((rd_T174 l2_1 x16_1).f3.f1))) (fun _ hk => hk.2) (.int .i64 ((rd_T174 l2_1 x16_1).f3.f2))) (fun _ hk => hk.2) (.slice A576_6 ((rd_T174 l2_1 x16_1).f3.f3).length c576_6)) (fun _ h_ => h_.1))) hb); have n1_ := Aside0.mk (blk_below (g := gb571) (o := .cells #[.int .i64 a2_0, .slice (some ad576) l2_1.length c2_1] 39 (0, 0)) (by (with_reducible repeat (first | refine blk_drewN ?_ _ | refine blk_drew ?_ | refine blk_alloc ?_ _)); refine blk_far ?_ NB571_577.out _; (with_reducible repeat (first | refine blk_drewN ?_ _ | refine blk_drew ?_ | refine blk_alloc ?_ _)); refine blk_far ?_ NB571_577.out _; (with_reducible repeat (first | refine blk_drewN ?_ _ | refine blk_drew ?_ | refine blk_alloc ?_ _)); refine blk_far ?_ NB571_577.out _; (with_reducible repeat (first | refine blk_drewN ?_ _ | refine blk_drew ?_ | refine blk_alloc ?_ _)); refine blk_far ?_ NB571_577.out _; (with_reducible repeat (first | refine blk_drewN ?_ _ | refine blk_drew ?_ | refine blk_alloc ?_ _)); refine blk_far ?_ NB571_577.out _; (with_reducible repeat (first | refine blk_drewN ?_ _ | refine blk_drew ?_ | refine blk_alloc ?_ _)); refine blk_far ?_ NB571_577.out _; (with_reducible repeat (first | refine blk_drewN ?_ _ | refine blk_drew ?_ | refine blk_alloc ?_ _)); refine blk_far ?_ NB571_577.out _; (with_reducible repeat (first | refine blk_drewN ?_ _ | refine blk_drew ?_ | refine blk_alloc ?_ _)); exact BK571.out) hb); have n2_ := Aside0.mk (blk_below (g := gb572) (o := .cells #[.int .i64 a3_0, .int .i64 a3_1, .int .i64 a3_2, .int .i64 a3_3, .int .i64 a3_4, .int .i64 a3_5] 41 (0, 0)) (by (with_reducible repeat (first | refine blk_drewN ?_ _ | refine blk_drew ?_ | refine blk_alloc ?_ _)); refine blk_far ?_ NB572_577.out _; (with_reducible repeat (first | refine blk_drewN ?_ _ | refine blk_drew ?_ | refine blk_alloc ?_ _)); refine blk_far ?_ NB572_577.out _; (with_reducible repeat (first | refine blk_drewN ?_ _ | refine blk_drew ?_ | refine blk_alloc ?_ _)); refine blk_far ?_ NB572_577.out _; (with_reducible repeat (first | refine blk_drewN ?_ _ | refine blk_drew ?_ | refine blk_alloc ?_ _)); refine blk_far ?_ NB572_577.out _; (with_reducible repeat (first | refine blk_drewN ?_ _ | refine blk_drew ?_ | refine blk_alloc ?_ _)); refine blk_far ?_ NB572_577.out _; (with_reducible repeat (first | refine blk_drewN ?_ _ | refine blk_drew ?_ | refine blk_alloc ?_ _)); refine blk_far ?_ NB572_577.out _; (with_reducible repeat (first | refine blk_drewN ?_ _ | refine blk_drew ?_ | refine blk_alloc ?_ _)); refine blk_far ?_ NB572_577.out _; (with_reducible repeat (first | refine blk_drewN ?_ _ | refine blk_drew ?_ | refine blk_alloc ?_ _)); exact BK572.out) hb); have n3_ := Aside0.mk (blk_below (g := gb577) (o := .cells #[.int .i64 ((rd_T174 l2_1 x16_1).f0), .int .i64 ((rd_T174 l2_1 x16_1).f1), .int .i64 ((rd_T174 l2_1 x16_1).f2), .int .i64 ((rd_T174 l2_1 x16_1).f3.f0), .int .i64 ((rd_T174 l2_1 x16_1).f3.f1), .int .i64 ((rd_T174 l2_1 x16_1).f3.f2), .slice A576_6 ((rd_T174 l2_1 x16_1).f3.f3).length c576_6] 174 (0, 0)) (by (with_reducible repeat (first | refine blk_drewN ?_ _ | refine blk_drew ?_ | refine blk_alloc ?_ _)); refine blk_put (cs := #[.int .i64 ((rd_T174 l2_1 x16_1).f0), .int .i64 ((rd_T174 l2_1 x16_1).f1), .int .i64 ((rd_T174 l2_1 x16_1).f2), .int .i64 ((rd_T174 l2_1 x16_1).f3.f0), .int .i64 ((rd_T174 l2_1 x16_1).f3.f1), .int .i64 ((rd_T174 l2_1 x16_1).f3.f2), .slice none 0 0]) ?_ 6 _ rfl; (with_reducible repeat (first | refine blk_drewN ?_ _ | refine blk_drew ?_ | refine blk_alloc ?_ _)); refine blk_put (cs := #[.int .i64 ((rd_T174 l2_1 x16_1).f0), .int .i64 ((rd_T174 l2_1 x16_1).f1), .int .i64 ((rd_T174 l2_1 x16_1).f2), .int .i64 ((rd_T174 l2_1 x16_1).f3.f0), .int .i64 ((rd_T174 l2_1 x16_1).f3.f1), .int .i64 0, .slice none 0 0]) ?_ 5 _ rfl; (with_reducible repeat (first | refine blk_drewN ?_ _ | refine blk_drew ?_ | refine blk_alloc ?_ _)); refine blk_put (cs := #[.int .i64 ((rd_T174 l2_1 x16_1).f0), .int .i64 ((rd_T174 l2_1 x16_1).f1), .int .i64 ((rd_T174 l2_1 x16_1).f2), .int .i64 ((rd_T174 l2_1 x16_1).f3.f0), .int .i64 0, .int .i64 0, .slice none 0 0]) ?_ 4 _ rfl; (with_reducible repeat (first | refine blk_drewN ?_ _ | refine blk_drew ?_ | refine blk_alloc ?_ _)); refine blk_put (cs := #[.int .i64 ((rd_T174 l2_1 x16_1).f0), .int .i64 ((rd_T174 l2_1 x16_1).f1), .int .i64 ((rd_T174 l2_1 x16_1).f2), .int .i64 0, .int .i64 0, .int .i64 0, .slice none 0 0]) ?_ 3 _ rfl; (with_reducible repeat (first | refine blk_drewN ?_ _ | refine blk_drew ?_ | refine blk_alloc ?_ _)); refine blk_put (cs := #[.int .i64 ((rd_T174 l2_1 x16_1).f0), .int .i64 ((rd_T174 l2_1 x16_1).f1), .int .i64 0, .int .i64 0, .int .i64 0, .int .i64 0, .slice none 0 0]) ?_ 2 _ rfl; (with_reducible repeat (first | refine blk_drewN ?_ _ | refine blk_drew ?_ | refine blk_alloc ?_ _)); refine blk_put (cs := #[.int .i64 ((rd_T174 l2_1 x16_1).f0), .int .i64 0, .int .i64 0, .int .i64 0, .int .i64 0, .int .i64 0, .slice none 0 0]) ?_ 1 _ rfl; (with_reducible repeat (first | refine blk_drewN ?_ _ | refine blk_drew ?_ | refine blk_alloc ?_ _)); refine blk_put (cs := #[.int .i64 0, .int .i64 0, .int .i64 0, .int .i64 0, .int .i64 0, .int .i64 0, .slice none 0 0]) ?_ 0 _ rfl; (with_reducible repeat (first | refine blk_drewN ?_ _ | refine blk_drew ?_ | refine blk_alloc ?_ _)); exact BK577.out) hb); have n4_ := Aside0.mk (below_step (by repeat (first | (with_reducible first | exact HB.out | apply below_alloc | apply pw_below_drewN | apply below_drew1 | refine below_set ?_ GE571.out | refine below_set ?_ GE572.out | refine below_set ?_ GE577.out) | exact HB.out)) hb); clear HO_9; clear BK571; clear BK572; clear BK577; clear HB; have HO_9 := n0_; have BK571 := n1_; have BK572 := n2_; have BK577 := n3_; have HB := n4_; clear n0_ n1_ n2_ n3_ n4_; (try clear hb); (try clear hb2); (try clear hk); (try clear hi)))
     go_meet
     case rel => exact ⟨_, (false), (by first | rfl | (simp; done) | (simp [*]; done)), H', ⟨by have := HK1.out; first | omega | exact Nat.le_refl _⟩, ⟨by (with_reducible repeat (first | apply Kd.R_alloc | apply Kd.R_drewN | apply Kd.R_drew)); exact HO_9.out⟩, ⟨by (with_reducible repeat (first | refine blk_drewN ?_ _ | refine blk_drew ?_ | refine blk_alloc ?_ _)); exact BK571.out⟩, ⟨by (with_reducible repeat (first | refine blk_drewN ?_ _ | refine blk_drew ?_ | refine blk_alloc ?_ _)); exact BK572.out⟩, ⟨by (with_reducible repeat (first | refine blk_drewN ?_ _ | refine blk_drew ?_ | refine blk_alloc ?_ _)); exact BK577.out⟩, ⟨by repeat (first | (with_reducible first | exact HB.out | apply below_alloc | apply pw_below_drewN | apply below_drew1 | refine below_set ?_ GE571.out | refine below_set ?_ GE572.out | refine below_set ?_ GE577.out) | exact HB.out)⟩⟩
    subst c20; have H1 : ((impl_EvalCond.f k1 l0 l1 ((rd_T174 l2_1 x16_1).f3.f0) ((rd_T174 l2_1 x16_1).f3.f1) ((rd_T174 l2_1 x16_1).f3.f2) ((rd_T174 l2_1 x16_1).f3.f3) a3_0 a3_1 a3_2 a3_3 a3_4 a3_5).bind fun t579 => (impl_RulesThatHold.j1 k1 l0 l1 x9_1 x16_1 l2_1 (l2_1.length : Int) x16_1 t579 a3_0 a3_1 a3_2 a3_3 a3_4 a3_5)) = some r := by rw [if_pos rfl] at H; exact H
    clear H; have H := H1; clear H1; replace H := obs H; obtain ⟨t579, A210, H⟩ := H; replace H : (impl_RulesThatHold.j1 k1 l0 l1 x9_1 x16_1 l2_1 (l2_1.length : Int) x16_1 t579 a3_0 a3_1 a3_2 a3_3 a3_4 a3_5) = some r := H; have A21 := Aside0.mk A210; clear A210; have H' := Aside0.mk H; clear H; have hnb22 := NB577_571.out; have hnc22 := NB571_577.out; have hnb23 := NB577_572.out; have hnc23 := NB572_577.out; have hcz24_0 : w15.cell? ⟨gb577, 0, none⟩ = some (.int .i64 0) := (blk_cell BK577.out 0).trans rfl; have hcz24_1 : w15.cell? ⟨gb577, 1, none⟩ = some (.int .i64 0) := (blk_cell BK577.out 1).trans rfl; have hcz24_2 : w15.cell? ⟨gb577, 2, none⟩ = some (.int .i64 0) := (blk_cell BK577.out 2).trans rfl; have hcz24_3 : w15.cell? ⟨gb577, 3, none⟩ = some (.int .i64 0) := (blk_cell BK577.out 3).trans rfl; have hcz24_4 : w15.cell? ⟨gb577, 4, none⟩ = some (.int .i64 0) := (blk_cell BK577.out 4).trans rfl; have hcz24_5 : w15.cell? ⟨gb577, 5, none⟩ = some (.int .i64 0) := (blk_cell BK577.out 5).trans rfl; have hcz24_6 : w15.cell? ⟨gb577, 6, none⟩ = some (.slice none 0 0) := (blk_cell BK577.out 6).trans rfl; have hfz24_0 := blk_frozen BK577.out 0; have hfz24_1 := blk_frozen BK577.out 1; have hfz24_2 := blk_frozen BK577.out 2; have hfz24_3 := blk_frozen BK577.out 3; have hfz24_4 := blk_frozen BK577.out 4; have hfz24_5 := blk_frozen BK577.out 5; have hfz24_6 := blk_frozen BK577.out 6; have hnb25 := NB572_571.out; have hnc25 := NB571_572.out; have hcz26_0 : w15.cell? ⟨gb572, 0, none⟩ = some (.int .i64 a3_0) := (blk_cell BK572.out 0).trans rfl; have hcz26_1 : w15.cell? ⟨gb572, 1, none⟩ = some (.int .i64 a3_1) := (blk_cell BK572.out 1).trans rfl; have hcz26_2 : w15.cell? ⟨gb572, 2, none⟩ = some (.int .i64 a3_2) := (blk_cell BK572.out 2).trans rfl; have hcz26_3 : w15.cell? ⟨gb572, 3, none⟩ = some (.int .i64 a3_3) := (blk_cell BK572.out 3).trans rfl; have hcz26_4 : w15.cell? ⟨gb572, 4, none⟩ = some (.int .i64 a3_4) := (blk_cell BK572.out 4).trans rfl; have hcz26_5 : w15.cell? ⟨gb572, 5, none⟩ = some (.int .i64 a3_5) := (blk_cell BK572.out 5).trans rfl; have hfz26_0 := blk_frozen BK572.out 0; have hfz26_1 := blk_frozen BK572.out 1; have hfz26_2 := blk_frozen BK572.out 2; have hfz26_3 := blk_frozen BK572.out 3; have hfz26_4 := blk_frozen BK572.out 4; have hfz26_5 := blk_frozen BK572.out 5; go_wp2_with (first | ((with_reducible refine gate_callee (f := 234) rfl ?_); refine goesL_ (some 26) rfl rfl Tryz.func234 (by kernel_rfl) rfl #[.agg #[.int .i64 ((rd_T174 l2_1 x16_1).f0), .int .i64 ((rd_T174 l2_1 x16_1).f1), .int .i64 ((rd_T174 l2_1 x16_1).f2), .int .i64 ((rd_T174 l2_1 x16_1).f3.f0), .int .i64 ((rd_T174 l2_1 x16_1).f3.f1), .int .i64 ((rd_T174 l2_1 x16_1).f3.f2), .slice A576_6 ((rd_T174 l2_1 x16_1).f3.f3).length c576_6], .int .i64 a3_3, .int .i64 a3_4] rfl (by (try simp only [List.map_toArray, List.map_cons, List.map_nil]); first | done | rfl | (simp only [List.length_drop, List.length_take]; rfl)) ?_; (with_reducible refine (impl_IsFor.calls ((rd_T174 l2_1 x16_1).f0) ((rd_T174 l2_1 x16_1).f1) ((rd_T174 l2_1 x16_1).f2) ((rd_T174 l2_1 x16_1).f3.f0) ((rd_T174 l2_1 x16_1).f3.f1) ((rd_T174 l2_1 x16_1).f3.f2) _ _ ((rd_T174 l2_1 x16_1).f3.f3) a3_3 a3_4 true _ ?side1 ?side2 A19.out).mono ?_); (case side1 => exact Kd.C_below HR576_6.out (by repeat (first | (with_reducible first | exact HB.out | apply below_alloc | apply pw_below_drewN | apply below_drew1 | refine below_set ?_ GE571.out | refine below_set ?_ GE572.out | refine below_set ?_ GE577.out) | exact HB.out))); (case side2 => exact HC576_6.out); rintro e w27 ⟨rfl, hb⟩; refine ⟨_, rfl, ?_⟩; have n0_ := Aside0.mk (Kd.R_below (by (with_reducible repeat (first | apply Kd.R_alloc | apply Kd.R_drewN | apply Kd.R_drew)); exact (Kd.R_mono (Kd.R_far (p := ⟨gb577, 6, none⟩) (Kd.R_far (p := ⟨gb577, 5, none⟩) (Kd.R_far (p := ⟨gb577, 4, none⟩) (Kd.R_far (p := ⟨gb577, 3, none⟩) (Kd.R_far (p := ⟨gb577, 2, none⟩) (Kd.R_far (p := ⟨gb577, 1, none⟩) (Kd.R_far (p := ⟨gb577, 0, none⟩) (Kd.R_types HO_9.out BK577.out (by decide)) (fun _ hk => hk.2) (.int .i64 ((rd_T174 l2_1 x16_1).f0))) (fun _ hk => hk.2) (.int .i64 ((rd_T174 l2_1 x16_1).f1))) (fun _ hk => hk.2) (.int .i64 ((rd_T174 l2_1 x16_1).f2))) (fun _ hk => hk.2) (.int .i64 ((rd_T174 l2_1 x16_1).f3.f0))) (fun _ hk => hk.2) (.int .i64 ((rd_T174 l2_1 x16_1).f3.f1))) (fun _ hk => hk.2) (.int .i64 ((rd_T174 l2_1 x16_1).f3.f2))) (fun _ hk => hk.2) (.slice A576_6 ((rd_T174 l2_1 x16_1).f3.f3).length c576_6)) (fun _ h_ => h_.1))) hb); have n1_ := Aside0.mk (blk_below (g := gb571) (o := .cells #[.int .i64 a2_0, .slice (some ad576) l2_1.length c2_1] 39 (0, 0)) (by (with_reducible repeat (first | refine blk_drewN ?_ _ | refine blk_drew ?_ | refine blk_alloc ?_ _)); refine blk_far ?_ NB571_577.out _; (with_reducible repeat (first | refine blk_drewN ?_ _ | refine blk_drew ?_ | refine blk_alloc ?_ _)); refine blk_far ?_ NB571_577.out _; (with_reducible repeat (first | refine blk_drewN ?_ _ | refine blk_drew ?_ | refine blk_alloc ?_ _)); refine blk_far ?_ NB571_577.out _; (with_reducible repeat (first | refine blk_drewN ?_ _ | refine blk_drew ?_ | refine blk_alloc ?_ _)); refine blk_far ?_ NB571_577.out _; (with_reducible repeat (first | refine blk_drewN ?_ _ | refine blk_drew ?_ | refine blk_alloc ?_ _)); refine blk_far ?_ NB571_577.out _; (with_reducible repeat (first | refine blk_drewN ?_ _ | refine blk_drew ?_ | refine blk_alloc ?_ _)); refine blk_far ?_ NB571_577.out _; (with_reducible repeat (first | refine blk_drewN ?_ _ | refine blk_drew ?_ | refine blk_alloc ?_ _)); refine blk_far ?_ NB571_577.out _; (with_reducible repeat (first | refine blk_drewN ?_ _ | refine blk_drew ?_ | refine blk_alloc ?_ _)); exact BK571.out) hb); have n2_ := Aside0.mk (blk_below (g := gb572) (o := .cells #[.int .i64 a3_0, .int .i64 a3_1, .int .i64 a3_2, .int .i64 a3_3, .int .i64 a3_4, .int .i64 a3_5] 41 (0, 0)) (by (with_reducible repeat (first | refine blk_drewN ?_ _ | refine blk_drew ?_ | refine blk_alloc ?_ _)); refine blk_far ?_ NB572_577.out _; (with_reducible repeat (first | refine blk_drewN ?_ _ | refine blk_drew ?_ | refine blk_alloc ?_ _)); refine blk_far ?_ NB572_577.out _; (with_reducible repeat (first | refine blk_drewN ?_ _ | refine blk_drew ?_ | refine blk_alloc ?_ _)); refine blk_far ?_ NB572_577.out _; (with_reducible repeat (first | refine blk_drewN ?_ _ | refine blk_drew ?_ | refine blk_alloc ?_ _)); refine blk_far ?_ NB572_577.out _; (with_reducible repeat (first | refine blk_drewN ?_ _ | refine blk_drew ?_ | refine blk_alloc ?_ _)); refine blk_far ?_ NB572_577.out _; (with_reducible repeat (first | refine blk_drewN ?_ _ | refine blk_drew ?_ | refine blk_alloc ?_ _)); refine blk_far ?_ NB572_577.out _; (with_reducible repeat (first | refine blk_drewN ?_ _ | refine blk_drew ?_ | refine blk_alloc ?_ _)); refine blk_far ?_ NB572_577.out _; (with_reducible repeat (first | refine blk_drewN ?_ _ | refine blk_drew ?_ | refine blk_alloc ?_ _)); exact BK572.out) hb); have n3_ := Aside0.mk (blk_below (g := gb577) (o := .cells #[.int .i64 ((rd_T174 l2_1 x16_1).f0), .int .i64 ((rd_T174 l2_1 x16_1).f1), .int .i64 ((rd_T174 l2_1 x16_1).f2), .int .i64 ((rd_T174 l2_1 x16_1).f3.f0), .int .i64 ((rd_T174 l2_1 x16_1).f3.f1), .int .i64 ((rd_T174 l2_1 x16_1).f3.f2), .slice A576_6 ((rd_T174 l2_1 x16_1).f3.f3).length c576_6] 174 (0, 0)) (by (with_reducible repeat (first | refine blk_drewN ?_ _ | refine blk_drew ?_ | refine blk_alloc ?_ _)); refine blk_put (cs := #[.int .i64 ((rd_T174 l2_1 x16_1).f0), .int .i64 ((rd_T174 l2_1 x16_1).f1), .int .i64 ((rd_T174 l2_1 x16_1).f2), .int .i64 ((rd_T174 l2_1 x16_1).f3.f0), .int .i64 ((rd_T174 l2_1 x16_1).f3.f1), .int .i64 ((rd_T174 l2_1 x16_1).f3.f2), .slice none 0 0]) ?_ 6 _ rfl; (with_reducible repeat (first | refine blk_drewN ?_ _ | refine blk_drew ?_ | refine blk_alloc ?_ _)); refine blk_put (cs := #[.int .i64 ((rd_T174 l2_1 x16_1).f0), .int .i64 ((rd_T174 l2_1 x16_1).f1), .int .i64 ((rd_T174 l2_1 x16_1).f2), .int .i64 ((rd_T174 l2_1 x16_1).f3.f0), .int .i64 ((rd_T174 l2_1 x16_1).f3.f1), .int .i64 0, .slice none 0 0]) ?_ 5 _ rfl; (with_reducible repeat (first | refine blk_drewN ?_ _ | refine blk_drew ?_ | refine blk_alloc ?_ _)); refine blk_put (cs := #[.int .i64 ((rd_T174 l2_1 x16_1).f0), .int .i64 ((rd_T174 l2_1 x16_1).f1), .int .i64 ((rd_T174 l2_1 x16_1).f2), .int .i64 ((rd_T174 l2_1 x16_1).f3.f0), .int .i64 0, .int .i64 0, .slice none 0 0]) ?_ 4 _ rfl; (with_reducible repeat (first | refine blk_drewN ?_ _ | refine blk_drew ?_ | refine blk_alloc ?_ _)); refine blk_put (cs := #[.int .i64 ((rd_T174 l2_1 x16_1).f0), .int .i64 ((rd_T174 l2_1 x16_1).f1), .int .i64 ((rd_T174 l2_1 x16_1).f2), .int .i64 0, .int .i64 0, .int .i64 0, .slice none 0 0]) ?_ 3 _ rfl; (with_reducible repeat (first | refine blk_drewN ?_ _ | refine blk_drew ?_ | refine blk_alloc ?_ _)); refine blk_put (cs := #[.int .i64 ((rd_T174 l2_1 x16_1).f0), .int .i64 ((rd_T174 l2_1 x16_1).f1), .int .i64 0, .int .i64 0, .int .i64 0, .int .i64 0, .slice none 0 0]) ?_ 2 _ rfl; (with_reducible repeat (first | refine blk_drewN ?_ _ | refine blk_drew ?_ | refine blk_alloc ?_ _)); refine blk_put (cs := #[.int .i64 ((rd_T174 l2_1 x16_1).f0), .int .i64 0, .int .i64 0, .int .i64 0, .int .i64 0, .int .i64 0, .slice none 0 0]) ?_ 1 _ rfl; (with_reducible repeat (first | refine blk_drewN ?_ _ | refine blk_drew ?_ | refine blk_alloc ?_ _)); refine blk_put (cs := #[.int .i64 0, .int .i64 0, .int .i64 0, .int .i64 0, .int .i64 0, .int .i64 0, .slice none 0 0]) ?_ 0 _ rfl; (with_reducible repeat (first | refine blk_drewN ?_ _ | refine blk_drew ?_ | refine blk_alloc ?_ _)); exact BK577.out) hb); have n4_ := Aside0.mk (below_step (by repeat (first | (with_reducible first | exact HB.out | apply below_alloc | apply pw_below_drewN | apply below_drew1 | refine below_set ?_ GE571.out | refine below_set ?_ GE572.out | refine below_set ?_ GE577.out) | exact HB.out)) hb); clear HO_9; clear BK571; clear BK572; clear BK577; clear HB; have HO_9 := n0_; have BK571 := n1_; have BK572 := n2_; have BK577 := n3_; have HB := n4_; clear n0_ n1_ n2_ n3_ n4_; (try clear hb); (try clear hb2); (try clear hk); (try clear hi); have hcz28_0 : w27.cell? ⟨gb577, 0, none⟩ = some (.int .i64 ((rd_T174 l2_1 x16_1).f0)) := (blk_cell BK577.out 0).trans rfl; have hcz28_1 : w27.cell? ⟨gb577, 1, none⟩ = some (.int .i64 ((rd_T174 l2_1 x16_1).f1)) := (blk_cell BK577.out 1).trans rfl; have hcz28_2 : w27.cell? ⟨gb577, 2, none⟩ = some (.int .i64 ((rd_T174 l2_1 x16_1).f2)) := (blk_cell BK577.out 2).trans rfl; have hcz28_3 : w27.cell? ⟨gb577, 3, none⟩ = some (.int .i64 ((rd_T174 l2_1 x16_1).f3.f0)) := (blk_cell BK577.out 3).trans rfl; have hcz28_4 : w27.cell? ⟨gb577, 4, none⟩ = some (.int .i64 ((rd_T174 l2_1 x16_1).f3.f1)) := (blk_cell BK577.out 4).trans rfl; have hcz28_5 : w27.cell? ⟨gb577, 5, none⟩ = some (.int .i64 ((rd_T174 l2_1 x16_1).f3.f2)) := (blk_cell BK577.out 5).trans rfl; have hcz28_6 : w27.cell? ⟨gb577, 6, none⟩ = some (.slice A576_6 ((rd_T174 l2_1 x16_1).f3.f3).length c576_6) := (blk_cell BK577.out 6).trans rfl; have hfz28_0 := blk_frozen BK577.out 0; have hfz28_1 := blk_frozen BK577.out 1; have hfz28_2 := blk_frozen BK577.out 2; have hfz28_3 := blk_frozen BK577.out 3; have hfz28_4 := blk_frozen BK577.out 4; have hfz28_5 := blk_frozen BK577.out 5; have hfz28_6 := blk_frozen BK577.out 6; have hcz29_0 : w27.cell? ⟨gb572, 0, none⟩ = some (.int .i64 a3_0) := (blk_cell BK572.out 0).trans rfl; have hcz29_1 : w27.cell? ⟨gb572, 1, none⟩ = some (.int .i64 a3_1) := (blk_cell BK572.out 1).trans rfl; have hcz29_2 : w27.cell? ⟨gb572, 2, none⟩ = some (.int .i64 a3_2) := (blk_cell BK572.out 2).trans rfl; have hcz29_3 : w27.cell? ⟨gb572, 3, none⟩ = some (.int .i64 a3_3) := (blk_cell BK572.out 3).trans rfl; have hcz29_4 : w27.cell? ⟨gb572, 4, none⟩ = some (.int .i64 a3_4) := (blk_cell BK572.out 4).trans rfl; have hcz29_5 : w27.cell? ⟨gb572, 5, none⟩ = some (.int .i64 a3_5) := (blk_cell BK572.out 5).trans rfl; have hfz29_0 := blk_frozen BK572.out 0; have hfz29_1 := blk_frozen BK572.out 1; have hfz29_2 := blk_frozen BK572.out 2; have hfz29_3 := blk_frozen BK572.out 3; have hfz29_4 := blk_frozen BK572.out 4; have hfz29_5 := blk_frozen BK572.out 5) | (go_at_call 235; (with_reducible refine (impl_EvalCond.calls k1 _ _ l0 _ _ l1 ((rd_T174 l2_1 x16_1).f3.f0) ((rd_T174 l2_1 x16_1).f3.f1) ((rd_T174 l2_1 x16_1).f3.f2) _ _ ((rd_T174 l2_1 x16_1).f3.f3) a3_0 a3_1 a3_2 a3_3 a3_4 a3_5 t579 _ ?side1 ?side2 ?side3 ?side4 ?side5 ?side6 A21.out).mono ?_); (case side1 => repeat (first | exact (Kd.C_below HR0.out HB.out) | (with_reducible refine Kd.C_alloc ?_ _) | (with_reducible refine Kd.C_drewN ?_ _) | (with_reducible refine Kd.C_drew ?_))); (case side2 => exact HC0.out); (case side3 => repeat (first | exact (Kd.C_below HR1.out HB.out) | (with_reducible refine Kd.C_alloc ?_ _) | (with_reducible refine Kd.C_drewN ?_ _) | (with_reducible refine Kd.C_drew ?_))); (case side4 => exact HC1.out); (case side5 => repeat (first | exact (Kd.C_below HR576_6.out HB.out) | (with_reducible refine Kd.C_alloc ?_ _) | (with_reducible refine Kd.C_drewN ?_ _) | (with_reducible refine Kd.C_drew ?_))); (case side6 => exact HC576_6.out); rintro e w30 ⟨rfl, hb⟩; have n0_ := Aside0.mk (Kd.R_below (by (with_reducible repeat (first | apply Kd.R_alloc | apply Kd.R_drewN | apply Kd.R_drew)); exact HO_9.out) hb); have n1_ := Aside0.mk (blk_below (g := gb571) (o := .cells #[.int .i64 a2_0, .slice (some ad576) l2_1.length c2_1] 39 (0, 0)) (by (with_reducible repeat (first | refine blk_drewN ?_ _ | refine blk_drew ?_ | refine blk_alloc ?_ _)); exact BK571.out) hb); have n2_ := Aside0.mk (blk_below (g := gb572) (o := .cells #[.int .i64 a3_0, .int .i64 a3_1, .int .i64 a3_2, .int .i64 a3_3, .int .i64 a3_4, .int .i64 a3_5] 41 (0, 0)) (by (with_reducible repeat (first | refine blk_drewN ?_ _ | refine blk_drew ?_ | refine blk_alloc ?_ _)); exact BK572.out) hb); have n3_ := Aside0.mk (blk_below (g := gb577) (o := .cells #[.int .i64 ((rd_T174 l2_1 x16_1).f0), .int .i64 ((rd_T174 l2_1 x16_1).f1), .int .i64 ((rd_T174 l2_1 x16_1).f2), .int .i64 ((rd_T174 l2_1 x16_1).f3.f0), .int .i64 ((rd_T174 l2_1 x16_1).f3.f1), .int .i64 ((rd_T174 l2_1 x16_1).f3.f2), .slice A576_6 ((rd_T174 l2_1 x16_1).f3.f3).length c576_6] 174 (0, 0)) (by (with_reducible repeat (first | refine blk_drewN ?_ _ | refine blk_drew ?_ | refine blk_alloc ?_ _)); exact BK577.out) hb); have n4_ := Aside0.mk (below_step (by repeat (first | (with_reducible first | exact HB.out | apply below_alloc | apply pw_below_drewN | apply below_drew1 | refine below_set ?_ GE571.out | refine below_set ?_ GE572.out | refine below_set ?_ GE577.out) | exact HB.out)) hb); clear HO_9; clear BK571; clear BK572; clear BK577; clear HB; have HO_9 := n0_; have BK571 := n1_; have BK572 := n2_; have BK577 := n3_; have HB := n4_; clear n0_ n1_ n2_ n3_ n4_; (try clear hb); (try clear hb2); (try clear hk); (try clear hi)))
    go_meet
    case rel => exact ⟨_, (t579), (by first | rfl | (simp; done) | (simp [*]; done)), H', ⟨by have := HK1.out; first | omega | exact Nat.le_refl _⟩, ⟨by (with_reducible repeat (first | apply Kd.R_alloc | apply Kd.R_drewN | apply Kd.R_drew)); exact HO_9.out⟩, ⟨by (with_reducible repeat (first | refine blk_drewN ?_ _ | refine blk_drew ?_ | refine blk_alloc ?_ _)); exact BK571.out⟩, ⟨by (with_reducible repeat (first | refine blk_drewN ?_ _ | refine blk_drew ?_ | refine blk_alloc ?_ _)); exact BK572.out⟩, ⟨by (with_reducible repeat (first | refine blk_drewN ?_ _ | refine blk_drew ?_ | refine blk_alloc ?_ _)); exact BK577.out⟩, ⟨by repeat (first | (with_reducible first | exact HB.out | apply below_alloc | apply pw_below_drewN | apply below_drew1 | refine below_set ?_ GE571.out | refine below_set ?_ GE572.out | refine below_set ?_ GE577.out) | exact HB.out)⟩⟩
   case rest =>
    clear HC14; (try clear c1); (try clear c2); (try clear p2); (try clear c3); (try clear c5); (try clear p5); (try clear q5); (try clear hx5); (try clear c9); (try clear c11); (try clear c11b0); (try clear c12); (try clear c12b0); (try clear c13); (try clear c13b0); (try clear c16); (try clear c17); (try clear c20); (try clear c22); (try clear c23); (try clear c25); (try clear c31); (try clear c32); (try clear c34); (try clear hcz10_0); (try clear hcz10_1); (try clear hcz18_0); (try clear hcz18_1); (try clear hcz18_2); (try clear hcz18_3); (try clear hcz18_4); (try clear hcz18_5); (try clear hcz18_6); (try clear hcz24_0); (try clear hcz24_1); (try clear hcz24_2); (try clear hcz24_3); (try clear hcz24_4); (try clear hcz24_5); (try clear hcz24_6); (try clear hcz26_0); (try clear hcz26_1); (try clear hcz26_2); (try clear hcz26_3); (try clear hcz26_4); (try clear hcz26_5); (try clear hcz28_0); (try clear hcz28_1); (try clear hcz28_2); (try clear hcz28_3); (try clear hcz28_4); (try clear hcz28_5); (try clear hcz28_6); (try clear hcz29_0); (try clear hcz29_1); (try clear hcz29_2); (try clear hcz29_3); (try clear hcz29_4); (try clear hcz29_5); (try clear hcz33_0); (try clear hcz33_1); (try clear hcz33_2); (try clear hcz33_3); (try clear hcz33_4); (try clear hcz33_5); (try clear hcz33_6); (try clear hcz35_0); (try clear hcz35_1); (try clear hcz35_2); (try clear hcz35_3); (try clear hcz35_4); (try clear hcz35_5); (try clear hfz10_0); (try clear hfz10_1); (try clear hfz18_0); (try clear hfz18_1); (try clear hfz18_2); (try clear hfz18_3); (try clear hfz18_4); (try clear hfz18_5); (try clear hfz18_6); (try clear hfz24_0); (try clear hfz24_1); (try clear hfz24_2); (try clear hfz24_3); (try clear hfz24_4); (try clear hfz24_5); (try clear hfz24_6); (try clear hfz26_0); (try clear hfz26_1); (try clear hfz26_2); (try clear hfz26_3); (try clear hfz26_4); (try clear hfz26_5); (try clear hfz28_0); (try clear hfz28_1); (try clear hfz28_2); (try clear hfz28_3); (try clear hfz28_4); (try clear hfz28_5); (try clear hfz28_6); (try clear hfz29_0); (try clear hfz29_1); (try clear hfz29_2); (try clear hfz29_3); (try clear hfz29_4); (try clear hfz29_5); (try clear hfz33_0); (try clear hfz33_1); (try clear hfz33_2); (try clear hfz33_3); (try clear hfz33_4); (try clear hfz33_5); (try clear hfz33_6); (try clear hfz35_0); (try clear hfz35_1); (try clear hfz35_2); (try clear hfz35_3); (try clear hfz35_4); (try clear hfz35_5); (try clear hx576_0); (try clear hx576_1); (try clear hx576_2); (try clear hx576_3); (try clear hx576_4); (try clear hx576_5); (try clear hx576_6); (try clear p2); (try clear p576); (try clear q576); obtain ⟨kq, x34_13, rfl, HA, HJ13, HO_9, BK571, BK572, BK577, HB⟩ := hcut; cases kq with
    | zero => exact absurd HA.out (by simp [impl_RulesThatHold.j1])
    | succ kj13 =>
     have H := HA.out; clear HA; simp only [impl_RulesThatHold.j1] at H; by_cases c37 : x34_13 = true
     rotate_left
     ·replace c37 := Bool.eq_false_iff.mpr c37; subst c37; have H1 : (impl_RulesThatHold.l0 kj13 l0 l1 x9_1 l2_1 (l2_1.length : Int) (wrap64 (x16_1 + 1)) a3_0 a3_1 a3_2 a3_3 a3_4 a3_5) = some r := by rw [if_neg (show ¬ (false = true) by decide)] at H; exact H
      clear H; have H := H1; clear H1; have H' := Aside0.mk H; clear H; go_wp2; go_roundg kj13
      case measure => have := HK1.out; have := HJ13.out; omega
      case rel => exact ⟨(x9_1), (wrap64 (x16_1 + 1)), (by first | rfl | (simp; done) | (simp [*]; done)), H', ⟨by have := HK1.out; have := HJ13.out; omega⟩, ⟨by (with_reducible repeat (first | apply Kd.R_alloc | apply Kd.R_drewN | apply Kd.R_drew)); exact HO_9.out⟩, ⟨by (with_reducible repeat (first | refine blk_drewN ?_ _ | refine blk_drew ?_ | refine blk_alloc ?_ _)); exact BK571.out⟩, ⟨by (with_reducible repeat (first | refine blk_drewN ?_ _ | refine blk_drew ?_ | refine blk_alloc ?_ _)); exact BK572.out⟩, ⟨by repeat (first | (with_reducible first | exact HB.out | apply below_alloc | apply pw_below_drewN | apply below_drew1 | refine below_set ?_ GE571.out | refine below_set ?_ GE572.out | refine below_set ?_ GE577.out) | exact HB.out)⟩⟩
     subst c37; have H1 : (if x9_1.length < 17592186044416 then (impl_RulesThatHold.l0 kj13 l0 l1 (x9_1 ++ [x16_1]) l2_1 (l2_1.length : Int) (wrap64 (x16_1 + 1)) a3_0 a3_1 a3_2 a3_3 a3_4 a3_5) else (none)) = some r := by rw [if_pos rfl] at H; exact H
     clear H; have H := H1; clear H1; replace H := ifN H; obtain ⟨c38, H⟩ := H; have LMc38 := Aside0.mk c38; clear c38; obtain ⟨y580, hy580⟩ : ∃ y_ : List Int, y_ = (x9_1 ++ [x16_1]) := ⟨_, rfl⟩; replace H : (impl_RulesThatHold.l0 kj13 l0 l1 y580 l2_1 (l2_1.length : Int) (wrap64 (x16_1 + 1)) a3_0 a3_1 a3_2 a3_3 a3_4 a3_5) = some r := by first | (rw [hy580]; with_reducible exact H) | (have H2_ := (Option.bind_some _ _).symm.trans H; rw [hy580]; with_reducible exact H2_) | (have H2_ := (Option.bind_some _ _).symm.trans H; with_reducible exact H2_) | with_reducible exact H | (rw [hy580]; exact H) | exact H
     have Ny580 := Aside0.mk hy580; clear hy580; have H' := Aside0.mk H; clear H; go_wp2_with (first | ((with_reducible refine gate_builtin (b := .append) (xs := #[.tmp 35, .tmp 37]) rfl ?_); at_builtin; refine Kd.R_append (Kd.int .i64) (w0 := w) w.heap.size rfl (.tmp 35) (.tmp 37) 177 3 (.int .i64 0) 8 rfl Tryz.underlying177 info3 rfl (by decide) (by omega) u9 x9_1 x16_1 [.int .i64 x16_1] (fun _ => True) (fun _ => False) rfl rfl ?aP (fun _ hk => hk.elim) ?aF ?aO ?aB ?aS ?aL ?_; (case aP => exact rfl); (case aB => exact (by repeat (first | (with_reducible first | exact HB.out | apply below_alloc | apply pw_below_drewN | apply below_drew1 | refine below_set ?_ GE571.out | refine below_set ?_ GE572.out | refine below_set ?_ GE577.out) | exact HB.out))); (case aF => exact (fun _ _ => trivial)); (case aO => exact (by (with_reducible repeat (first | apply Kd.R_alloc | apply Kd.R_drewN | apply Kd.R_drew)); exact HO_9.out)); (case aS => exact (below_size (by repeat (first | (with_reducible first | exact HB.out | apply below_alloc | apply pw_below_drewN | apply below_drew1 | refine below_set ?_ GE571.out | refine below_set ?_ GE572.out | refine below_set ?_ GE577.out) | exact HB.out)))); (case aL => have := LMc38.out; omega); intro v581 w39 ho hb hg hat; rw [← Ny580.out] at ho; have n0_ := Aside0.mk (blk_grown (g := gb571) (o := .cells #[.int .i64 a2_0, .slice (some ad576) l2_1.length c2_1] 39 (0, 0)) (by (with_reducible repeat (first | refine blk_drewN ?_ _ | refine blk_drew ?_ | refine blk_alloc ?_ _)); exact BK571.out) hg (Kd.R_ne HO_9.out BK571.out (by decide))); have n1_ := Aside0.mk (blk_grown (g := gb572) (o := .cells #[.int .i64 a3_0, .int .i64 a3_1, .int .i64 a3_2, .int .i64 a3_3, .int .i64 a3_4, .int .i64 a3_5] 41 (0, 0)) (by (with_reducible repeat (first | refine blk_drewN ?_ _ | refine blk_drew ?_ | refine blk_alloc ?_ _)); exact BK572.out) hg (Kd.R_ne HO_9.out BK572.out (by decide))); have n2_ := Aside0.mk (blk_grown (g := gb577) (o := .cells #[.int .i64 ((rd_T174 l2_1 x16_1).f0), .int .i64 ((rd_T174 l2_1 x16_1).f1), .int .i64 ((rd_T174 l2_1 x16_1).f2), .int .i64 ((rd_T174 l2_1 x16_1).f3.f0), .int .i64 ((rd_T174 l2_1 x16_1).f3.f1), .int .i64 ((rd_T174 l2_1 x16_1).f3.f2), .slice A576_6 ((rd_T174 l2_1 x16_1).f3.f3).length c576_6] 174 (0, 0)) (by (with_reducible repeat (first | refine blk_drewN ?_ _ | refine blk_drew ?_ | refine blk_alloc ?_ _)); exact BK577.out) hg (Kd.R_ne HO_9.out BK577.out (by decide))); have n3_ := Aside0.mk (hb); have n4_ := Aside0.mk (ho); clear BK571; clear BK572; clear BK577; clear HB; clear HO_9; have BK571 := n0_; have BK572 := n1_; have BK577 := n2_; have HB := n3_; have HO582 := n4_; clear n0_ n1_ n2_ n3_ n4_; clear ho hb hg hat))
     go_roundg kj13
     case measure => have := HK1.out; have := HJ13.out; omega
     case rel => exact ⟨(y580), (wrap64 (x16_1 + 1)), (by first | rfl | (simp; done) | (simp [*]; done)), H', ⟨by have := HK1.out; have := HJ13.out; omega⟩, ⟨by (with_reducible repeat (first | apply Kd.R_alloc | apply Kd.R_drewN | apply Kd.R_drew)); exact HO582.out⟩, ⟨by (with_reducible repeat (first | refine blk_drewN ?_ _ | refine blk_drew ?_ | refine blk_alloc ?_ _)); exact BK571.out⟩, ⟨by (with_reducible repeat (first | refine blk_drewN ?_ _ | refine blk_drew ?_ | refine blk_alloc ?_ _)); exact BK572.out⟩, ⟨by repeat (first | (with_reducible first | exact HB.out | apply below_alloc | apply pw_below_drewN | apply below_drew1 | refine below_set ?_ GE571.out | refine below_set ?_ GE572.out | refine below_set ?_ GE577.out) | exact HB.out)⟩⟩
def impl_DecideBy.f (k : Nat) (l0 : List (S154)) (l1 : List (S136)) (a2_0 : Int) (l2_1 : List (S174)) (a3_0 : Int) (a3_1 : Int) (a3_2 : Int) (a3_3 : Int) (a3_4 : Int) (a3_5 : Int) : Option (Int) := (impl_IsRequest.f a3_0 a3_1 a3_2 a3_3 a3_4 a3_5).bind fun t585 => (if t585 = true then ((impl_IsPolicy.f k a2_0 l2_1).bind fun t586 => (if t586 = true then ((impl_RulesThatHold.f k l0 l1 a2_0 l2_1 a3_0 a3_1 a3_2 a3_3 a3_4 a3_5).bind fun t587 => ((impl_decided.f k a2_0 l2_1 t587).bind fun t590 => (some t590))) else (some 0))) else (some 0))
theorem impl_DecideBy.calls (k : Nat) (A0 : Option Addr) (c0 : Nat) (l0 : List (S154)) (A1 : Option Addr) (c1 : Nat) (l1 : List (S136)) (a2_0 : Int) (A2_1 : Option Addr) (c2_1 : Nat) (l2_1 : List (S174)) (a3_0 : Int) (a3_1 : Int) (a3_2 : Int) (a3_3 : Int) (a3_4 : Int) (a3_5 : Int) (r : Int) (w : World) (hr0 : Kd.C k154 w A0 l0.length l0) (hc0 : l0.length ≤ c0) (hr1 : Kd.C k136 w A1 l1.length l1) (hc1 : l1.length ≤ c1) (hr2_1 : Kd.C k174 w A2_1 l2_1.length l2_1) (hc2_1 : l2_1.length ≤ c2_1) (h : impl_DecideBy.f k l0 l1 a2_0 l2_1 a3_0 a3_1 a3_2 a3_3 a3_4 a3_5 = some r) :
  Calls Tryz.prog 36 #[.slice A0 l0.length c0, .slice A1 l1.length c1, .agg #[.int .i64 a2_0, .slice A2_1 l2_1.length c2_1], .agg #[.int .i64 a3_0, .int .i64 a3_1, .int .i64 a3_2, .int .i64 a3_3, .int .i64 a3_4, .int .i64 a3_5]] w fun e w' => e = .returned (.int .i64 r) ∧ Below w.heap.size w w' := by
 have HR0 := Aside0.mk hr0
 have HC0 := Aside0.mk hc0
 clear hr0 hc0
 have HR1 := Aside0.mk hr1
 have HC1 := Aside0.mk hc1
 clear hr1 hc1
 have HR2_1 := Aside0.mk hr2_1
 have HC2_1 := Aside0.mk hc2_1
 clear hr2_1 hc2_1
 have HB := Aside0.mk (Below.refl w.heap.size w)
 have H := h
 clear h
 unfold impl_DecideBy.f at H
 have hu39 := Tryz.underlying39
 have hu41 := Tryz.underlying41
 go_enter Tryz.func36, Tryz.ntmps36
 replace H := Aside0.mk H
 go_upto_region 1 with (first | ((with_reducible refine gate_dst (N := 6) rfl ?_); refine box_event ?hg (N := 6) ?hd (cs := #[.int .i64 a2_0, .slice A2_1 l2_1.length c2_1]) (t := 39) ?hr ?_; (case hd => rfl); (case hg => rfl); (case hr => first | (go_simp; done) | (go_simp; rfl)); intro gb1 hg W1 hbox hb; replace HB := bH HB hb; clear hb; have BK1 := Aside0.mk hbox; have c_BK1 := blk_cell hbox; have z_BK1 := blk_frozen hbox; clear hg hbox) | ((with_reducible refine gate_dst (N := 7) rfl ?_); refine box_event ?hg (N := 7) ?hd (cs := #[.int .i64 a3_0, .int .i64 a3_1, .int .i64 a3_2, .int .i64 a3_3, .int .i64 a3_4, .int .i64 a3_5]) (t := 41) ?hr ?_; (case hd => rfl); (case hg => rfl); (case hr => first | (go_simp; done) | (go_simp; rfl)); intro gb2 hg W2 hbox hb; replace BK1 := bK BK1 hb; replace c_BK1 := bcl BK1; replace z_BK1 := bfr BK1; replace HB := bH HB hb; clear hb; have BK2 := Aside0.mk hbox; have c_BK2 := blk_cell hbox; have z_BK2 := blk_frozen hbox; clear hg hbox))
 replace H := H.out
 replace H := obs H
 obtain ⟨t585, hm, H⟩ := H
 (try dsimp only at H)
 replace H := Aside0.mk H
 have hcall := impl_IsRequest.calls _ _ _ _ _ _ _ W2  hm
 clear hm
 (go_wp2_with fail)
 refine hcall.mono ?_
 rintro e W3 ⟨rfl, hb⟩
 clear hcall
 replace BK1 := bK BK1 hb; replace c_BK1 := bcl BK1; replace z_BK1 := bfr BK1
 replace BK2 := bK BK2 hb; replace c_BK2 := bcl BK2; replace z_BK2 := bfr BK2
 replace HB := bH HB hb; clear hb
 replace H := ifD H.out; rcases H with ⟨c4, H⟩ | ⟨c4, H⟩
 rotate_left
 ·replace c4 := nT c4
  subst c4
  cases H
  go_wp2
  go_ret
  exact ⟨rfl, HB.out⟩
 subst c4
 replace H := obs H
 obtain ⟨t586, hm, H⟩ := H
 (try dsimp only at H)
 replace H := Aside0.mk H
 have hcall := impl_IsPolicy.calls k _ _ _ _ _ W3 (Kd.C_below HR2_1.out HB.out) HC2_1.out hm
 clear hm
 (go_wp2_with fail)
 refine hcall.mono ?_
 rintro e W5 ⟨rfl, hb⟩
 clear hcall
 replace BK1 := bK BK1 hb; replace c_BK1 := bcl BK1; replace z_BK1 := bfr BK1
 replace BK2 := bK BK2 hb; replace c_BK2 := bcl BK2; replace z_BK2 := bfr BK2
 replace HB := bH HB hb; clear hb
 replace H := ifD H.out; rcases H with ⟨c6, H⟩ | ⟨c6, H⟩
 rotate_left
 ·replace c6 := nT c6
  subst c6
  cases H
  go_wp2
  go_ret
  exact ⟨rfl, HB.out⟩
 subst c6
 replace H := Aside0.mk H
 try go_wp2
 clear c_BK1 z_BK1; have rBK1 := BK1; replace BK1 := dK BK1
 clear c_BK2 z_BK2; have rBK2 := BK2; replace BK2 := dK BK2
 have HBr := HB; replace HB := dH HB
 refine stA (n := 8) (S := fun w' => Below W5.heap.size W5 w') (by kernel_rfl) rfl (below_drew1 (Below.refl _ W5)) (by kernel_rfl) (fun hHeld => ?_)
 generalize W5.drew = W7 at HB BK1 BK2 hHeld ⊢
 replace H := H.out
 replace H := obs H
 obtain ⟨t587, hm, H⟩ := H
 (try dsimp only at H)
 replace hm := Aside0.mk hm
 replace H := Aside0.mk H
 refine pu 1 (some 18) 2 ?_; refine pu 2 (some 19) 6 ?_; refine ld 0 (some 17) 7 hHeld ?_ (hr := by (intro w' h_; have y_ := kD rBK1 h_; go_simp; with_reducible rfl)); refine ld 3 (some 20) 15 hHeld ?_ (hr := by (intro w' h_; have y_ := kD rBK1 h_; go_simp; with_reducible rfl)); refine ld 4 (some 21) 31 hHeld ?_ (hr := by (intro w' h_; have y_ := kD rBK2 h_; go_simp; with_reducible rfl))
 refine on 5 (some 22) 63 (fun K hK => ?_)
 have hcall := impl_RulesThatHold.calls k _ _ _ _ _ _ _ _ _ _ _ _ _ _ _ _ _ W7 (Kd.C_below HR0.out HB.out) HC0.out (Kd.C_below HR1.out HB.out) HC1.out (Kd.C_below HR2_1.out HB.out) HC2_1.out hm.out
 refine goes_ Tryz.func114 (by kernel_rfl) rfl #[.slice A0 l0.length c0, .slice A1 l1.length c1, .agg #[.int .i64 a2_0, .slice A2_1 l2_1.length c2_1], .agg #[.int .i64 a3_0, .int .i64 a3_1, .int .i64 a3_2, .int .i64 a3_3, .int .i64 a3_4, .int .i64 a3_5]] (by rfl) rfl rfl (by (try simp only [List.map_toArray, List.map_cons, List.map_nil]); first | done | rfl) ?_
 refine hcall.mono ?_
 rintro e W9 ⟨v588, rfl, ho0, hb⟩
 refine ⟨_, rfl, ?_⟩
 clear hcall hm
 replace hHeld := below_step hHeld hb
 replace BK1 := bK BK1 hb
 replace BK2 := bK BK2 hb
 obtain ⟨A9_0, _, c9_0, rfl, rfl, hr_⟩ := R_made ho0 HB.out.size; clear ho0; have HO9_0 := Aside0.mk hr_; clear hr_
 replace HB := bH HB hb; clear hb
 refine hK.out _ _ hHeld (fun hHeld => ?_)
 clear hK K
 refine nr 22 ?_
 replace H := H.out
 replace H := obs H
 obtain ⟨t590, hm, H⟩ := H
 (try dsimp only at H)
 replace hm := Aside0.mk hm
 replace H := Aside0.mk H
 refine on 6 (some 23) 127 (fun K hK => ?_)
 have hcall := impl_decided.calls k _ _ _ _ _ _ _ _ W9 (Kd.C_below HR2_1.out HB.out) HC2_1.out (R_C HO9_0.out) (R_len HO9_0.out) hm.out
 refine goes_ Tryz.func113 (by kernel_rfl) rfl #[.agg #[.int .i64 a2_0, .slice A2_1 l2_1.length c2_1], .slice A9_0 t587.length c9_0] (by rfl) rfl rfl (by (try simp only [List.map_toArray, List.map_cons, List.map_nil]); first | done | rfl) ?_
 refine hcall.mono ?_
 rintro e W11 ⟨rfl, hb⟩
 refine ⟨_, rfl, ?_⟩
 clear hcall hm
 replace hHeld := below_step hHeld hb
 replace BK1 := bK BK1 hb
 replace BK2 := bK BK2 hb
 replace HO9_0 := bR HO9_0 hb
 replace HB := bH HB hb; clear hb
 refine hK.out _ _ hHeld (fun hHeld => ?_)
 clear hK K
 refine nr 23 ?_
 refine pu 7 (some 8) 255 ?_
 refine dn (by kernel_rfl) ?_
 clear hHeld HBr rBK1 rBK2
 have c_BK1 := bcl BK1; have z_BK1 := bfr BK1
 have c_BK2 := bcl BK2; have z_BK2 := bfr BK2
 replace H := H.out
 cases H
 go_wp2
 go_ret
 exact ⟨rfl, HB.out⟩
def impl_DecisionUntil.l0 : Nat → List (S154) → List (S136) → Int → Int → Int → Int → List (S174) → Int → Int → Int → Int → Int → Int → Option (Int)
 | 0, _, _, _, _, _, _, _, _, _, _, _, _, _ => none
 | k + 1, x0, x1, x4, x11, x12, x592000, x592001, x593000, x593001, x593002, x593003, x593004, x593005 => if x11 < (mn (wrap64 (x593005 + x4)) 10000) then ((impl_AtTime.f x593000 x593001 x593002 x593003 x593004 x593005 (wrap64 (x11 + 1))).bind fun bt597 => ((impl_DecideBy.f k x0 x1 x592000 x592001 bt597.1 bt597.2.1 bt597.2.2.1 bt597.2.2.2.1 bt597.2.2.2.2.1 bt597.2.2.2.2.2).bind fun t603 => (if t603 = x12 then (impl_DecisionUntil.l0 k x0 x1 x4 (wrap64 (x11 + 1)) x12 x592000 x592001 x593000 x593001 x593002 x593003 x593004 x593005) else (some x11)))) else (some x11)
def impl_DecisionUntil.f (k : Nat) (l0 : List (S154)) (l1 : List (S136)) (a2_0 : Int) (l2_1 : List (S174)) (a3_0 : Int) (a3_1 : Int) (a3_2 : Int) (a3_3 : Int) (a3_4 : Int) (a3_5 : Int) (a4 : Int) : Option (Int) := (impl_IsRequest.f a3_0 a3_1 a3_2 a3_3 a3_4 a3_5).bind fun t593 => (if t593 = true then ((impl_IsPolicy.f k a2_0 l2_1).bind fun t594 => (if t594 = true then ((impl_InRange.f a4 0 60).bind fun t595 => (if t595 = true then ((impl_DecideBy.f k l0 l1 a2_0 l2_1 a3_0 a3_1 a3_2 a3_3 a3_4 a3_5).bind fun t596 => (impl_DecisionUntil.l0 k l0 l1 a4 a3_5 t596 a2_0 l2_1 a3_0 a3_1 a3_2 a3_3 a3_4 a3_5)) else (some a3_5))) else (some a3_5))) else (some a3_5))
theorem impl_DecisionUntil.calls (k : Nat) (A0 : Option Addr) (c0 : Nat) (l0 : List (S154)) (A1 : Option Addr) (c1 : Nat) (l1 : List (S136)) (a2_0 : Int) (A2_1 : Option Addr) (c2_1 : Nat) (l2_1 : List (S174)) (a3_0 : Int) (a3_1 : Int) (a3_2 : Int) (a3_3 : Int) (a3_4 : Int) (a3_5 : Int) (a4 : Int) (r : Int) (w : World) (hr0 : Kd.C k154 w A0 l0.length l0) (hc0 : l0.length ≤ c0) (hr1 : Kd.C k136 w A1 l1.length l1) (hc1 : l1.length ≤ c1) (hr2_1 : Kd.C k174 w A2_1 l2_1.length l2_1) (hc2_1 : l2_1.length ≤ c2_1) (h : impl_DecisionUntil.f k l0 l1 a2_0 l2_1 a3_0 a3_1 a3_2 a3_3 a3_4 a3_5 a4 = some r) :
  Calls Tryz.prog 22 #[.slice A0 l0.length c0, .slice A1 l1.length c1, .agg #[.int .i64 a2_0, .slice A2_1 l2_1.length c2_1], .agg #[.int .i64 a3_0, .int .i64 a3_1, .int .i64 a3_2, .int .i64 a3_3, .int .i64 a3_4, .int .i64 a3_5], .int .i64 a4] w fun e w' => e = .returned (.int .i64 r) ∧ Below w.heap.size w w' := by
 have HR0 := Aside0.mk hr0
 have HC0 := Aside0.mk hc0
 clear hr0 hc0
 have HR1 := Aside0.mk hr1
 have HC1 := Aside0.mk hc1
 clear hr1 hc1
 have HR2_1 := Aside0.mk hr2_1
 have HC2_1 := Aside0.mk hc2_1
 clear hr2_1 hc2_1
 have HB := Aside0.mk (Below.refl w.heap.size w)
 have H := h
 clear h
 unfold impl_DecisionUntil.f at H
 have hu39 := Tryz.underlying39
 have hu41 := Tryz.underlying41
 go_enter Tryz.func22, Tryz.ntmps22
 replace H := Aside0.mk H
 go_upto_region 1 with (first | ((with_reducible refine gate_dst (N := 7) rfl ?_); refine box_event ?hg (N := 7) ?hd (cs := #[.int .i64 a2_0, .slice A2_1 l2_1.length c2_1]) (t := 39) ?hr ?_; (case hd => rfl); (case hg => rfl); (case hr => first | (go_simp; done) | (go_simp; rfl)); intro gb1 hg W1 hbox hb; replace HB := bH HB hb; clear hb; have BK1 := Aside0.mk hbox; have c_BK1 := blk_cell hbox; have z_BK1 := blk_frozen hbox; clear hg hbox) | ((with_reducible refine gate_dst (N := 8) rfl ?_); refine box_event ?hg (N := 8) ?hd (cs := #[.int .i64 a3_0, .int .i64 a3_1, .int .i64 a3_2, .int .i64 a3_3, .int .i64 a3_4, .int .i64 a3_5]) (t := 41) ?hr ?_; (case hd => rfl); (case hg => rfl); (case hr => first | (go_simp; done) | (go_simp; rfl)); intro gb2 hg W2 hbox hb; replace BK1 := bK BK1 hb; replace c_BK1 := bcl BK1; replace z_BK1 := bfr BK1; replace HB := bH HB hb; clear hb; have BK2 := Aside0.mk hbox; have c_BK2 := blk_cell hbox; have z_BK2 := blk_frozen hbox; clear hg hbox))
 replace H := H.out
 replace H := obs H
 obtain ⟨t593, hm, H⟩ := H
 (try dsimp only at H)
 replace H := Aside0.mk H
 have hcall := impl_IsRequest.calls _ _ _ _ _ _ _ W2  hm
 clear hm
 (go_wp2_with fail)
 refine hcall.mono ?_
 rintro e W3 ⟨rfl, hb⟩
 clear hcall
 replace BK1 := bK BK1 hb; replace c_BK1 := bcl BK1; replace z_BK1 := bfr BK1
 replace BK2 := bK BK2 hb; replace c_BK2 := bcl BK2; replace z_BK2 := bfr BK2
 replace HB := bH HB hb; clear hb
 replace H := ifD H.out; rcases H with ⟨c4, H⟩ | ⟨c4, H⟩
 rotate_left
 ·replace c4 := nT c4
  subst c4
  cases H
  go_wp2
  go_ret
  exact ⟨rfl, HB.out⟩
 subst c4
 replace H := obs H
 obtain ⟨t594, hm, H⟩ := H
 (try dsimp only at H)
 replace H := Aside0.mk H
 have hcall := impl_IsPolicy.calls k _ _ _ _ _ W3 (Kd.C_below HR2_1.out HB.out) HC2_1.out hm
 clear hm
 (go_wp2_with fail)
 refine hcall.mono ?_
 rintro e W5 ⟨rfl, hb⟩
 clear hcall
 replace BK1 := bK BK1 hb; replace c_BK1 := bcl BK1; replace z_BK1 := bfr BK1
 replace BK2 := bK BK2 hb; replace c_BK2 := bcl BK2; replace z_BK2 := bfr BK2
 replace HB := bH HB hb; clear hb
 replace H := ifD H.out; rcases H with ⟨c6, H⟩ | ⟨c6, H⟩
 rotate_left
 ·replace c6 := nT c6
  subst c6
  cases H
  go_wp2
  go_ret
  exact ⟨rfl, HB.out⟩
 subst c6
 replace H := obs H
 obtain ⟨t595, hm, H⟩ := H
 (try dsimp only at H)
 replace H := Aside0.mk H
 have hcall := impl_InRange.calls _ _ _ _ W5  hm
 clear hm
 (go_wp2_with fail)
 refine hcall.mono ?_
 rintro e W7 ⟨rfl, hb⟩
 clear hcall
 replace BK1 := bK BK1 hb; replace c_BK1 := bcl BK1; replace z_BK1 := bfr BK1
 replace BK2 := bK BK2 hb; replace c_BK2 := bcl BK2; replace z_BK2 := bfr BK2
 replace HB := bH HB hb; clear hb
 replace H := ifD H.out; rcases H with ⟨c8, H⟩ | ⟨c8, H⟩
 rotate_left
 ·replace c8 := nT c8
  subst c8
  cases H
  go_wp2
  go_ret
  exact ⟨rfl, HB.out⟩
 subst c8
 replace H := obs H
 obtain ⟨t596, hm, H⟩ := H
 (try dsimp only at H)
 replace H := Aside0.mk H
 have hcall := impl_DecideBy.calls k _ _ _ _ _ _ _ _ _ _ _ _ _ _ _ _ _ W7 (Kd.C_below HR0.out HB.out) HC0.out (Kd.C_below HR1.out HB.out) HC1.out (Kd.C_below HR2_1.out HB.out) HC2_1.out hm
 clear hm
 (go_wp2_with fail)
 refine hcall.mono ?_
 rintro e W9 ⟨rfl, hb⟩
 clear hcall
 replace BK1 := bK BK1 hb; replace c_BK1 := bcl BK1; replace z_BK1 := bfr BK1
 replace BK2 := bK BK2 hb; replace c_BK2 := bcl BK2; replace z_BK2 := bfr BK2
 replace HB := bH HB hb; clear hb
 go_wp2
 go_loopg [11] k (fun kq v11 w' => ∃ (x11_10 : Int), v11 = .int .i64 x11_10 ∧ Aside0 (impl_DecisionUntil.l0 kq l0 l1 a4 x11_10 t596 a2_0 l2_1 a3_0 a3_1 a3_2 a3_3 a3_4 a3_5 = some r) ∧ Aside0 (kq ≤ k) ∧ Aside0 (w'.heap[gb1]? = some (.cells #[.int .i64 a2_0, .slice A2_1 l2_1.length c2_1] 39 (0, 0))) ∧ Aside0 (w'.heap[gb2]? = some (.cells #[.int .i64 a3_0, .int .i64 a3_1, .int .i64 a3_2, .int .i64 a3_3, .int .i64 a3_4, .int .i64 a3_5] 41 (0, 0))) ∧ Aside0 (Below w.heap.size w w'))
 case atStart => exact ⟨(a3_5), (by first | rfl | (simp; done) | (simp [*]; done)), H, ⟨Nat.le_refl _⟩, BK1, BK2, HB⟩
 case round =>
  clear H HB BK1 c_BK1 z_BK1 BK2 c_BK2 z_BK2
  obtain ⟨x11_10, rfl, HA, Hk10, BK1, BK2, HB⟩ := hrel
  have c_BK1 := bcl BK1; have z_BK1 := bfr BK1
  have c_BK2 := bcl BK2; have z_BK2 := bfr BK2
  cases gk with
  | zero => exact absurd HA.out (by simp [impl_DecisionUntil.l0])
  | succ k10 =>
   have H := HA.out; clear HA; simp only [impl_DecisionUntil.l0] at H; replace H := Aside0.mk H; try go_wp2
   clear c_BK1 z_BK1; have rBK1 := BK1; replace BK1 := dK BK1; clear c_BK2 z_BK2; have rBK2 := BK2; replace BK2 := dK BK2; have HBr := HB; replace HB := dH HB; refine stA (n := 19) (S := fun w' => Below wr.heap.size wr w') (by kernel_rfl) rfl (below_drew1 (Below.refl _ wr)) (by kernel_rfl) (fun hHeld => ?_); generalize wr.drew = W11 at HB BK1 BK2 hHeld ⊢; replace H := H.out; have mq12 : (if 10000 < (wrap64 (a3_5 + a4)) then 10000 else (wrap64 (a3_5 + a4))) = mn (wrap64 (a3_5 + a4)) 10000 := rfl; replace H := Aside0.mk H; refine pu 0 (some 34) 1 ?_; refine pu 1 (some 35) 3 ?_; refine pu 3 (some 37) 11 ?_; refine ld 2 (some 36) 15 hHeld ?_ (hr := by (intro w' h_; have y_ := kD rBK2 h_; go_simp; with_reducible rfl)); refine pu 4 (some 38) 31 ?_; refine pu 5 (some 39) 63 ?_; replace H := ifD H.out; rcases H with ⟨c13, H⟩ | ⟨c13, H⟩; rotate_left
   ·have c13_0 := decF c13; replace c13 := Aside0.mk c13; (try rw [c13_0]); replace H := Aside0.mk H; refine pu 6 (some 40) 127 ?_; refine pu 7 (some 41) 255 ?_; refine sk 8 (some 42) 511 ?_; refine sk 9 (some 43) 1023 ?_; refine sk 10 (some 44) 2047 ?_; refine sk 11 (some 45) 4095 ?_; refine sk 12 (some 46) 8191 ?_; refine sk 13 (some 47) 16383 ?_; refine sk 14 (some 48) 32767 ?_; refine sk 15 (some 49) 65535 ?_; refine sk 16 (some 50) 131071 ?_; refine sk 17 (some 51) 262143 ?_; refine pu 18 (some 52) 524287 ?_; refine dn (by kernel_rfl) ?_; clear hHeld HBr rBK1 rBK2; have c_BK1 := bcl BK1; have z_BK1 := bfr BK1; have c_BK2 := bcl BK2; have z_BK2 := bfr BK2; replace H := H.out; cases H; go_wp2; go_ret; exact ⟨rfl, HB.out⟩
   have c13_0 := decT c13; replace c13 := Aside0.mk c13; (try rw [c13_0]); replace H := obs H; obtain ⟨⟨t597, t598, t599, t600, t601, t602⟩, hm, H⟩ := H; (try dsimp only at H); replace hm := Aside0.mk hm; replace H := Aside0.mk H; refine pu 6 (some 40) 127 ?_; refine pu 7 (some 41) 255 ?_; refine pu 8 (some 42) 511 ?_; refine pu 9 (some 43) 1023 ?_; refine pu 12 (some 46) 5119 ?_; refine pu 13 (some 47) 13311 ?_; refine ld 10 (some 44) 14335 hHeld ?_ (hr := by (intro w' h_; have y_ := kD rBK1 h_; go_simp; with_reducible rfl)); refine ld 11 (some 45) 16383 hHeld ?_ (hr := by (intro w' h_; have y_ := kD rBK2 h_; go_simp; with_reducible rfl)); refine pu 16 (some 50) 81919 ?_; refine on 14 (some 48) 98303 (fun K hK => ?_); have hcall := impl_AtTime.calls _ _ _ _ _ _ _ _ _ _ _ _ _ W11  hm.out; refine goes_ Tryz.func35 (by kernel_rfl) rfl #[.agg #[.int .i64 a3_0, .int .i64 a3_1, .int .i64 a3_2, .int .i64 a3_3, .int .i64 a3_4, .int .i64 a3_5], .int .i64 (wrap64 (x11_10 + 1))] (by rfl) rfl rfl (by (try simp only [List.map_toArray, List.map_cons, List.map_nil]); first | done | rfl) ?_; refine hcall.mono ?_; rintro e W15 ⟨rfl, hb⟩; refine ⟨_, rfl, ?_⟩; clear hcall hm; replace hHeld := below_step hHeld hb; replace BK1 := bK BK1 hb; replace BK2 := bK BK2 hb; replace HB := bH HB hb; clear hb; refine hK.out _ _ hHeld (fun hHeld => ?_); clear hK K; refine nr 48 ?_; replace H := H.out; replace H := obs H; obtain ⟨t603, hm, H⟩ := H; (try dsimp only at H); replace hm := Aside0.mk hm; replace H := Aside0.mk H; refine on 15 (some 49) 131071 (fun K hK => ?_); have hcall := impl_DecideBy.calls k10 _ _ _ _ _ _ _ _ _ _ _ _ _ _ _ _ _ W15 (Kd.C_below HR0.out HB.out) HC0.out (Kd.C_below HR1.out HB.out) HC1.out (Kd.C_below HR2_1.out HB.out) HC2_1.out hm.out; refine goes_ Tryz.func36 (by kernel_rfl) rfl #[.slice A0 l0.length c0, .slice A1 l1.length c1, .agg #[.int .i64 a2_0, .slice A2_1 l2_1.length c2_1], .agg #[.int .i64 t597, .int .i64 t598, .int .i64 t599, .int .i64 t600, .int .i64 t601, .int .i64 t602]] (by rfl) rfl rfl (by (try simp only [List.map_toArray, List.map_cons, List.map_nil]); first | done | rfl) ?_; refine hcall.mono ?_; rintro e W17 ⟨rfl, hb⟩; refine ⟨_, rfl, ?_⟩; clear hcall hm; replace hHeld := below_step hHeld hb; replace BK1 := bK BK1 hb; replace BK2 := bK BK2 hb; replace HB := bH HB hb; clear hb; refine hK.out _ _ hHeld (fun hHeld => ?_); clear hK K; refine nr 49 ?_; refine pu 17 (some 51) 262143 ?_; refine pu 18 (some 52) 524287 ?_; refine dn (by kernel_rfl) ?_; clear hHeld HBr rBK1 rBK2; have c_BK1 := bcl BK1; have z_BK1 := bfr BK1; have c_BK2 := bcl BK2; have z_BK2 := bfr BK2; replace H := ifD H.out; rcases H with ⟨c18, H⟩ | ⟨c18, H⟩; rotate_left
   ·obtain ⟨c18_0, c18_1, c18_2⟩ := d3F c18; clear c18; (first | rw [c18_1] | rw [c18_2] | skip); cases H; go_wp2; go_ret; exact ⟨rfl, HB.out⟩
   obtain ⟨c18_0, c18_1, c18_2⟩ := d3T c18; clear c18; (first | rw [c18_1] | rw [c18_2] | skip); replace H := Aside0.mk H; go_wp2; go_roundg k10
   case measure => have := Hk10.out; omega
   case rel => exact ⟨(wrap64 (x11_10 + 1)), (by first | rfl | (simp; done) | (simp [*]; done)), H, ⟨by have := Hk10.out; omega⟩, BK1, BK2, HB⟩
def laws_eqIncludes.f (a0_0 : Int) (a0_1 : Int) (a1_0 : Int) (a1_1 : Int) : Option (Bool) := if a0_0 = a1_0 then (if a0_1 = a1_1 then (some true) else (some false)) else (some false)
theorem laws_eqIncludes.calls (a0_0 : Int) (a0_1 : Int) (a1_0 : Int) (a1_1 : Int) (r : Bool) (w : World) (h : laws_eqIncludes.f a0_0 a0_1 a1_0 a1_1 = some r) :
  Calls Tryz.prog 99 #[.agg #[.int .i64 a0_0, .int .i64 a0_1], .agg #[.int .i64 a1_0, .int .i64 a1_1]] w fun e w' => e = .returned (.bool r) ∧ Below w.heap.size w w' := by
 have HB := Aside0.mk (Below.refl w.heap.size w)
 have H := h
 clear h
 unfold laws_eqIncludes.f at H
 have hu154 := Tryz.underlying154
 go_enter Tryz.func99, Tryz.ntmps99
 replace H := Aside0.mk H
 go_upto_region 1 with (first | ((with_reducible refine gate_dst (N := 2) rfl ?_); refine box_event ?hg (N := 2) ?hd (cs := #[.int .i64 a0_0, .int .i64 a0_1]) (t := 154) ?hr ?_; (case hd => rfl); (case hg => rfl); (case hr => first | (go_simp; done) | (go_simp; rfl)); intro gb1 hg W1 hbox hb; replace HB := bH HB hb; clear hb; have BK1 := Aside0.mk hbox; have c_BK1 := blk_cell hbox; have z_BK1 := blk_frozen hbox; clear hg hbox) | ((with_reducible refine gate_dst (N := 3) rfl ?_); refine box_event ?hg (N := 3) ?hd (cs := #[.int .i64 a1_0, .int .i64 a1_1]) (t := 154) ?hr ?_; (case hd => rfl); (case hg => rfl); (case hr => first | (go_simp; done) | (go_simp; rfl)); intro gb2 hg W2 hbox hb; replace BK1 := bK BK1 hb; replace c_BK1 := bcl BK1; replace z_BK1 := bfr BK1; replace HB := bH HB hb; clear hb; have BK2 := Aside0.mk hbox; have c_BK2 := blk_cell hbox; have z_BK2 := blk_frozen hbox; clear hg hbox))
 replace H := ifD H.out; rcases H with ⟨c3, H⟩ | ⟨c3, H⟩
 rotate_left
 ·obtain ⟨c3_0, c3_1, c3_2⟩ := d3F c3
  clear c3
  (first | rw [c3_1] | rw [c3_2] | skip)
  cases H
  go_wp2
  go_ret
  exact ⟨rfl, HB.out⟩
 obtain ⟨c3_0, c3_1, c3_2⟩ := d3T c3
 clear c3
 (first | rw [c3_1] | rw [c3_2] | skip)
 replace H := ifD H; rcases H with ⟨c4, H⟩ | ⟨c4, H⟩
 ·obtain ⟨c4_0, c4_1, c4_2⟩ := d3T c4
  clear c4
  (first | rw [c4_1] | rw [c4_2] | skip)
  cases H
  go_wp2
  go_ret
  exact ⟨rfl, HB.out⟩
 obtain ⟨c4_0, c4_1, c4_2⟩ := d3F c4
 clear c4
 (first | rw [c4_1] | rw [c4_2] | skip)
 cases H
 go_wp2
 go_ret
 exact ⟨rfl, HB.out⟩
def laws_eqIncludesS.l0 : Nat → List (S154) → List (S154) → Int → Option (Bool)
 | 0, _, _, _ => none
 | k + 1, x0, x1, x5 => if x5 < (x0.length : Int) then (if 0 ≤ x5 then (if x5 < (x1.length : Int) then ((laws_eqIncludes.f ((rd_T154 x0 x5).f0) ((rd_T154 x0 x5).f1) ((rd_T154 x1 x5).f0) ((rd_T154 x1 x5).f1)).bind fun t608 => (if t608 = true then (laws_eqIncludesS.l0 k x0 x1 (wrap64 (x5 + 1))) else (some false))) else (none)) else (none)) else (some true)
def laws_eqIncludesS.f (k : Nat) (l0 : List (S154)) (l1 : List (S154)) : Option (Bool) := if (l0.length : Int) = (l1.length : Int) then (laws_eqIncludesS.l0 k l0 l1 0) else (some false)
theorem laws_eqIncludesS.calls (k : Nat) (A0 : Option Addr) (c0 : Nat) (l0 : List (S154)) (A1 : Option Addr) (c1 : Nat) (l1 : List (S154)) (r : Bool) (w : World) (hr0 : Kd.C k154 w A0 l0.length l0) (hc0 : l0.length ≤ c0) (hr1 : Kd.C k154 w A1 l1.length l1) (hc1 : l1.length ≤ c1) (h : laws_eqIncludesS.f k l0 l1 = some r) :
  Calls Tryz.prog 23 #[.slice A0 l0.length c0, .slice A1 l1.length c1] w fun e w' => e = .returned (.bool r) ∧ Below w.heap.size w w' := by
 have HR0 := Aside0.mk hr0
 have HC0 := Aside0.mk hc0
 clear hr0 hc0
 have HR1 := Aside0.mk hr1
 have HC1 := Aside0.mk hc1
 clear hr1 hc1
 have HB := Aside0.mk (Below.refl w.heap.size w)
 have H := h
 clear h
 unfold laws_eqIncludesS.f at H
 have hu154 := Tryz.underlying154
 go_enter Tryz.func23, Tryz.ntmps23
 replace H := ifD H; rcases H with ⟨c1, H⟩ | ⟨c1, H⟩
 rotate_left
 ·have c1_x0 : (l0.length == l1.length) = false := by first | simpa using c1 | (simp at c1 ⊢; omega)
  obtain ⟨c1_0, c1_1, c1_2⟩ := d3F c1
  clear c1
  (first | rw [c1_1] | rw [c1_2] | skip)
  cases H
  go_wp2
  go_ret
  exact ⟨rfl, HB.out⟩
 have c1_x0 : (l0.length == l1.length) = true := by first | simpa using c1 | (simp at c1 ⊢; omega)
 obtain ⟨c1_0, c1_1, c1_2⟩ := d3T c1
 clear c1
 (first | rw [c1_1] | rw [c1_2] | skip)
 replace H := Aside0.mk H
 go_wp2
 go_loopg [5] k (fun kq v5 w' => ∃ (x5_2 : Int), v5 = .int .i64 x5_2 ∧ Aside0 (laws_eqIncludesS.l0 kq l0 l1 x5_2 = some r) ∧ Aside0 (kq ≤ k) ∧ Aside0 (Below w.heap.size w w'))
 case atStart => exact ⟨(0), (by first | rfl | (simp; done) | (simp [*]; done)), H, ⟨Nat.le_refl _⟩, HB⟩
 case round =>
  clear H HB 
  (try clear c1_x0 c1_0 c1_1 c1_2)
  obtain ⟨x5_2, rfl, HA, Hk2, HB⟩ := hrel
  cases gk with
  | zero => exact absurd HA.out (by simp [laws_eqIncludesS.l0])
  | succ k2 =>
   have H := HA.out; clear HA; simp only [laws_eqIncludesS.l0] at H; replace H := ifD H; rcases H with ⟨c3, H⟩ | ⟨c3, H⟩; rotate_left
   ·have c3_0 := decF c3; replace c3 := Aside0.mk c3; (try rw [c3_0]); cases H; go_wp2; go_ret; exact ⟨rfl, HB.out⟩
   have c3_0 := decT c3; replace c3 := Aside0.mk c3; (try rw [c3_0]); replace H := Aside0.mk H; try go_wp2
   have HBr := HB; replace HB := dH HB; refine stA (n := 10) (S := fun w' => Below wr.heap.size wr w') (by kernel_rfl) rfl (below_drew1 (Below.refl _ wr)) (by kernel_rfl) (fun hHeld => ?_); generalize wr.drew = W4 at HB hHeld ⊢; refine pu 0 (some 17) 1 ?_; refine pu 1 (some 18) 3 ?_; replace H := ifN H.out; obtain ⟨c5, H⟩ := H; have c5_0 := decT c5; replace c5 := Aside0.mk c5; (try rw [c5_0]); have p606 : 0 ≤ (x5_2 : Int) := (of_decide_eq_true (by assumption)); have q606 : x5_2 < (l0.length : Int) := (of_decide_eq_true (by assumption)); obtain ⟨ad606, e606, hx606_0, hx606_1⟩ := at_T154 HR0.out x5_2 p606 q606; cases e606; replace hx606_0 := Aside0.mk hx606_0; replace hx606_1 := Aside0.mk hx606_1; have r606 := eq_true p606; have s606 := eq_true q606; replace p606 := Aside0.mk p606; replace q606 := Aside0.mk q606; replace H := Aside0.mk H; refine pu 2 (some 19) 7 ?_; refine pu 4 (some 21) 23 ?_; refine pu 5 (some 22) 55 ?_; refine ld 3 (some 20) 63 hHeld ?_ (hr := by (intro w' h_; have y0_ := xD HBr h_ hx606_0; have y1_ := xD HBr h_ hx606_1; go_simp; with_reducible rfl)); replace H := ifN H.out; obtain ⟨c6, H⟩ := H; have c6_0 := decT c6; replace c6 := Aside0.mk c6; (try rw [c6_0]); have p607 : 0 ≤ (x5_2 : Int) := (of_decide_eq_true (by assumption)); have q607 : x5_2 < (l1.length : Int) := (of_decide_eq_true (by assumption)); obtain ⟨ad607, e607, hx607_0, hx607_1⟩ := at_T154 HR1.out x5_2 p607 q607; cases e607; replace hx607_0 := Aside0.mk hx607_0; replace hx607_1 := Aside0.mk hx607_1; have r607 := eq_true p607; have s607 := eq_true q607; replace p607 := Aside0.mk p607; replace q607 := Aside0.mk q607; replace H := obs H; obtain ⟨t608, hm, H⟩ := H; (try dsimp only at H); replace hm := Aside0.mk hm; replace H := Aside0.mk H; refine pu 6 (some 23) 127 ?_; refine ld 7 (some 24) 255 hHeld ?_ (hr := by (intro w' h_; have y0_ := xD HBr h_ hx607_0; have y1_ := xD HBr h_ hx607_1; go_simp; with_reducible rfl)); refine on 8 (some 25) 511 (fun K hK => ?_); have hcall := laws_eqIncludes.calls _ _ _ _ _ W4  hm.out; refine goes_ Tryz.func99 (by kernel_rfl) rfl #[.agg #[.int .i64 ((rd_T154 l0 x5_2).f0), .int .i64 ((rd_T154 l0 x5_2).f1)], .agg #[.int .i64 ((rd_T154 l1 x5_2).f0), .int .i64 ((rd_T154 l1 x5_2).f1)]] (by rfl) rfl rfl (by (try simp only [List.map_toArray, List.map_cons, List.map_nil]); first | done | rfl) ?_; refine hcall.mono ?_; rintro e W8 ⟨rfl, hb⟩; refine ⟨_, rfl, ?_⟩; clear hcall hm; replace hHeld := below_step hHeld hb; replace HB := bH HB hb; clear hb; refine hK.out _ _ hHeld (fun hHeld => ?_); clear hK K; refine nr 25 ?_; refine pu 9 (some 26) 1023 ?_; refine dn (by kernel_rfl) ?_; clear hHeld HBr; replace H := ifD H.out; rcases H with ⟨c9, H⟩ | ⟨c9, H⟩; rotate_left
   ·replace c9 := nT c9; subst c9; cases H; go_wp2; go_ret; exact ⟨rfl, HB.out⟩
   subst c9; replace H := Aside0.mk H; go_wp2; go_roundg k2
   case measure => have := Hk2.out; omega
   case rel => exact ⟨(wrap64 (x5_2 + 1)), (by first | rfl | (simp; done) | (simp [*]; done)), H, ⟨by have := Hk2.out; omega⟩, HB⟩
def laws_eqFact.f (a0_0 : Int) (a0_1 : Int) (a0_2 : Int) (a0_3 : Int) (a0_4 : Int) (a0_5 : Int) (a1_0 : Int) (a1_1 : Int) (a1_2 : Int) (a1_3 : Int) (a1_4 : Int) (a1_5 : Int) : Option (Bool) := if a0_0 = a1_0 then (if a0_1 = a1_1 then (if a0_2 = a1_2 then (if a0_3 = a1_3 then (if a0_4 = a1_4 then (if a0_5 = a1_5 then (some true) else (some false)) else (some false)) else (some false)) else (some false)) else (some false)) else (some false)
theorem laws_eqFact.calls (a0_0 : Int) (a0_1 : Int) (a0_2 : Int) (a0_3 : Int) (a0_4 : Int) (a0_5 : Int) (a1_0 : Int) (a1_1 : Int) (a1_2 : Int) (a1_3 : Int) (a1_4 : Int) (a1_5 : Int) (r : Bool) (w : World) (h : laws_eqFact.f a0_0 a0_1 a0_2 a0_3 a0_4 a0_5 a1_0 a1_1 a1_2 a1_3 a1_4 a1_5 = some r) :
  Calls Tryz.prog 100 #[.agg #[.int .i64 a0_0, .int .i64 a0_1, .int .i64 a0_2, .int .i64 a0_3, .int .i64 a0_4, .int .i64 a0_5], .agg #[.int .i64 a1_0, .int .i64 a1_1, .int .i64 a1_2, .int .i64 a1_3, .int .i64 a1_4, .int .i64 a1_5]] w fun e w' => e = .returned (.bool r) ∧ Below w.heap.size w w' := by
 have HB := Aside0.mk (Below.refl w.heap.size w)
 have H := h
 clear h
 unfold laws_eqFact.f at H
 have hu136 := Tryz.underlying136
 go_enter Tryz.func100, Tryz.ntmps100
 replace H := Aside0.mk H
 go_upto_region 1 with (first | ((with_reducible refine gate_dst (N := 2) rfl ?_); refine box_event ?hg (N := 2) ?hd (cs := #[.int .i64 a0_0, .int .i64 a0_1, .int .i64 a0_2, .int .i64 a0_3, .int .i64 a0_4, .int .i64 a0_5]) (t := 136) ?hr ?_; (case hd => rfl); (case hg => rfl); (case hr => first | (go_simp; done) | (go_simp; rfl)); intro gb1 hg W1 hbox hb; replace HB := bH HB hb; clear hb; have BK1 := Aside0.mk hbox; have c_BK1 := blk_cell hbox; have z_BK1 := blk_frozen hbox; clear hg hbox) | ((with_reducible refine gate_dst (N := 3) rfl ?_); refine box_event ?hg (N := 3) ?hd (cs := #[.int .i64 a1_0, .int .i64 a1_1, .int .i64 a1_2, .int .i64 a1_3, .int .i64 a1_4, .int .i64 a1_5]) (t := 136) ?hr ?_; (case hd => rfl); (case hg => rfl); (case hr => first | (go_simp; done) | (go_simp; rfl)); intro gb2 hg W2 hbox hb; replace BK1 := bK BK1 hb; replace c_BK1 := bcl BK1; replace z_BK1 := bfr BK1; replace HB := bH HB hb; clear hb; have BK2 := Aside0.mk hbox; have c_BK2 := blk_cell hbox; have z_BK2 := blk_frozen hbox; clear hg hbox))
 replace H := ifD H.out; rcases H with ⟨c3, H⟩ | ⟨c3, H⟩
 rotate_left
 ·obtain ⟨c3_0, c3_1, c3_2⟩ := d3F c3
  clear c3
  (first | rw [c3_1] | rw [c3_2] | skip)
  cases H
  go_wp2
  go_ret
  exact ⟨rfl, HB.out⟩
 obtain ⟨c3_0, c3_1, c3_2⟩ := d3T c3
 clear c3
 (first | rw [c3_1] | rw [c3_2] | skip)
 replace H := ifD H; rcases H with ⟨c4, H⟩ | ⟨c4, H⟩
 rotate_left
 ·obtain ⟨c4_0, c4_1, c4_2⟩ := d3F c4
  clear c4
  (first | rw [c4_1] | rw [c4_2] | skip)
  cases H
  go_wp2
  go_ret
  exact ⟨rfl, HB.out⟩
 obtain ⟨c4_0, c4_1, c4_2⟩ := d3T c4
 clear c4
 (first | rw [c4_1] | rw [c4_2] | skip)
 replace H := ifD H; rcases H with ⟨c5, H⟩ | ⟨c5, H⟩
 rotate_left
 ·obtain ⟨c5_0, c5_1, c5_2⟩ := d3F c5
  clear c5
  (first | rw [c5_1] | rw [c5_2] | skip)
  cases H
  go_wp2
  go_ret
  exact ⟨rfl, HB.out⟩
 obtain ⟨c5_0, c5_1, c5_2⟩ := d3T c5
 clear c5
 (first | rw [c5_1] | rw [c5_2] | skip)
 replace H := ifD H; rcases H with ⟨c6, H⟩ | ⟨c6, H⟩
 rotate_left
 ·obtain ⟨c6_0, c6_1, c6_2⟩ := d3F c6
  clear c6
  (first | rw [c6_1] | rw [c6_2] | skip)
  cases H
  go_wp2
  go_ret
  exact ⟨rfl, HB.out⟩
 obtain ⟨c6_0, c6_1, c6_2⟩ := d3T c6
 clear c6
 (first | rw [c6_1] | rw [c6_2] | skip)
 replace H := ifD H; rcases H with ⟨c7, H⟩ | ⟨c7, H⟩
 rotate_left
 ·obtain ⟨c7_0, c7_1, c7_2⟩ := d3F c7
  clear c7
  (first | rw [c7_1] | rw [c7_2] | skip)
  cases H
  go_wp2
  go_ret
  exact ⟨rfl, HB.out⟩
 obtain ⟨c7_0, c7_1, c7_2⟩ := d3T c7
 clear c7
 (first | rw [c7_1] | rw [c7_2] | skip)
 replace H := ifD H; rcases H with ⟨c8, H⟩ | ⟨c8, H⟩
 ·obtain ⟨c8_0, c8_1, c8_2⟩ := d3T c8
  clear c8
  (first | rw [c8_1] | rw [c8_2] | skip)
  cases H
  go_wp2
  go_ret
  exact ⟨rfl, HB.out⟩
 obtain ⟨c8_0, c8_1, c8_2⟩ := d3F c8
 clear c8
 (first | rw [c8_1] | rw [c8_2] | skip)
 cases H
 go_wp2
 go_ret
 exact ⟨rfl, HB.out⟩
end Go.Proofs.YtmgfklmhelabcaaGreat.QFnExactDecisionUntil
