/- The machine side of FnExactSaveDecision: what each function that it reaches computes, and that the machine's call gives just that. -/
import Derived.Test.YtmgfklmhelabcaaGreatQFnExactSaveDecisionx0
import Derived.Test.YtmgfklmhelabcaaGreatQFnExactSaveDecisionx2
import Derived.Test.YtmgfklmhelabcaaGreatQFnExactSaveDecisionx3
import Derived.Test.YtmgfklmhelabcaaGreatQFnExactSaveDecisionx5
import Derived.Test.YtmgfklmhelabcaaGreatQFnExactSaveDecisionx9
namespace Go.Proofs.YtmgfklmhelabcaaGreat.QFnExactSaveDecision
open Go.RowKit Go.Proofs.YtmgfklmhelabcaaGreatW.PrintWords Go.Proofs.YtmgfklmhelabcaaGreatW.PrintLast Go.Proofs.YtmgfklmhelabcaaGreatW.PrintMore
attribute [local go_sem] max2_int min2_int max_two min_two max_three min_three max_four min_four
set_option maxHeartbeats 8000000
set_option maxRecDepth 100000
open Go.Proofs.YtmgfklmhelabcaaGreatM
set_option linter.unusedVariables false
set_option linter.unusedSimpArgs false
def spec_DecideBy.l0 : Nat → List Int → Int → Int → List (S174) → Option (Int)
 | 0, _, _, _, _ => none
 | k + 1, x9, x10, x444000, x444001 => if x10 < (x9.length : Int) then (if 0 ≤ x10 then (if 0 ≤ (rd x9 x10) then (if (rd x9 x10) < (x444001.length : Int) then (if ((rd_T174 x444001 (rd x9 x10)).f0) = 0 then (some 0) else (spec_DecideBy.l0 k x9 (wrap64 (x10 + 1)) x444000 x444001)) else (none)) else (none)) else (none)) else (if (x9.length : Int) = 0 then (some 0) else (some 1))
def spec_DecideBy.f (k : Nat) (l0 : List (S154)) (l1 : List (S136)) (a2_0 : Int) (l2_1 : List (S174)) (a3_0 : Int) (a3_1 : Int) (a3_2 : Int) (a3_3 : Int) (a3_4 : Int) (a3_5 : Int) : Option (Int) := (spec_IsRequest.f a3_0 a3_1 a3_2 a3_3 a3_4 a3_5).bind fun t445 => (if t445 = true then ((spec_IsPolicy.f k a2_0 l2_1).bind fun t446 => (if t446 = true then ((spec_RulesThatHold.f k l0 l1 a2_0 l2_1 a3_0 a3_1 a3_2 a3_3 a3_4 a3_5).bind fun t447 => (spec_DecideBy.l0 k t447 0 a2_0 l2_1)) else (some 0))) else (some 0))
theorem spec_DecideBy.calls (k : Nat) (A0 : Option Addr) (c0 : Nat) (l0 : List (S154)) (A1 : Option Addr) (c1 : Nat) (l1 : List (S136)) (a2_0 : Int) (A2_1 : Option Addr) (c2_1 : Nat) (l2_1 : List (S174)) (a3_0 : Int) (a3_1 : Int) (a3_2 : Int) (a3_3 : Int) (a3_4 : Int) (a3_5 : Int) (r : Int) (w : World) (hr0 : Kd.C k154 w A0 l0.length l0) (hc0 : l0.length ≤ c0) (hr1 : Kd.C k136 w A1 l1.length l1) (hc1 : l1.length ≤ c1) (hr2_1 : Kd.C k174 w A2_1 l2_1.length l2_1) (hc2_1 : l2_1.length ≤ c2_1) (h : spec_DecideBy.f k l0 l1 a2_0 l2_1 a3_0 a3_1 a3_2 a3_3 a3_4 a3_5 = some r) :
  Calls Tryz.prog 94 #[.slice A0 l0.length c0, .slice A1 l1.length c1, .agg #[.int .i64 a2_0, .slice A2_1 l2_1.length c2_1], .agg #[.int .i64 a3_0, .int .i64 a3_1, .int .i64 a3_2, .int .i64 a3_3, .int .i64 a3_4, .int .i64 a3_5]] w fun e w' => e = .returned (.int .i64 r) ∧ Below w.heap.size w w' := by
 have HR0 := Aside0.mk hr0
 have HC0 := Aside0.mk hc0
 clear hr0 hc0
 have HR1 := Aside0.mk hr1
 have HC1 := Aside0.mk hc1
 clear hr1 hc1
 have HR2_1 := Aside0.mk hr2_1
 have HC2_1 := Aside0.mk hc2_1
 clear hr2_1 hc2_1
 have HB := Aside0.mk (Below.refl w.heap.size w)
 have H := h
 clear h
 unfold spec_DecideBy.f at H
 have hu39 := Tryz.underlying39
 have hu41 := Tryz.underlying41
 have hu174 := Tryz.underlying174
 go_enter Tryz.func94, Tryz.ntmps94
 replace H := Aside0.mk H
 go_upto_region 1 with (first | ((with_reducible refine gate_dst (N := 6) rfl ?_); refine box_event ?hg (N := 6) ?hd (cs := #[.int .i64 a2_0, .slice A2_1 l2_1.length c2_1]) (t := 39) ?hr ?_; (case hd => rfl); (case hg => rfl); (case hr => first | (go_simp; done) | (go_simp; rfl)); intro gb1 hg W1 hbox hb; replace HB := bH HB hb; clear hb; have BK1 := Aside0.mk hbox; have c_BK1 := blk_cell hbox; have z_BK1 := blk_frozen hbox; clear hg hbox) | ((with_reducible refine gate_dst (N := 7) rfl ?_); refine box_event ?hg (N := 7) ?hd (cs := #[.int .i64 a3_0, .int .i64 a3_1, .int .i64 a3_2, .int .i64 a3_3, .int .i64 a3_4, .int .i64 a3_5]) (t := 41) ?hr ?_; (case hd => rfl); (case hg => rfl); (case hr => first | (go_simp; done) | (go_simp; rfl)); intro gb2 hg W2 hbox hb; replace BK1 := bK BK1 hb; replace c_BK1 := bcl BK1; replace z_BK1 := bfr BK1; replace HB := bH HB hb; clear hb; have BK2 := Aside0.mk hbox; have c_BK2 := blk_cell hbox; have z_BK2 := blk_frozen hbox; clear hg hbox))
 replace H := H.out
 replace H := obs H
 obtain ⟨t445, hm, H⟩ := H
 (try dsimp only at H)
 replace H := Aside0.mk H
 have hcall := spec_IsRequest.calls _ _ _ _ _ _ _ W2  hm
 clear hm
 (go_wp2_with fail)
 refine hcall.mono ?_
 rintro e W3 ⟨rfl, hb⟩
 clear hcall
 replace BK1 := bK BK1 hb; replace c_BK1 := bcl BK1; replace z_BK1 := bfr BK1
 replace BK2 := bK BK2 hb; replace c_BK2 := bcl BK2; replace z_BK2 := bfr BK2
 replace HB := bH HB hb; clear hb
 replace H := ifD H.out; rcases H with ⟨c4, H⟩ | ⟨c4, H⟩
 rotate_left
 ·replace c4 := nT c4
  subst c4
  cases H
  go_wp2
  go_ret
  exact ⟨rfl, HB.out⟩
 subst c4
 replace H := obs H
 obtain ⟨t446, hm, H⟩ := H
 (try dsimp only at H)
 replace H := Aside0.mk H
 have hcall := spec_IsPolicy.calls k _ _ _ _ _ W3 (Kd.C_below HR2_1.out HB.out) HC2_1.out hm
 clear hm
 (go_wp2_with fail)
 refine hcall.mono ?_
 rintro e W5 ⟨rfl, hb⟩
 clear hcall
 replace BK1 := bK BK1 hb; replace c_BK1 := bcl BK1; replace z_BK1 := bfr BK1
 replace BK2 := bK BK2 hb; replace c_BK2 := bcl BK2; replace z_BK2 := bfr BK2
 replace HB := bH HB hb; clear hb
 replace H := ifD H.out; rcases H with ⟨c6, H⟩ | ⟨c6, H⟩
 rotate_left
 ·replace c6 := nT c6
  subst c6
  cases H
  go_wp2
  go_ret
  exact ⟨rfl, HB.out⟩
 subst c6
 replace H := obs H
 obtain ⟨t447, hm, H⟩ := H
 (try dsimp only at H)
 replace H := Aside0.mk H
 have hcall := spec_RulesThatHold.calls k _ _ _ _ _ _ _ _ _ _ _ _ _ _ _ _ _ W5 (Kd.C_below HR0.out HB.out) HC0.out (Kd.C_below HR1.out HB.out) HC1.out (Kd.C_below HR2_1.out HB.out) HC2_1.out hm
 clear hm
 (go_wp2_with fail)
 refine hcall.mono ?_
 rintro e W7 ⟨v448, rfl, ho0, hb⟩
 clear hcall
 obtain ⟨A7_0, _, c7_0, rfl, rfl, hr_⟩ := R_made ho0 HB.out.size; clear ho0; have HO7_0 := Aside0.mk hr_; clear hr_
 replace BK1 := bK BK1 hb; replace c_BK1 := bcl BK1; replace z_BK1 := bfr BK1
 replace BK2 := bK BK2 hb; replace c_BK2 := bcl BK2; replace z_BK2 := bfr BK2
 replace HB := bH HB hb; clear hb
 go_wp2
 go_loopg [10] k (fun kq v10 w' => ∃ (x10_8 : Int), v10 = .int .i64 x10_8 ∧ Aside0 (spec_DecideBy.l0 kq t447 x10_8 a2_0 l2_1 = some r) ∧ Aside0 (kq ≤ k) ∧ Aside0 (w'.heap[gb1]? = some (.cells #[.int .i64 a2_0, .slice A2_1 l2_1.length c2_1] 39 (0, 0))) ∧ Aside0 (w'.heap[gb2]? = some (.cells #[.int .i64 a3_0, .int .i64 a3_1, .int .i64 a3_2, .int .i64 a3_3, .int .i64 a3_4, .int .i64 a3_5] 41 (0, 0))) ∧ Aside0 (Kd.R (Kd.int .i64) 3 w' w.heap.size (fun k_ => W5.heap.size ≤ k_ ∧ k_ < W7.heap.size) (.slice A7_0 t447.length c7_0) t447) ∧ Aside0 (Below w.heap.size w w'))
 case atStart => exact ⟨(0), zT, H, ⟨Nat.le_refl _⟩, BK1, BK2, HO7_0, HB⟩
 case round =>
  clear H HB BK1 c_BK1 z_BK1 BK2 c_BK2 z_BK2 HO7_0
  obtain ⟨x10_8, rfl, HA, Hk8, BK1, BK2, HO7_0, HB⟩ := hrel
  have c_BK1 := bcl BK1; have z_BK1 := bfr BK1
  have c_BK2 := bcl BK2; have z_BK2 := bfr BK2
  cases gk with
  | zero => exact absurd HA.out (by simp [spec_DecideBy.l0])
  | succ k8 =>
   have H := HA.out; clear HA; simp only [spec_DecideBy.l0] at H; replace H := ifD H; rcases H with ⟨c9, H⟩ | ⟨c9, H⟩; rotate_left
   ·have c9_0 := decF c9; replace c9 := Aside0.mk c9; (try rw [c9_0]); replace H := ifD H; rcases H with ⟨c15, H⟩ | ⟨c15, H⟩
    ·obtain ⟨c15_0, c15_1, c15_2⟩ := d3T c15; clear c15; (first | rw [c15_1] | rw [c15_2] | skip); cases H; go_wp2; go_ret; exact ⟨rfl, HB.out⟩
    have c15_x0 : ¬ (t447 = []) := fun h_ => c15 (by rw [h_]; rfl)
    obtain ⟨c15_0, c15_1, c15_2⟩ := d3F c15; clear c15; (first | rw [c15_1] | rw [c15_2] | skip); cases H; go_wp2; go_ret; exact ⟨rfl, HB.out⟩
   have c9_0 := decT c9; replace c9 := Aside0.mk c9; (try rw [c9_0]); replace H := ifN H; obtain ⟨c10, H⟩ := H; have c10_0 := decT c10; replace c10 := Aside0.mk c10; have p450 : 0 ≤ (x10_8 : Int) := (of_decide_eq_true (by assumption)); have q450 : x10_8 < (t447.length : Int) := (of_decide_eq_true (by assumption)); obtain ⟨ad450, e450, y450_0⟩ := Kd.at_int (R_C HO7_0.out) x10_8 p450 q450; cases e450; have r450 := eq_true p450; have s450 := eq_true q450; replace p450 := Aside0.mk p450; replace q450 := Aside0.mk q450; replace H := ifN H; obtain ⟨c11, H⟩ := H; have c11_0 := decT c11; replace c11 := Aside0.mk c11; replace H := ifN H; obtain ⟨c12, H⟩ := H; have c12_0 := decT c12; replace c12 := Aside0.mk c12; have p451 : 0 ≤ ((rd t447 x10_8) : Int) := (of_decide_eq_true (by assumption)); have q451 : (rd t447 x10_8) < (l2_1.length : Int) := (of_decide_eq_true (by assumption)); obtain ⟨ad451, A451_6, c451_6, e451, hx451_0, hx451_1, hx451_2, hx451_3, hx451_4, hx451_5, hx451_6, hl451_6, hi451_6⟩ := at_T174 HR2_1.out (rd t447 x10_8) p451 q451; cases e451; have HR451_6 := Aside0.mk hi451_6; have HC451_6 := Aside0.mk hl451_6; clear hi451_6 hl451_6; replace hx451_0 := Aside0.mk hx451_0; have y451_0 := xC HB hx451_0; replace hx451_1 := Aside0.mk hx451_1; have y451_1 := xC HB hx451_1; replace hx451_2 := Aside0.mk hx451_2; have y451_2 := xC HB hx451_2; replace hx451_3 := Aside0.mk hx451_3; have y451_3 := xC HB hx451_3; replace hx451_4 := Aside0.mk hx451_4; have y451_4 := xC HB hx451_4; replace hx451_5 := Aside0.mk hx451_5; have y451_5 := xC HB hx451_5; replace hx451_6 := Aside0.mk hx451_6; have y451_6 := xC HB hx451_6; have r451 := eq_true p451; have s451 := eq_true q451; replace p451 := Aside0.mk p451; replace q451 := Aside0.mk q451; replace H := Aside0.mk H; try go_wp2
   go_quiet (fail)
   (try clear y450_0 y451_0 y451_1 y451_2 y451_3 y451_4 y451_5 y451_6); replace HO7_0 := qR HO7_0 nq; clear c_BK1 z_BK1; replace BK1 := qK BK1 nq; clear c_BK2 z_BK2; replace BK2 := qK BK2 nq; replace HB := qH HB nq; generalize wr.drewN nq = W13 at HB BK1 BK2 HO7_0 ⊢; clear nq; have c_BK1 := bcl BK1; have z_BK1 := bfr BK1; have c_BK2 := bcl BK2; have z_BK2 := bfr BK2; replace H := ifD H.out; rcases H with ⟨c14, H⟩ | ⟨c14, H⟩
   ·obtain ⟨c14_0, c14_1, c14_2⟩ := d3T c14; clear c14; (first | rw [c14_1] | rw [c14_2] | skip); cases H; go_wp2; go_ret; exact ⟨rfl, HB.out⟩
   obtain ⟨c14_0, c14_1, c14_2⟩ := d3F c14; clear c14; (first | rw [c14_1] | rw [c14_2] | skip); replace H := Aside0.mk H; go_wp2; go_roundg k8
   case measure => have := Hk8.out; omega
   case rel => exact ⟨(wrap64 (x10_8 + 1)), zT, H, ⟨by have := Hk8.out; omega⟩, BK1, BK2, HO7_0, HB⟩
def spec_AtTime.f (a0_0 : Int) (a0_1 : Int) (a0_2 : Int) (a0_3 : Int) (a0_4 : Int) (a0_5 : Int) (a1 : Int) : Option (Int × Int × Int × Int × Int × Int) := some (a0_0, a0_1, a0_2, a0_3, a0_4, a1)
theorem spec_AtTime.calls (a0_0 : Int) (a0_1 : Int) (a0_2 : Int) (a0_3 : Int) (a0_4 : Int) (a0_5 : Int) (a1 : Int) (r1 : Int) (r2 : Int) (r3 : Int) (r4 : Int) (r5 : Int) (r6 : Int) (w : World) (h : spec_AtTime.f a0_0 a0_1 a0_2 a0_3 a0_4 a0_5 a1 = some (r1, r2, r3, r4, r5, r6)) :
  Calls Tryz.prog 95 #[.agg #[.int .i64 a0_0, .int .i64 a0_1, .int .i64 a0_2, .int .i64 a0_3, .int .i64 a0_4, .int .i64 a0_5], .int .i64 a1] w fun e w' => e = .returned (.agg #[.int .i64 r1, .int .i64 r2, .int .i64 r3, .int .i64 r4, .int .i64 r5, .int .i64 r6]) ∧ Below w.heap.size w w' := by
 have hu41 := Tryz.underlying41
 have HB := Aside0.mk (Below.refl w.heap.size w)
 (try unfold spec_AtTime.f at h)
 have H := h
 clear h
 simp only [Option.some.injEq, Prod.mk.injEq] at H
 obtain ⟨rfl, rfl, rfl, rfl, rfl, rfl⟩ := H
 go_enter Tryz.func95, Tryz.ntmps95
 go_wp2_with (first | ((with_reducible refine gate_dst (N := 2) rfl ?_); refine box_event ?hg (N := 2) ?hd (cs := #[.int .i64 a0_0, .int .i64 a0_1, .int .i64 a0_2, .int .i64 a0_3, .int .i64 a0_4, .int .i64 a0_5]) (t := 41) ?hr ?_; (case hd => rfl); (case hg => rfl); (case hr => first | (go_simp; done) | (go_simp; rfl)); intro gb452 hg w3 hbox hb; have n0_ := Aside0.mk (below_step zB hb); have n1_ := Aside0.mk (hbox); have n2_ := Aside0.mk ((by rw [hg]; exact (below_size zB) : w.heap.size ≤ gb452)); have n3_ := Aside0.mk ((by rw [hg]; exact (below_size zB) : w.heap.size ≤ gb452)); clear HB; have HB := n0_; have BK452 := n1_; have GW452 := n2_; have GE452 := n3_; clear n0_ n1_ n2_ n3_; clear hb hbox hg) | ((with_reducible refine gate_dst (N := 4) rfl ?_); refine box_event ?hg (N := 4) ?hd (cs := #[.int .i64 0, .int .i64 0, .int .i64 0, .int .i64 0, .int .i64 0, .int .i64 0]) (t := 41) ?hr ?_; (case hd => rfl); (case hg => rfl); (case hr => first | (go_simp; done) | (go_simp; rfl)); intro gb453 hg w4 hbox hb; have n0_ := Aside0.mk (blk_below (g := gb452) (o := .cells #[.int .i64 a0_0, .int .i64 a0_1, .int .i64 a0_2, .int .i64 a0_3, .int .i64 a0_4, .int .i64 a0_5] 41 (0, 0)) (zX BK452) hb); have n1_ := Aside0.mk (below_step zB hb); have n2_ := Aside0.mk (hbox); have n3_ := Aside0.mk ((by rw [hg]; exact (below_size zB) : w.heap.size ≤ gb453)); have n4_ := Aside0.mk ((by rw [hg]; exact (below_size zB) : w.heap.size ≤ gb453)); have n5_ := Aside0.mk ((by rw [hg]; exact Nat.ne_of_lt (blk_lt (g := gb452) (o := .cells #[.int .i64 a0_0, .int .i64 a0_1, .int .i64 a0_2, .int .i64 a0_3, .int .i64 a0_4, .int .i64 a0_5] 41 (0, 0)) (zX BK452)) : gb452 ≠ gb453)); have n6_ := Aside0.mk ((by rw [hg]; exact Nat.ne_of_gt (blk_lt (g := gb452) (o := .cells #[.int .i64 a0_0, .int .i64 a0_1, .int .i64 a0_2, .int .i64 a0_3, .int .i64 a0_4, .int .i64 a0_5] 41 (0, 0)) (zX BK452)) : gb453 ≠ gb452)); clear BK452; clear HB; have BK452 := n0_; have HB := n1_; have BK453 := n2_; have GW453 := n3_; have GE453 := n4_; have NB452_453 := n5_; have NB453_452 := n6_; clear n0_ n1_ n2_ n3_ n4_ n5_ n6_; clear hb hbox hg; have hnb5 := NB452_453.out; have hnc5 := NB453_452.out; have hcz6_0 : w4.cell? ⟨gb452, 0, none⟩ = some (.int .i64 a0_0) := (blk_cell BK452.out 0).trans rfl; have hcz6_1 : w4.cell? ⟨gb452, 1, none⟩ = some (.int .i64 a0_1) := (blk_cell BK452.out 1).trans rfl; have hcz6_2 : w4.cell? ⟨gb452, 2, none⟩ = some (.int .i64 a0_2) := (blk_cell BK452.out 2).trans rfl; have hcz6_3 : w4.cell? ⟨gb452, 3, none⟩ = some (.int .i64 a0_3) := (blk_cell BK452.out 3).trans rfl; have hcz6_4 : w4.cell? ⟨gb452, 4, none⟩ = some (.int .i64 a0_4) := (blk_cell BK452.out 4).trans rfl; have hcz6_5 : w4.cell? ⟨gb452, 5, none⟩ = some (.int .i64 a0_5) := (blk_cell BK452.out 5).trans rfl; have hfz6_0 := blk_frozen BK452.out 0; have hfz6_1 := blk_frozen BK452.out 1; have hfz6_2 := blk_frozen BK452.out 2; have hfz6_3 := blk_frozen BK452.out 3; have hfz6_4 := blk_frozen BK452.out 4; have hfz6_5 := blk_frozen BK452.out 5; have hcz7_0 : w4.cell? ⟨gb453, 0, none⟩ = some (.int .i64 0) := (blk_cell BK453.out 0).trans rfl; have hcz7_1 : w4.cell? ⟨gb453, 1, none⟩ = some (.int .i64 0) := (blk_cell BK453.out 1).trans rfl; have hcz7_2 : w4.cell? ⟨gb453, 2, none⟩ = some (.int .i64 0) := (blk_cell BK453.out 2).trans rfl; have hcz7_3 : w4.cell? ⟨gb453, 3, none⟩ = some (.int .i64 0) := (blk_cell BK453.out 3).trans rfl; have hcz7_4 : w4.cell? ⟨gb453, 4, none⟩ = some (.int .i64 0) := (blk_cell BK453.out 4).trans rfl; have hcz7_5 : w4.cell? ⟨gb453, 5, none⟩ = some (.int .i64 0) := (blk_cell BK453.out 5).trans rfl; have hfz7_0 := blk_frozen BK453.out 0; have hfz7_1 := blk_frozen BK453.out 1; have hfz7_2 := blk_frozen BK453.out 2; have hfz7_3 := blk_frozen BK453.out 3; have hfz7_4 := blk_frozen BK453.out 4; have hfz7_5 := blk_frozen BK453.out 5))
 refine bodyPost_ret (results_cell_row rfl _ _ gb453 41 #[.int .i64 a0_0, .int .i64 a0_1, .int .i64 a0_2, .int .i64 a0_3, .int .i64 a0_4, .int .i64 a1] (0, 0) _ rfl (zP) Tryz.underlying41 rfl (by kernel_rfl)) rfl ?_
 exact ⟨zE, zB⟩
def spec_DecisionUntil.l0 : Nat → List (S154) → List (S136) → Int → Int → Int → Int → List (S174) → Int → Int → Int → Int → Int → Int → Option (Int)
 | 0, _, _, _, _, _, _, _, _, _, _, _, _, _ => none
 | k + 1, x0, x1, x4, x11, x12, x455000, x455001, x456000, x456001, x456002, x456003, x456004, x456005 => if x12 < (wrap64 (x456005 + x4)) then (if x12 < 10000 then ((spec_AtTime.f x456000 x456001 x456002 x456003 x456004 x456005 (wrap64 (x12 + 1))).bind fun bt460 => ((spec_DecideBy.f k x0 x1 x455000 x455001 bt460.1 bt460.2.1 bt460.2.2.1 bt460.2.2.2.1 bt460.2.2.2.2.1 bt460.2.2.2.2.2).bind fun t466 => (if t466 = x11 then (spec_DecisionUntil.l0 k x0 x1 x4 x11 (wrap64 (x12 + 1)) x455000 x455001 x456000 x456001 x456002 x456003 x456004 x456005) else (some x12)))) else (some x12)) else (some x12)
def spec_DecisionUntil.f (k : Nat) (l0 : List (S154)) (l1 : List (S136)) (a2_0 : Int) (l2_1 : List (S174)) (a3_0 : Int) (a3_1 : Int) (a3_2 : Int) (a3_3 : Int) (a3_4 : Int) (a3_5 : Int) (a4 : Int) : Option (Int) := (spec_IsRequest.f a3_0 a3_1 a3_2 a3_3 a3_4 a3_5).bind fun t456 => (if t456 = true then ((spec_IsPolicy.f k a2_0 l2_1).bind fun t457 => (if t457 = true then ((spec_l1In.f a4 0 60).bind fun t458 => (if t458 = true then ((spec_DecideBy.f k l0 l1 a2_0 l2_1 a3_0 a3_1 a3_2 a3_3 a3_4 a3_5).bind fun t459 => (spec_DecisionUntil.l0 k l0 l1 a4 t459 a3_5 a2_0 l2_1 a3_0 a3_1 a3_2 a3_3 a3_4 a3_5)) else (some a3_5))) else (some a3_5))) else (some a3_5))
theorem spec_DecisionUntil.calls (k : Nat) (A0 : Option Addr) (c0 : Nat) (l0 : List (S154)) (A1 : Option Addr) (c1 : Nat) (l1 : List (S136)) (a2_0 : Int) (A2_1 : Option Addr) (c2_1 : Nat) (l2_1 : List (S174)) (a3_0 : Int) (a3_1 : Int) (a3_2 : Int) (a3_3 : Int) (a3_4 : Int) (a3_5 : Int) (a4 : Int) (r : Int) (w : World) (hr0 : Kd.C k154 w A0 l0.length l0) (hc0 : l0.length ≤ c0) (hr1 : Kd.C k136 w A1 l1.length l1) (hc1 : l1.length ≤ c1) (hr2_1 : Kd.C k174 w A2_1 l2_1.length l2_1) (hc2_1 : l2_1.length ≤ c2_1) (h : spec_DecisionUntil.f k l0 l1 a2_0 l2_1 a3_0 a3_1 a3_2 a3_3 a3_4 a3_5 a4 = some r) :
  Calls Tryz.prog 17 #[.slice A0 l0.length c0, .slice A1 l1.length c1, .agg #[.int .i64 a2_0, .slice A2_1 l2_1.length c2_1], .agg #[.int .i64 a3_0, .int .i64 a3_1, .int .i64 a3_2, .int .i64 a3_3, .int .i64 a3_4, .int .i64 a3_5], .int .i64 a4] w fun e w' => e = .returned (.int .i64 r) ∧ Below w.heap.size w w' := by
 have HR0 := Aside0.mk hr0
 have HC0 := Aside0.mk hc0
 clear hr0 hc0
 have HR1 := Aside0.mk hr1
 have HC1 := Aside0.mk hc1
 clear hr1 hc1
 have HR2_1 := Aside0.mk hr2_1
 have HC2_1 := Aside0.mk hc2_1
 clear hr2_1 hc2_1
 have HB := Aside0.mk (Below.refl w.heap.size w)
 have H := h
 clear h
 unfold spec_DecisionUntil.f at H
 have hu39 := Tryz.underlying39
 have hu41 := Tryz.underlying41
 go_enter Tryz.func17, Tryz.ntmps17
 replace H := Aside0.mk H
 go_upto_region 1 with (first | ((with_reducible refine gate_dst (N := 7) rfl ?_); refine box_event ?hg (N := 7) ?hd (cs := #[.int .i64 a2_0, .slice A2_1 l2_1.length c2_1]) (t := 39) ?hr ?_; (case hd => rfl); (case hg => rfl); (case hr => first | (go_simp; done) | (go_simp; rfl)); intro gb1 hg W1 hbox hb; replace HB := bH HB hb; clear hb; have BK1 := Aside0.mk hbox; have c_BK1 := blk_cell hbox; have z_BK1 := blk_frozen hbox; clear hg hbox) | ((with_reducible refine gate_dst (N := 8) rfl ?_); refine box_event ?hg (N := 8) ?hd (cs := #[.int .i64 a3_0, .int .i64 a3_1, .int .i64 a3_2, .int .i64 a3_3, .int .i64 a3_4, .int .i64 a3_5]) (t := 41) ?hr ?_; (case hd => rfl); (case hg => rfl); (case hr => first | (go_simp; done) | (go_simp; rfl)); intro gb2 hg W2 hbox hb; replace BK1 := bK BK1 hb; replace c_BK1 := bcl BK1; replace z_BK1 := bfr BK1; replace HB := bH HB hb; clear hb; have BK2 := Aside0.mk hbox; have c_BK2 := blk_cell hbox; have z_BK2 := blk_frozen hbox; clear hg hbox))
 replace H := H.out
 replace H := obs H
 obtain ⟨t456, hm, H⟩ := H
 (try dsimp only at H)
 replace H := Aside0.mk H
 have hcall := spec_IsRequest.calls _ _ _ _ _ _ _ W2  hm
 clear hm
 (go_wp2_with fail)
 refine hcall.mono ?_
 rintro e W3 ⟨rfl, hb⟩
 clear hcall
 replace BK1 := bK BK1 hb; replace c_BK1 := bcl BK1; replace z_BK1 := bfr BK1
 replace BK2 := bK BK2 hb; replace c_BK2 := bcl BK2; replace z_BK2 := bfr BK2
 replace HB := bH HB hb; clear hb
 replace H := ifD H.out; rcases H with ⟨c4, H⟩ | ⟨c4, H⟩
 rotate_left
 ·replace c4 := nT c4
  subst c4
  cases H
  go_wp2
  go_ret
  exact ⟨rfl, HB.out⟩
 subst c4
 replace H := obs H
 obtain ⟨t457, hm, H⟩ := H
 (try dsimp only at H)
 replace H := Aside0.mk H
 have hcall := spec_IsPolicy.calls k _ _ _ _ _ W3 (Kd.C_below HR2_1.out HB.out) HC2_1.out hm
 clear hm
 (go_wp2_with fail)
 refine hcall.mono ?_
 rintro e W5 ⟨rfl, hb⟩
 clear hcall
 replace BK1 := bK BK1 hb; replace c_BK1 := bcl BK1; replace z_BK1 := bfr BK1
 replace BK2 := bK BK2 hb; replace c_BK2 := bcl BK2; replace z_BK2 := bfr BK2
 replace HB := bH HB hb; clear hb
 replace H := ifD H.out; rcases H with ⟨c6, H⟩ | ⟨c6, H⟩
 rotate_left
 ·replace c6 := nT c6
  subst c6
  cases H
  go_wp2
  go_ret
  exact ⟨rfl, HB.out⟩
 subst c6
 replace H := obs H
 obtain ⟨t458, hm, H⟩ := H
 (try dsimp only at H)
 replace H := Aside0.mk H
 have hcall := spec_l1In.calls _ _ _ _ W5  hm
 clear hm
 (go_wp2_with fail)
 refine hcall.mono ?_
 rintro e W7 ⟨rfl, hb⟩
 clear hcall
 replace BK1 := bK BK1 hb; replace c_BK1 := bcl BK1; replace z_BK1 := bfr BK1
 replace BK2 := bK BK2 hb; replace c_BK2 := bcl BK2; replace z_BK2 := bfr BK2
 replace HB := bH HB hb; clear hb
 replace H := ifD H.out; rcases H with ⟨c8, H⟩ | ⟨c8, H⟩
 rotate_left
 ·replace c8 := nT c8
  subst c8
  cases H
  go_wp2
  go_ret
  exact ⟨rfl, HB.out⟩
 subst c8
 replace H := obs H
 obtain ⟨t459, hm, H⟩ := H
 (try dsimp only at H)
 replace H := Aside0.mk H
 have hcall := spec_DecideBy.calls k _ _ _ _ _ _ _ _ _ _ _ _ _ _ _ _ _ W7 (Kd.C_below HR0.out HB.out) HC0.out (Kd.C_below HR1.out HB.out) HC1.out (Kd.C_below HR2_1.out HB.out) HC2_1.out hm
 clear hm
 (go_wp2_with fail)
 refine hcall.mono ?_
 rintro e W9 ⟨rfl, hb⟩
 clear hcall
 replace BK1 := bK BK1 hb; replace c_BK1 := bcl BK1; replace z_BK1 := bfr BK1
 replace BK2 := bK BK2 hb; replace c_BK2 := bcl BK2; replace z_BK2 := bfr BK2
 replace HB := bH HB hb; clear hb
 go_wp2
 go_loopg [12] k (fun kq v12 w' => ∃ (x12_10 : Int), v12 = .int .i64 x12_10 ∧ Aside0 (spec_DecisionUntil.l0 kq l0 l1 a4 t459 x12_10 a2_0 l2_1 a3_0 a3_1 a3_2 a3_3 a3_4 a3_5 = some r) ∧ Aside0 (kq ≤ k) ∧ Aside0 (w'.heap[gb1]? = some (.cells #[.int .i64 a2_0, .slice A2_1 l2_1.length c2_1] 39 (0, 0))) ∧ Aside0 (w'.heap[gb2]? = some (.cells #[.int .i64 a3_0, .int .i64 a3_1, .int .i64 a3_2, .int .i64 a3_3, .int .i64 a3_4, .int .i64 a3_5] 41 (0, 0))) ∧ Aside0 (Below w.heap.size w w'))
 case atStart => exact ⟨(a3_5), zT, H, ⟨Nat.le_refl _⟩, BK1, BK2, HB⟩
 case round =>
  clear H HB BK1 c_BK1 z_BK1 BK2 c_BK2 z_BK2
  obtain ⟨x12_10, rfl, HA, Hk10, BK1, BK2, HB⟩ := hrel
  have c_BK1 := bcl BK1; have z_BK1 := bfr BK1
  have c_BK2 := bcl BK2; have z_BK2 := bfr BK2
  cases gk with
  | zero => exact absurd HA.out (by simp [spec_DecisionUntil.l0])
  | succ k10 =>
   have H := HA.out; clear HA; simp only [spec_DecisionUntil.l0] at H; replace H := Aside0.mk H; try go_wp2
   clear c_BK1 z_BK1; have rBK1 := BK1; replace BK1 := dK BK1; clear c_BK2 z_BK2; have rBK2 := BK2; replace BK2 := dK BK2; have HBr := HB; replace HB := dH HB; refine stA (n := 22) (S := fun w' => Below wr.heap.size wr w') (by kernel_rfl) rfl (below_drew1 (Below.refl _ wr)) (by kernel_rfl) (fun hHeld => ?_); generalize wr.drew = W11 at HB BK1 BK2 hHeld ⊢; refine pu 0 (some 35) 1 ?_; refine pu 1 (some 36) 3 ?_; refine pu 3 (some 38) 11 ?_; refine ld 2 (some 37) 15 hHeld ?_ (hr := by (intro w' h_; have y_ := kD rBK2 h_; go_simp; with_reducible rfl)); refine pu 4 (some 39) 31 ?_; replace H := ifD H.out; rcases H with ⟨c12, H⟩ | ⟨c12, H⟩; rotate_left
   ·have c12_0 := decF c12; replace c12 := Aside0.mk c12; (try rw [c12_0]); replace H := Aside0.mk H; refine pu 5 (some 40) 63 ?_; refine pu 6 (some 41) 127 ?_; refine sk 7 (some 42) 255 ?_; refine sk 8 (some 43) 511 ?_; refine pu 9 (some 44) 1023 ?_; refine pu 10 (some 45) 2047 ?_; refine sk 11 (some 46) 4095 ?_; refine sk 12 (some 47) 8191 ?_; refine sk 13 (some 48) 16383 ?_; refine sk 14 (some 49) 32767 ?_; refine sk 15 (some 50) 65535 ?_; refine sk 16 (some 51) 131071 ?_; refine sk 17 (some 52) 262143 ?_; refine sk 18 (some 53) 524287 ?_; refine sk 19 (some 54) 1048575 ?_; refine sk 20 (some 55) 2097151 ?_; refine pu 21 (some 56) 4194303 ?_; refine dn (by kernel_rfl) ?_; clear hHeld HBr rBK1 rBK2; have c_BK1 := bcl BK1; have z_BK1 := bfr BK1; have c_BK2 := bcl BK2; have z_BK2 := bfr BK2; replace H := H.out; cases H; go_wp2; go_ret; exact ⟨rfl, HB.out⟩
   have c12_0 := decT c12; replace c12 := Aside0.mk c12; (try rw [c12_0]); replace H := ifD H; rcases H with ⟨c13, H⟩ | ⟨c13, H⟩; rotate_left
   ·have c13_0 := decF c13; replace c13 := Aside0.mk c13; (try rw [c13_0]); replace H := Aside0.mk H; refine pu 5 (some 40) 63 ?_; refine pu 6 (some 41) 127 ?_; refine pu 7 (some 42) 255 ?_; refine pu 8 (some 43) 511 ?_; refine pu 9 (some 44) 1023 ?_; refine pu 10 (some 45) 2047 ?_; refine sk 11 (some 46) 4095 ?_; refine sk 12 (some 47) 8191 ?_; refine sk 13 (some 48) 16383 ?_; refine sk 14 (some 49) 32767 ?_; refine sk 15 (some 50) 65535 ?_; refine sk 16 (some 51) 131071 ?_; refine sk 17 (some 52) 262143 ?_; refine sk 18 (some 53) 524287 ?_; refine sk 19 (some 54) 1048575 ?_; refine sk 20 (some 55) 2097151 ?_; refine pu 21 (some 56) 4194303 ?_; refine dn (by kernel_rfl) ?_; clear hHeld HBr rBK1 rBK2; have c_BK1 := bcl BK1; have z_BK1 := bfr BK1; have c_BK2 := bcl BK2; have z_BK2 := bfr BK2; replace H := H.out; cases H; go_wp2; go_ret; exact ⟨rfl, HB.out⟩
   have c13_0 := decT c13; replace c13 := Aside0.mk c13; (try rw [c13_0]); replace H := obs H; obtain ⟨⟨t460, t461, t462, t463, t464, t465⟩, hm, H⟩ := H; (try dsimp only at H); replace hm := Aside0.mk hm; replace H := Aside0.mk H; refine pu 5 (some 40) 63 ?_; refine pu 6 (some 41) 127 ?_; refine pu 7 (some 42) 255 ?_; refine pu 8 (some 43) 511 ?_; refine pu 9 (some 44) 1023 ?_; refine pu 10 (some 45) 2047 ?_; refine pu 11 (some 46) 4095 ?_; refine pu 12 (some 47) 8191 ?_; refine pu 15 (some 50) 40959 ?_; refine pu 16 (some 51) 106495 ?_; refine ld 13 (some 48) 114687 hHeld ?_ (hr := by (intro w' h_; have y_ := kD rBK1 h_; go_simp; with_reducible rfl)); refine ld 14 (some 49) 131071 hHeld ?_ (hr := by (intro w' h_; have y_ := kD rBK2 h_; go_simp; with_reducible rfl)); refine pu 19 (some 54) 655359 ?_; refine on 17 (some 52) 786431 (fun K hK => ?_); have hcall := spec_AtTime.calls _ _ _ _ _ _ _ _ _ _ _ _ _ W11  hm.out; refine goes_ Tryz.func95 (by kernel_rfl) rfl #[.agg #[.int .i64 a3_0, .int .i64 a3_1, .int .i64 a3_2, .int .i64 a3_3, .int .i64 a3_4, .int .i64 a3_5], .int .i64 (wrap64 (x12_10 + 1))] (by rfl) rfl rfl zM ?_; refine hcall.mono ?_; rintro e W15 ⟨rfl, hb⟩; refine ⟨_, rfl, ?_⟩; clear hcall hm; replace hHeld := below_step hHeld hb; replace BK1 := bK BK1 hb; replace BK2 := bK BK2 hb; replace HB := bH HB hb; clear hb; refine hK.out _ _ hHeld (fun hHeld => ?_); clear hK K; refine nr 52 ?_; replace H := H.out; replace H := obs H; obtain ⟨t466, hm, H⟩ := H; (try dsimp only at H); replace hm := Aside0.mk hm; replace H := Aside0.mk H; refine on 18 (some 53) 1048575 (fun K hK => ?_); have hcall := spec_DecideBy.calls k10 _ _ _ _ _ _ _ _ _ _ _ _ _ _ _ _ _ W15 (Kd.C_below HR0.out HB.out) HC0.out (Kd.C_below HR1.out HB.out) HC1.out (Kd.C_below HR2_1.out HB.out) HC2_1.out hm.out; refine goes_ Tryz.func94 (by kernel_rfl) rfl #[.slice A0 l0.length c0, .slice A1 l1.length c1, .agg #[.int .i64 a2_0, .slice A2_1 l2_1.length c2_1], .agg #[.int .i64 t460, .int .i64 t461, .int .i64 t462, .int .i64 t463, .int .i64 t464, .int .i64 t465]] (by rfl) rfl rfl zM ?_; refine hcall.mono ?_; rintro e W17 ⟨rfl, hb⟩; refine ⟨_, rfl, ?_⟩; clear hcall hm; replace hHeld := below_step hHeld hb; replace BK1 := bK BK1 hb; replace BK2 := bK BK2 hb; replace HB := bH HB hb; clear hb; refine hK.out _ _ hHeld (fun hHeld => ?_); clear hK K; refine nr 53 ?_; refine pu 20 (some 55) 2097151 ?_; refine pu 21 (some 56) 4194303 ?_; refine dn (by kernel_rfl) ?_; clear hHeld HBr rBK1 rBK2; have c_BK1 := bcl BK1; have z_BK1 := bfr BK1; have c_BK2 := bcl BK2; have z_BK2 := bfr BK2; replace H := ifD H.out; rcases H with ⟨c18, H⟩ | ⟨c18, H⟩; rotate_left
   ·obtain ⟨c18_0, c18_1, c18_2⟩ := d3F c18; clear c18; (first | rw [c18_1] | rw [c18_2] | skip); cases H; go_wp2; go_ret; exact ⟨rfl, HB.out⟩
   obtain ⟨c18_0, c18_1, c18_2⟩ := d3T c18; clear c18; (first | rw [c18_1] | rw [c18_2] | skip); replace H := Aside0.mk H; go_wp2; go_roundg k10
   case measure => have := Hk10.out; omega
   case rel => exact ⟨(wrap64 (x12_10 + 1)), zT, H, ⟨by have := Hk10.out; omega⟩, BK1, BK2, HB⟩
def spec_SaveDecision.f (k : Nat) (l0 : List (S154)) (l1 : List (S136)) (a2_0 : Int) (l2_1 : List (S174)) (a3_0 : Int) (a3_1 : Int) (a3_2 : Int) (a3_3 : Int) (a3_4 : Int) (a3_5 : Int) (a4 : Int) : Option (Int × Int × Int × Int × Int × Int × Int × Int) := (spec_DecideBy.f k l0 l1 a2_0 l2_1 a3_0 a3_1 a3_2 a3_3 a3_4 a3_5).bind fun t470 => ((spec_DecisionUntil.f k l0 l1 a2_0 l2_1 a3_0 a3_1 a3_2 a3_3 a3_4 a3_5 a4).bind fun t471 => (some (a3_0, a3_1, a3_2, a3_3, a3_4, a3_5, t470, t471)))
def spec_SaveDecision.T1 : Bool × List (List Nat × List Nat) := (true, [([], []), ([], []), ([], []), ([], []), ([], []), ([1, 2, 3, 4], [1, 2, 3, 4]), ([], []), ([], []), ([], []), ([], []), ([], []), ([6, 7, 8, 9, 10, 5], [6, 7, 8, 9, 10]), ([0, 5, 11], [0, 5, 11]), ([12, 11, 0, 1, 2, 3, 4, 5, 6, 7, 8, 9, 10, 11, 12], [12])])
def spec_SaveDecision.B1 : List Nat := [0, 0, 0, 0, 0, 30, 0, 0, 0, 0, 0, 2046, 4095, 8191]
theorem spec_SaveDecision.tab1 : rtab .any (opsOf Tryz.f26 1) = spec_SaveDecision.T1 := by kernel_rfl
theorem spec_SaveDecision.bits1 : waitsOk spec_SaveDecision.T1.2 spec_SaveDecision.B1 = true := by kernel_rfl
theorem spec_SaveDecision.calls (k : Nat) (A0 : Option Addr) (c0 : Nat) (l0 : List (S154)) (A1 : Option Addr) (c1 : Nat) (l1 : List (S136)) (a2_0 : Int) (A2_1 : Option Addr) (c2_1 : Nat) (l2_1 : List (S174)) (a3_0 : Int) (a3_1 : Int) (a3_2 : Int) (a3_3 : Int) (a3_4 : Int) (a3_5 : Int) (a4 : Int) (r1 : Int) (r2 : Int) (r3 : Int) (r4 : Int) (r5 : Int) (r6 : Int) (r7 : Int) (r8 : Int) (w : World) (hr0 : Kd.C k154 w A0 l0.length l0) (hc0 : l0.length ≤ c0) (hr1 : Kd.C k136 w A1 l1.length l1) (hc1 : l1.length ≤ c1) (hr2_1 : Kd.C k174 w A2_1 l2_1.length l2_1) (hc2_1 : l2_1.length ≤ c2_1) (h : spec_SaveDecision.f k l0 l1 a2_0 l2_1 a3_0 a3_1 a3_2 a3_3 a3_4 a3_5 a4 = some (r1, r2, r3, r4, r5, r6, r7, r8)) :
  Calls Tryz.prog 26 #[.slice A0 l0.length c0, .slice A1 l1.length c1, .agg #[.int .i64 a2_0, .slice A2_1 l2_1.length c2_1], .agg #[.int .i64 a3_0, .int .i64 a3_1, .int .i64 a3_2, .int .i64 a3_3, .int .i64 a3_4, .int .i64 a3_5], .int .i64 a4] w fun e w' => e = .returned (.agg #[.int .i64 r1, .int .i64 r2, .int .i64 r3, .int .i64 r4, .int .i64 r5, .int .i64 r6, .int .i64 r7, .int .i64 r8]) ∧ Below w.heap.size w w' := by
 have hu39 := Tryz.underlying39
 have hu41 := Tryz.underlying41
 have hu48 := Tryz.underlying48
 have HR0 := Aside0.mk hr0
 have HC0 := Aside0.mk hc0
 clear hr0 hc0
 have HR1 := Aside0.mk hr1
 have HC1 := Aside0.mk hc1
 clear hr1 hc1
 have HR2_1 := Aside0.mk hr2_1
 have HC2_1 := Aside0.mk hc2_1
 clear hr2_1 hc2_1
 have HB := Aside0.mk (Below.refl w.heap.size w)
 (try unfold spec_SaveDecision.f at h)
 have H := h
 clear h
 replace H := obs H
 obtain ⟨t470, A60, H⟩ := H
 (try dsimp only at H)
 have A6 := Aside0.mk A60
 clear A60
 replace H := obs H
 obtain ⟨t471, A70, H⟩ := H
 (try dsimp only at H)
 have A7 := Aside0.mk A70
 clear A70
 simp only [Option.some.injEq, Prod.mk.injEq] at H
 obtain ⟨rfl, rfl, rfl, rfl, rfl, rfl, rfl, rfl⟩ := H
 go_enter Tryz.func26, Tryz.ntmps26
 try go_wp2_with (first | ((with_reducible refine gate_dst (N := 7) rfl ?_); refine box_event ?hg (N := 7) ?hd (cs := #[.int .i64 a2_0, .slice A2_1 l2_1.length c2_1]) (t := 39) ?hr ?_; (case hd => rfl); (case hg => rfl); (case hr => first | (go_simp; done) | (go_simp; rfl)); intro gb467 hg w8 hbox hb; have n0_ := Aside0.mk (below_step zB hb); have n1_ := Aside0.mk (hbox); have n2_ := Aside0.mk ((by rw [hg]; exact (below_size zB) : w.heap.size ≤ gb467)); have n3_ := Aside0.mk ((by rw [hg]; exact (below_size zB) : w.heap.size ≤ gb467)); clear HB; have HB := n0_; have BK467 := n1_; have GW467 := n2_; have GE467 := n3_; clear n0_ n1_ n2_ n3_; clear hb hbox hg) | ((with_reducible refine gate_dst (N := 8) rfl ?_); refine box_event ?hg (N := 8) ?hd (cs := #[.int .i64 a3_0, .int .i64 a3_1, .int .i64 a3_2, .int .i64 a3_3, .int .i64 a3_4, .int .i64 a3_5]) (t := 41) ?hr ?_; (case hd => rfl); (case hg => rfl); (case hr => first | (go_simp; done) | (go_simp; rfl)); intro gb468 hg w9 hbox hb; have n0_ := Aside0.mk (blk_below (g := gb467) (o := .cells #[.int .i64 a2_0, .slice A2_1 l2_1.length c2_1] 39 (0, 0)) (zX BK467) hb); have n1_ := Aside0.mk (below_step zB hb); have n2_ := Aside0.mk (hbox); have n3_ := Aside0.mk ((by rw [hg]; exact (below_size zB) : w.heap.size ≤ gb468)); have n4_ := Aside0.mk ((by rw [hg]; exact (below_size zB) : w.heap.size ≤ gb468)); have n5_ := Aside0.mk ((by rw [hg]; exact Nat.ne_of_lt (blk_lt (g := gb467) (o := .cells #[.int .i64 a2_0, .slice A2_1 l2_1.length c2_1] 39 (0, 0)) (zX BK467)) : gb467 ≠ gb468)); have n6_ := Aside0.mk ((by rw [hg]; exact Nat.ne_of_gt (blk_lt (g := gb467) (o := .cells #[.int .i64 a2_0, .slice A2_1 l2_1.length c2_1] 39 (0, 0)) (zX BK467)) : gb468 ≠ gb467)); clear BK467; clear HB; have BK467 := n0_; have HB := n1_; have BK468 := n2_; have GW468 := n3_; have GE468 := n4_; have NB467_468 := n5_; have NB468_467 := n6_; clear n0_ n1_ n2_ n3_ n4_ n5_ n6_; clear hb hbox hg) | ((with_reducible refine gate_dst (N := 10) rfl ?_); refine box_event ?hg (N := 10) ?hd (cs := #[.int .i64 0, .int .i64 0, .int .i64 0, .int .i64 0, .int .i64 0, .int .i64 0, .int .i64 0, .int .i64 0]) (t := 48) ?hr ?_; (case hd => rfl); (case hg => rfl); (case hr => first | (go_simp; done) | (go_simp; rfl)); intro gb469 hg w10 hbox hb; have n0_ := Aside0.mk (blk_below (g := gb467) (o := .cells #[.int .i64 a2_0, .slice A2_1 l2_1.length c2_1] 39 (0, 0)) (zX BK467) hb); have n1_ := Aside0.mk (blk_below (g := gb468) (o := .cells #[.int .i64 a3_0, .int .i64 a3_1, .int .i64 a3_2, .int .i64 a3_3, .int .i64 a3_4, .int .i64 a3_5] 41 (0, 0)) (zX BK468) hb); have n2_ := Aside0.mk (below_step zB hb); have n3_ := Aside0.mk (hbox); have n4_ := Aside0.mk ((by rw [hg]; exact (below_size zB) : w.heap.size ≤ gb469)); have n5_ := Aside0.mk ((by rw [hg]; exact (below_size zB) : w.heap.size ≤ gb469)); have n6_ := Aside0.mk ((by rw [hg]; exact Nat.ne_of_lt (blk_lt (g := gb467) (o := .cells #[.int .i64 a2_0, .slice A2_1 l2_1.length c2_1] 39 (0, 0)) (zX BK467)) : gb467 ≠ gb469)); have n7_ := Aside0.mk ((by rw [hg]; exact Nat.ne_of_gt (blk_lt (g := gb467) (o := .cells #[.int .i64 a2_0, .slice A2_1 l2_1.length c2_1] 39 (0, 0)) (zX BK467)) : gb469 ≠ gb467)); have n8_ := Aside0.mk ((by rw [hg]; exact Nat.ne_of_lt (blk_lt (g := gb468) (o := .cells #[.int .i64 a3_0, .int .i64 a3_1, .int .i64 a3_2, .int .i64 a3_3, .int .i64 a3_4, .int .i64 a3_5] 41 (0, 0)) (zX BK468)) : gb468 ≠ gb469)); have n9_ := Aside0.mk ((by rw [hg]; exact Nat.ne_of_gt (blk_lt (g := gb468) (o := .cells #[.int .i64 a3_0, .int .i64 a3_1, .int .i64 a3_2, .int .i64 a3_3, .int .i64 a3_4, .int .i64 a3_5] 41 (0, 0)) (zX BK468)) : gb469 ≠ gb468)); clear BK467; clear BK468; clear HB; have BK467 := n0_; have BK468 := n1_; have HB := n2_; have BK469 := n3_; have GW469 := n4_; have GE469 := n5_; have NB467_469 := n6_; have NB469_467 := n7_; have NB468_469 := n8_; have NB469_468 := n9_; clear n0_ n1_ n2_ n3_ n4_ n5_ n6_ n7_ n8_ n9_; clear hb hbox hg))
 have n0_ := Aside0.mk (blk_drew BK467.out)
 have n1_ := Aside0.mk (blk_drew BK468.out)
 have n2_ := Aside0.mk (blk_drew BK469.out)
 have n3_ := Aside0.mk (below_drew1 HB.out)
 clear BK467
 clear BK468
 clear BK469
 clear HB
 have BK467 := n0_
 have BK468 := n1_
 have BK469 := n2_
 have HB := n3_
 clear n0_ n1_ n2_ n3_
 refine start_ (n := 14) (S := fun w' => w'.cell? ⟨gb468, 0, none⟩ = some (.int .i64 a3_0) ∧ w'.cell? ⟨gb468, 1, none⟩ = some (.int .i64 a3_1) ∧ w'.cell? ⟨gb468, 2, none⟩ = some (.int .i64 a3_2) ∧ w'.cell? ⟨gb468, 3, none⟩ = some (.int .i64 a3_3) ∧ w'.cell? ⟨gb468, 4, none⟩ = some (.int .i64 a3_4) ∧ w'.cell? ⟨gb468, 5, none⟩ = some (.int .i64 a3_5) ∧ w'.cell? ⟨gb467, 0, none⟩ = some (.int .i64 a2_0) ∧ w'.cell? ⟨gb467, 1, none⟩ = some (.slice A2_1 l2_1.length c2_1)) (ds := []) #[false, false, false, false, false, false, false, false, false, false, false, false, false, false] (by kernel_rfl) rfl rfl ⟨(blk_cell BK468.out 0).trans rfl, (blk_cell BK468.out 1).trans rfl, (blk_cell BK468.out 2).trans rfl, (blk_cell BK468.out 3).trans rfl, (blk_cell BK468.out 4).trans rfl, (blk_cell BK468.out 5).trans rfl, (blk_cell BK467.out 0).trans rfl, (blk_cell BK467.out 1).trans rfl⟩ (fun hHeld => ?_); refine with_tabW spec_SaveDecision.tab1 spec_SaveDecision.bits1 (fun HT_ HW_ => ?_)
 generalize w10.drew = w11 at BK467 BK468 BK469 HB hHeld ⊢
 refine pure_ (i := 1) (N := some 12) (v := ?_) (a' := ?_) #[false, true, false, false, false, false, false, false, false, false, false, false, false, false] rfl rfl (any_of HT_.out (by kernel_rfl)) (fun _ _ _ h => h) (Or.inl ⟨by rfl, ?_⟩) ?_ ?_
 rotate_left
 ·intro w'
  go_simp
  with_reducible rfl
 rotate_left
 ·simp only [Act.put, List.setIfInBounds_toArray, List.set_cons_zero, List.set_cons_succ, i64_w, i32_w]
  rfl
 refine pure_ (i := 2) (N := some 13) (v := ?_) (a' := ?_) #[false, true, true, false, false, false, false, false, false, false, false, false, false, false] rfl rfl (any_of HT_.out (by kernel_rfl)) (fun _ _ _ h => h) (Or.inl ⟨by rfl, ?_⟩) ?_ ?_
 rotate_left
 ·intro w'
  go_simp
  with_reducible rfl
 rotate_left
 ·simp only [Act.put, List.setIfInBounds_toArray, List.set_cons_zero, List.set_cons_succ, i64_w, i32_w]
  rfl
 refine pure_ (i := 6) (N := some 17) (v := ?_) (a' := ?_) #[false, true, true, false, false, false, true, false, false, false, false, false, false, false] rfl rfl (any_of HT_.out (by kernel_rfl)) (fun _ _ _ h => h) (Or.inl ⟨by rfl, ?_⟩) ?_ ?_
 rotate_left
 ·intro w'
  go_simp
  with_reducible rfl
 rotate_left
 ·simp only [Act.put, List.setIfInBounds_toArray, List.set_cons_zero, List.set_cons_succ, i64_w, i32_w]
  rfl
 refine pure_ (i := 7) (N := some 18) (v := ?_) (a' := ?_) #[false, true, true, false, false, false, true, true, false, false, false, false, false, false] rfl rfl (any_of HT_.out (by kernel_rfl)) (fun _ _ _ h => h) (Or.inl ⟨by rfl, ?_⟩) ?_ ?_
 rotate_left
 ·intro w'
  go_simp
  with_reducible rfl
 rotate_left
 ·simp only [Act.put, List.setIfInBounds_toArray, List.set_cons_zero, List.set_cons_succ, i64_w, i32_w]
  rfl
 refine pure_ (i := 10) (N := some 21) (v := ?_) (a' := ?_) #[false, true, true, false, false, false, true, true, false, false, true, false, false, false] rfl rfl (any_of HT_.out (by kernel_rfl)) (fun _ _ _ h => h) (Or.inl ⟨by rfl, ?_⟩) ?_ ?_
 rotate_left
 ·intro w'
  go_simp
  with_reducible rfl
 rotate_left
 ·simp only [Act.put, List.setIfInBounds_toArray, List.set_cons_zero, List.set_cons_succ, i64_w, i32_w]
  rfl
 refine take_ (i := 0) (N := some 11) (v := ?_) (a' := ?_) #[true, true, true, false, false, false, true, true, false, false, true, false, false, false] rfl rfl (take_ofW HT_.out HW_.out (by kernel_rfl)) (fun _ _ _ h => h) (Or.inl ⟨by rfl, ?_⟩) hHeld ?_ ?_
 rotate_left
 ·rintro w' ⟨s0, s1, s2, s3, s4, s5, s6, s7⟩
  go_simp
  with_reducible rfl
 rotate_left
 ·simp only [Act.put, List.setIfInBounds_toArray, List.set_cons_zero, List.set_cons_succ, i64_w, i32_w]
  rfl
 refine take_ (i := 3) (N := some 14) (v := ?_) (a' := ?_) #[true, true, true, true, false, false, true, true, false, false, true, false, false, false] rfl rfl (take_ofW HT_.out HW_.out (by kernel_rfl)) (fun _ _ _ h => h) (Or.inl ⟨by rfl, ?_⟩) hHeld ?_ ?_
 rotate_left
 ·rintro w' ⟨s0, s1, s2, s3, s4, s5, s6, s7⟩
  go_simp
  with_reducible rfl
 rotate_left
 ·simp only [Act.put, List.setIfInBounds_toArray, List.set_cons_zero, List.set_cons_succ, i64_w, i32_w]
  rfl
 refine take_ (i := 4) (N := some 15) (v := ?_) (a' := ?_) #[true, true, true, true, true, false, true, true, false, false, true, false, false, false] rfl rfl (take_ofW HT_.out HW_.out (by kernel_rfl)) (fun _ _ _ h => h) (Or.inl ⟨by rfl, ?_⟩) hHeld ?_ ?_
 rotate_left
 ·rintro w' ⟨s0, s1, s2, s3, s4, s5, s6, s7⟩
  go_simp
  with_reducible rfl
 rotate_left
 ·simp only [Act.put, List.setIfInBounds_toArray, List.set_cons_zero, List.set_cons_succ, i64_w, i32_w]
  rfl
 refine take_ (i := 8) (N := some 19) (v := ?_) (a' := ?_) #[true, true, true, true, true, false, true, true, true, false, true, false, false, false] rfl rfl (take_ofW HT_.out HW_.out (by kernel_rfl)) (fun _ _ _ h => h) (Or.inl ⟨by rfl, ?_⟩) hHeld ?_ ?_
 rotate_left
 ·rintro w' ⟨s0, s1, s2, s3, s4, s5, s6, s7⟩
  go_simp
  with_reducible rfl
 rotate_left
 ·simp only [Act.put, List.setIfInBounds_toArray, List.set_cons_zero, List.set_cons_succ, i64_w, i32_w]
  rfl
 refine take_ (i := 9) (N := some 20) (v := ?_) (a' := ?_) #[true, true, true, true, true, false, true, true, true, true, true, false, false, false] rfl rfl (take_ofW HT_.out HW_.out (by kernel_rfl)) (fun _ _ _ h => h) (Or.inl ⟨by rfl, ?_⟩) hHeld ?_ ?_
 rotate_left
 ·rintro w' ⟨s0, s1, s2, s3, s4, s5, s6, s7⟩
  go_simp
  with_reducible rfl
 rotate_left
 ·simp only [Act.put, List.setIfInBounds_toArray, List.set_cons_zero, List.set_cons_succ, i64_w, i32_w]
  rfl
 refine one_ (i := 5) (N := some 16) #[true, true, true, true, true, true, true, true, true, true, true, false, false, false] rfl rfl (one_of HT_.out (by kernel_rfl)) (by decide) (fun K hK => ?_)
 refine goes_ Tryz.func94 (by kernel_rfl) rfl #[.slice A0 l0.length c0, .slice A1 l1.length c1, .agg #[.int .i64 a2_0, .slice A2_1 l2_1.length c2_1], .agg #[.int .i64 a3_0, .int .i64 a3_1, .int .i64 a3_2, .int .i64 a3_3, .int .i64 a3_4, .int .i64 a3_5]] (by rfl) rfl rfl zM ?_
 with_reducible refine (spec_DecideBy.calls k _ _ l0 _ _ l1 a2_0 _ _ l2_1 a3_0 a3_1 a3_2 a3_3 a3_4 a3_5 t470 _ ?side1 ?side2 ?side3 ?side4 ?side5 ?side6 A6.out).mono ?_
 (case side1 => repeat (first | exact (Kd.C_below HR0.out HB.out) | (with_reducible refine Kd.C_alloc ?_ _) | (with_reducible refine Kd.C_drewN ?_ _) | (with_reducible refine Kd.C_drew ?_)))
 (case side2 => exact HC0.out)
 (case side3 => repeat (first | exact (Kd.C_below HR1.out HB.out) | (with_reducible refine Kd.C_alloc ?_ _) | (with_reducible refine Kd.C_drewN ?_ _) | (with_reducible refine Kd.C_drew ?_)))
 (case side4 => exact HC1.out)
 (case side5 => repeat (first | exact (Kd.C_below HR2_1.out HB.out) | (with_reducible refine Kd.C_alloc ?_ _) | (with_reducible refine Kd.C_drewN ?_ _) | (with_reducible refine Kd.C_drew ?_)))
 (case side6 => exact HC2_1.out)
 rintro e w12 ⟨rfl, hb⟩
 refine ⟨_, rfl, ?_⟩
 have n0_ := Aside0.mk (blk_below (g := gb467) (o := .cells #[.int .i64 a2_0, .slice A2_1 l2_1.length c2_1] 39 (0, 0)) (zX BK467) hb)
 have n1_ := Aside0.mk (blk_below (g := gb468) (o := .cells #[.int .i64 a3_0, .int .i64 a3_1, .int .i64 a3_2, .int .i64 a3_3, .int .i64 a3_4, .int .i64 a3_5] 41 (0, 0)) (zX BK468) hb)
 have n2_ := Aside0.mk (blk_below (g := gb469) (o := .cells #[.int .i64 0, .int .i64 0, .int .i64 0, .int .i64 0, .int .i64 0, .int .i64 0, .int .i64 0, .int .i64 0] 48 (0, 0)) (zX BK469) hb)
 have n3_ := Aside0.mk (below_step zB hb)
 clear BK467
 clear BK468
 clear BK469
 clear HB
 have BK467 := n0_
 have BK468 := n1_
 have BK469 := n2_
 have HB := n3_
 clear n0_ n1_ n2_ n3_
 (try clear hb)
 (try clear hb2)
 (try clear hk)
 (try clear hi)
 refine hK.out _ _ ⟨(blk_cell BK468.out 0).trans rfl, (blk_cell BK468.out 1).trans rfl, (blk_cell BK468.out 2).trans rfl, (blk_cell BK468.out 3).trans rfl, (blk_cell BK468.out 4).trans rfl, (blk_cell BK468.out 5).trans rfl, (blk_cell BK467.out 0).trans rfl, (blk_cell BK467.out 1).trans rfl⟩ (fun hHeld => ?_)
 clear hK K
 refine norm_ (a' := ?_) ?_ ?_
 rotate_left
 ·show Act.put _ (some 16) _ = _
  simp only [Act.put, List.setIfInBounds_toArray, List.set_cons_zero, List.set_cons_succ, i64_w, i32_w]
  rfl
 refine one_ (i := 11) (N := some 22) #[true, true, true, true, true, true, true, true, true, true, true, true, false, false] rfl rfl (one_of HT_.out (by kernel_rfl)) (by decide) (fun K hK => ?_)
 refine goes_ Tryz.func17 (by kernel_rfl) rfl #[.slice A0 l0.length c0, .slice A1 l1.length c1, .agg #[.int .i64 a2_0, .slice A2_1 l2_1.length c2_1], .agg #[.int .i64 a3_0, .int .i64 a3_1, .int .i64 a3_2, .int .i64 a3_3, .int .i64 a3_4, .int .i64 a3_5], .int .i64 a4] (by rfl) rfl rfl zM ?_
 with_reducible refine (spec_DecisionUntil.calls k _ _ l0 _ _ l1 a2_0 _ _ l2_1 a3_0 a3_1 a3_2 a3_3 a3_4 a3_5 a4 t471 _ ?side1 ?side2 ?side3 ?side4 ?side5 ?side6 A7.out).mono ?_
 (case side1 => repeat (first | exact (Kd.C_below HR0.out HB.out) | (with_reducible refine Kd.C_alloc ?_ _) | (with_reducible refine Kd.C_drewN ?_ _) | (with_reducible refine Kd.C_drew ?_)))
 (case side2 => exact HC0.out)
 (case side3 => repeat (first | exact (Kd.C_below HR1.out HB.out) | (with_reducible refine Kd.C_alloc ?_ _) | (with_reducible refine Kd.C_drewN ?_ _) | (with_reducible refine Kd.C_drew ?_)))
 (case side4 => exact HC1.out)
 (case side5 => repeat (first | exact (Kd.C_below HR2_1.out HB.out) | (with_reducible refine Kd.C_alloc ?_ _) | (with_reducible refine Kd.C_drewN ?_ _) | (with_reducible refine Kd.C_drew ?_)))
 (case side6 => exact HC2_1.out)
 rintro e w13 ⟨rfl, hb⟩
 refine ⟨_, rfl, ?_⟩
 have n0_ := Aside0.mk (blk_below (g := gb467) (o := .cells #[.int .i64 a2_0, .slice A2_1 l2_1.length c2_1] 39 (0, 0)) (zX BK467) hb)
 have n1_ := Aside0.mk (blk_below (g := gb468) (o := .cells #[.int .i64 a3_0, .int .i64 a3_1, .int .i64 a3_2, .int .i64 a3_3, .int .i64 a3_4, .int .i64 a3_5] 41 (0, 0)) (zX BK468) hb)
 have n2_ := Aside0.mk (blk_below (g := gb469) (o := .cells #[.int .i64 0, .int .i64 0, .int .i64 0, .int .i64 0, .int .i64 0, .int .i64 0, .int .i64 0, .int .i64 0] 48 (0, 0)) (zX BK469) hb)
 have n3_ := Aside0.mk (below_step zB hb)
 clear BK467
 clear BK468
 clear BK469
 clear HB
 have BK467 := n0_
 have BK468 := n1_
 have BK469 := n2_
 have HB := n3_
 clear n0_ n1_ n2_ n3_
 (try clear hb)
 (try clear hb2)
 (try clear hk)
 (try clear hi)
 refine hK.out _ _ ⟨(blk_cell BK468.out 0).trans rfl, (blk_cell BK468.out 1).trans rfl, (blk_cell BK468.out 2).trans rfl, (blk_cell BK468.out 3).trans rfl, (blk_cell BK468.out 4).trans rfl, (blk_cell BK468.out 5).trans rfl, (blk_cell BK467.out 0).trans rfl, (blk_cell BK467.out 1).trans rfl⟩ (fun hHeld => ?_)
 clear hK K
 refine norm_ (a' := ?_) ?_ ?_
 rotate_left
 ·show Act.put _ (some 22) _ = _
  simp only [Act.put, List.setIfInBounds_toArray, List.set_cons_zero, List.set_cons_succ, i64_w, i32_w]
  rfl
 refine pure_ (i := 12) (N := some 23) (v := ?_) (a' := ?_) #[true, true, true, true, true, true, true, true, true, true, true, true, true, false] rfl rfl (any_of HT_.out (by kernel_rfl)) (fun _ _ _ h => h) (Or.inl ⟨by rfl, ?_⟩) ?_ ?_
 rotate_left
 ·intro w'
  go_simp
  with_reducible rfl
 rotate_left
 ·simp only [Act.put, List.setIfInBounds_toArray, List.set_cons_zero, List.set_cons_succ, i64_w, i32_w]
  rfl
 refine one_ (i := 13) (N := none) #[true, true, true, true, true, true, true, true, true, true, true, true, true, true] rfl rfl (one_of HT_.out (by kernel_rfl)) (by decide) (fun K hK => ?_)
 have hs14 : w13.cell? ⟨gb469, 0, none⟩ = some (.int .i64 0) := (blk_cell BK469.out 0).trans rfl
 have hfs14 := blk_frozen BK469.out 0
 have hns14_0 := NB467_469.out
 have hns14_1 := NB468_469.out
 have hms14_0 := NB469_467.out
 have hms14_1 := NB469_468.out
 have hs15 : w13.cell? ⟨gb469, 1, none⟩ = some (.int .i64 0) := (blk_cell BK469.out 1).trans rfl
 have hfs15 := blk_frozen BK469.out 1
 have hns15_0 := NB467_469.out
 have hns15_1 := NB468_469.out
 have hms15_0 := NB469_467.out
 have hms15_1 := NB469_468.out
 have hs16 : w13.cell? ⟨gb469, 2, none⟩ = some (.int .i64 0) := (blk_cell BK469.out 2).trans rfl
 have hfs16 := blk_frozen BK469.out 2
 have hns16_0 := NB467_469.out
 have hns16_1 := NB468_469.out
 have hms16_0 := NB469_467.out
 have hms16_1 := NB469_468.out
 have hs17 : w13.cell? ⟨gb469, 3, none⟩ = some (.int .i64 0) := (blk_cell BK469.out 3).trans rfl
 have hfs17 := blk_frozen BK469.out 3
 have hns17_0 := NB467_469.out
 have hns17_1 := NB468_469.out
 have hms17_0 := NB469_467.out
 have hms17_1 := NB469_468.out
 have hs18 : w13.cell? ⟨gb469, 4, none⟩ = some (.int .i64 0) := (blk_cell BK469.out 4).trans rfl
 have hfs18 := blk_frozen BK469.out 4
 have hns18_0 := NB467_469.out
 have hns18_1 := NB468_469.out
 have hms18_0 := NB469_467.out
 have hms18_1 := NB469_468.out
 have hs19 : w13.cell? ⟨gb469, 5, none⟩ = some (.int .i64 0) := (blk_cell BK469.out 5).trans rfl
 have hfs19 := blk_frozen BK469.out 5
 have hns19_0 := NB467_469.out
 have hns19_1 := NB468_469.out
 have hms19_0 := NB469_467.out
 have hms19_1 := NB469_468.out
 have hs20 : w13.cell? ⟨gb469, 6, none⟩ = some (.int .i64 0) := (blk_cell BK469.out 6).trans rfl
 have hfs20 := blk_frozen BK469.out 6
 have hns20_0 := NB467_469.out
 have hns20_1 := NB468_469.out
 have hms20_0 := NB469_467.out
 have hms20_1 := NB469_468.out
 have hs21 : w13.cell? ⟨gb469, 7, none⟩ = some (.int .i64 0) := (blk_cell BK469.out 7).trans rfl
 have hfs21 := blk_frozen BK469.out 7
 have hns21_0 := NB467_469.out
 have hns21_1 := NB468_469.out
 have hms21_0 := NB469_467.out
 have hms21_1 := NB469_468.out
 refine skip_ (w1 := ?_) (by rfl) rfl ?_ ?_
 rotate_left
 ·go_simp
  rfl
 refine hK.out _ _ ⟨((cell_far (p := ⟨gb469, _, none⟩) NB468_469.out _).trans (((cell_far (p := ⟨gb469, _, none⟩) NB468_469.out _).trans (((cell_far (p := ⟨gb469, _, none⟩) NB468_469.out _).trans (((cell_far (p := ⟨gb469, _, none⟩) NB468_469.out _).trans (((cell_far (p := ⟨gb469, _, none⟩) NB468_469.out _).trans (((cell_far (p := ⟨gb469, _, none⟩) NB468_469.out _).trans (((cell_far (p := ⟨gb469, _, none⟩) NB468_469.out _).trans (((cell_far (p := ⟨gb469, _, none⟩) NB468_469.out _).trans (hHeld.1)))))))))))))))), ((cell_far (p := ⟨gb469, _, none⟩) NB468_469.out _).trans (((cell_far (p := ⟨gb469, _, none⟩) NB468_469.out _).trans (((cell_far (p := ⟨gb469, _, none⟩) NB468_469.out _).trans (((cell_far (p := ⟨gb469, _, none⟩) NB468_469.out _).trans (((cell_far (p := ⟨gb469, _, none⟩) NB468_469.out _).trans (((cell_far (p := ⟨gb469, _, none⟩) NB468_469.out _).trans (((cell_far (p := ⟨gb469, _, none⟩) NB468_469.out _).trans (((cell_far (p := ⟨gb469, _, none⟩) NB468_469.out _).trans (hHeld.2.1)))))))))))))))), ((cell_far (p := ⟨gb469, _, none⟩) NB468_469.out _).trans (((cell_far (p := ⟨gb469, _, none⟩) NB468_469.out _).trans (((cell_far (p := ⟨gb469, _, none⟩) NB468_469.out _).trans (((cell_far (p := ⟨gb469, _, none⟩) NB468_469.out _).trans (((cell_far (p := ⟨gb469, _, none⟩) NB468_469.out _).trans (((cell_far (p := ⟨gb469, _, none⟩) NB468_469.out _).trans (((cell_far (p := ⟨gb469, _, none⟩) NB468_469.out _).trans (((cell_far (p := ⟨gb469, _, none⟩) NB468_469.out _).trans (hHeld.2.2.1)))))))))))))))), ((cell_far (p := ⟨gb469, _, none⟩) NB468_469.out _).trans (((cell_far (p := ⟨gb469, _, none⟩) NB468_469.out _).trans (((cell_far (p := ⟨gb469, _, none⟩) NB468_469.out _).trans (((cell_far (p := ⟨gb469, _, none⟩) NB468_469.out _).trans (((cell_far (p := ⟨gb469, _, none⟩) NB468_469.out _).trans (((cell_far (p := ⟨gb469, _, none⟩) NB468_469.out _).trans (((cell_far (p := ⟨gb469, _, none⟩) NB468_469.out _).trans (((cell_far (p := ⟨gb469, _, none⟩) NB468_469.out _).trans (hHeld.2.2.2.1)))))))))))))))), ((cell_far (p := ⟨gb469, _, none⟩) NB468_469.out _).trans (((cell_far (p := ⟨gb469, _, none⟩) NB468_469.out _).trans (((cell_far (p := ⟨gb469, _, none⟩) NB468_469.out _).trans (((cell_far (p := ⟨gb469, _, none⟩) NB468_469.out _).trans (((cell_far (p := ⟨gb469, _, none⟩) NB468_469.out _).trans (((cell_far (p := ⟨gb469, _, none⟩) NB468_469.out _).trans (((cell_far (p := ⟨gb469, _, none⟩) NB468_469.out _).trans (((cell_far (p := ⟨gb469, _, none⟩) NB468_469.out _).trans (hHeld.2.2.2.2.1)))))))))))))))), ((cell_far (p := ⟨gb469, _, none⟩) NB468_469.out _).trans (((cell_far (p := ⟨gb469, _, none⟩) NB468_469.out _).trans (((cell_far (p := ⟨gb469, _, none⟩) NB468_469.out _).trans (((cell_far (p := ⟨gb469, _, none⟩) NB468_469.out _).trans (((cell_far (p := ⟨gb469, _, none⟩) NB468_469.out _).trans (((cell_far (p := ⟨gb469, _, none⟩) NB468_469.out _).trans (((cell_far (p := ⟨gb469, _, none⟩) NB468_469.out _).trans (((cell_far (p := ⟨gb469, _, none⟩) NB468_469.out _).trans (hHeld.2.2.2.2.2.1)))))))))))))))), ((cell_far (p := ⟨gb469, _, none⟩) NB467_469.out _).trans (((cell_far (p := ⟨gb469, _, none⟩) NB467_469.out _).trans (((cell_far (p := ⟨gb469, _, none⟩) NB467_469.out _).trans (((cell_far (p := ⟨gb469, _, none⟩) NB467_469.out _).trans (((cell_far (p := ⟨gb469, _, none⟩) NB467_469.out _).trans (((cell_far (p := ⟨gb469, _, none⟩) NB467_469.out _).trans (((cell_far (p := ⟨gb469, _, none⟩) NB467_469.out _).trans (((cell_far (p := ⟨gb469, _, none⟩) NB467_469.out _).trans (hHeld.2.2.2.2.2.2.1)))))))))))))))), ((cell_far (p := ⟨gb469, _, none⟩) NB467_469.out _).trans (((cell_far (p := ⟨gb469, _, none⟩) NB467_469.out _).trans (((cell_far (p := ⟨gb469, _, none⟩) NB467_469.out _).trans (((cell_far (p := ⟨gb469, _, none⟩) NB467_469.out _).trans (((cell_far (p := ⟨gb469, _, none⟩) NB467_469.out _).trans (((cell_far (p := ⟨gb469, _, none⟩) NB467_469.out _).trans (((cell_far (p := ⟨gb469, _, none⟩) NB467_469.out _).trans (((cell_far (p := ⟨gb469, _, none⟩) NB467_469.out _).trans (hHeld.2.2.2.2.2.2.2))))))))))))))))⟩ (fun hHeld => ?_)
 clear hK K
 refine done_ (done_of HT_.out (by kernel_rfl)) ?_
 try go_wp2
 refine bodyPost_ret (results_cell_row rfl _ _ gb469 48 #[.int .i64 a3_0, .int .i64 a3_1, .int .i64 a3_2, .int .i64 a3_3, .int .i64 a3_4, .int .i64 a3_5, .int .i64 t470, .int .i64 t471] (0, 0) _ rfl (zP) Tryz.underlying48 rfl (by kernel_rfl)) rfl ?_
 exact ⟨zE, zB⟩
def impl_InRange.f (a0 : Int) (a1 : Int) (a2 : Int) : Option (Bool) := if a1 ≤ a0 then (some (decide (a0 ≤ a2))) else (some false)
theorem impl_InRange.calls (a0 : Int) (a1 : Int) (a2 : Int) (r : Bool) (w : World) (h : impl_InRange.f a0 a1 a2 = some r) :
  Calls Tryz.prog 98 #[.int .i64 a0, .int .i64 a1, .int .i64 a2] w fun e w' => e = .returned (.bool r) ∧ Below w.heap.size w w' := by
 have HB := Aside0.mk (Below.refl w.heap.size w)
 have H := h
 clear h
 unfold impl_InRange.f at H
 go_enter Tryz.func98, Tryz.ntmps98
 replace H := ifD H; rcases H with ⟨c1, H⟩ | ⟨c1, H⟩
 ·have c1_0 := decT c1
  replace c1 := Aside0.mk c1
  (try rw [c1_0])
  cases H
  go_wp2
  go_ret
  exact ⟨rfl, HB.out⟩
 have c1_0 := decF c1
 replace c1 := Aside0.mk c1
 (try rw [c1_0])
 cases H
 go_wp2
 go_ret
 exact ⟨rfl, HB.out⟩
def impl_IsName.f (a0 : Int) : Option (Bool) := (impl_InRange.f a0 10 49).bind fun t472 => (some t472)
theorem impl_IsName.calls (a0 : Int) (r : Bool) (w : World) (h : impl_IsName.f a0 = some r) :
  Calls Tryz.prog 230 #[.int .i64 a0] w fun e w' => e = .returned (.bool r) ∧ Below w.heap.size w w' := by
 have HB := Aside0.mk (Below.refl w.heap.size w)
 have H := h
 clear h
 unfold impl_IsName.f at H
 go_enter Tryz.func230, Tryz.ntmps230
 replace H := obs H
 obtain ⟨t472, hm, H⟩ := H
 (try dsimp only at H)
 replace H := Aside0.mk H
 have hcall := impl_InRange.calls _ _ _ _ w  hm
 clear hm
 (go_wp2_with fail)
 refine hcall.mono ?_
 rintro e W1 ⟨rfl, hb⟩
 clear hcall
 replace HB := bH HB hb; clear hb
 replace H := H.out
 cases H
 go_wp2
 go_ret
 exact ⟨rfl, HB.out⟩
def impl_KindOf.f (a0 : Int) : Option (Int) := (impl_IsName.f a0).bind fun t473 => (if t473 = true then (some (wrap64 (Int.tdiv a0 10))) else (some 0))
theorem impl_KindOf.calls (a0 : Int) (r : Int) (w : World) (h : impl_KindOf.f a0 = some r) :
  Calls Tryz.prog 231 #[.int .i64 a0] w fun e w' => e = .returned (.int .i64 r) ∧ Below w.heap.size w w' := by
 have HB := Aside0.mk (Below.refl w.heap.size w)
 have H := h
 clear h
 unfold impl_KindOf.f at H
 go_enter Tryz.func231, Tryz.ntmps231
 replace H := obs H
 obtain ⟨t473, hm, H⟩ := H
 (try dsimp only at H)
 replace H := Aside0.mk H
 have hcall := impl_IsName.calls _ _ w  hm
 clear hm
 (go_wp2_with fail)
 refine hcall.mono ?_
 rintro e W1 ⟨rfl, hb⟩
 clear hcall
 replace HB := bH HB hb; clear hb
 replace H := ifD H.out; rcases H with ⟨c2, H⟩ | ⟨c2, H⟩
 ·subst c2
  cases H
  go_wp2
  go_ret
  exact ⟨rfl, HB.out⟩
 replace c2 := nT c2
 subst c2
 cases H
 go_wp2
 go_ret
 exact ⟨rfl, HB.out⟩
def impl_HasKind.f (a0 : Int) (a1 : Int) : Option (Bool) := (impl_IsName.f a0).bind fun t474 => (if t474 = true then ((impl_KindOf.f a0).bind fun t475 => (some (t475 == a1))) else (some false))
theorem impl_HasKind.calls (a0 : Int) (a1 : Int) (r : Bool) (w : World) (h : impl_HasKind.f a0 a1 = some r) :
  Calls Tryz.prog 108 #[.int .i64 a0, .int .i64 a1] w fun e w' => e = .returned (.bool r) ∧ Below w.heap.size w w' := by
 have HB := Aside0.mk (Below.refl w.heap.size w)
 have H := h
 clear h
 unfold impl_HasKind.f at H
 go_enter Tryz.func108, Tryz.ntmps108
 replace H := obs H
 obtain ⟨t474, hm, H⟩ := H
 (try dsimp only at H)
 replace H := Aside0.mk H
 have hcall := impl_IsName.calls _ _ w  hm
 clear hm
 (go_wp2_with fail)
 refine hcall.mono ?_
 rintro e W1 ⟨rfl, hb⟩
 clear hcall
 replace HB := bH HB hb; clear hb
 replace H := ifD H.out; rcases H with ⟨c2, H⟩ | ⟨c2, H⟩
 rotate_left
 ·replace c2 := nT c2
  subst c2
  cases H
  go_wp2
  go_ret
  exact ⟨rfl, HB.out⟩
 subst c2
 replace H := obs H
 obtain ⟨t475, hm, H⟩ := H
 (try dsimp only at H)
 replace H := Aside0.mk H
 have hcall := impl_KindOf.calls _ _ W1  hm
 clear hm
 (go_wp2_with fail)
 refine hcall.mono ?_
 rintro e W3 ⟨rfl, hb⟩
 clear hcall
 replace HB := bH HB hb; clear hb
 replace H := H.out
 cases H
 go_wp2
 go_ret
 exact ⟨rfl, HB.out⟩
def impl_IsTime.f (a0 : Int) : Option (Bool) := (impl_InRange.f a0 0 10000).bind fun t476 => (some t476)
theorem impl_IsTime.calls (a0 : Int) (r : Bool) (w : World) (h : impl_IsTime.f a0 = some r) :
  Calls Tryz.prog 109 #[.int .i64 a0] w fun e w' => e = .returned (.bool r) ∧ Below w.heap.size w w' := by
 have HB := Aside0.mk (Below.refl w.heap.size w)
 have H := h
 clear h
 unfold impl_IsTime.f at H
 go_enter Tryz.func109, Tryz.ntmps109
 replace H := obs H
 obtain ⟨t476, hm, H⟩ := H
 (try dsimp only at H)
 replace H := Aside0.mk H
 have hcall := impl_InRange.calls _ _ _ _ w  hm
 clear hm
 (go_wp2_with fail)
 refine hcall.mono ?_
 rintro e W1 ⟨rfl, hb⟩
 clear hcall
 replace HB := bH HB hb; clear hb
 replace H := H.out
 cases H
 go_wp2
 go_ret
 exact ⟨rfl, HB.out⟩
def impl_IsRequest.f (a0_0 : Int) (a0_1 : Int) (a0_2 : Int) (a0_3 : Int) (a0_4 : Int) (a0_5 : Int) : Option (Bool) := (impl_HasKind.f a0_0 1).bind fun t478 => (if t478 = true then ((impl_HasKind.f a0_1 2).bind fun t479 => (if t479 = true then ((impl_HasKind.f a0_2 3).bind fun t480 => (if t480 = true then ((impl_HasKind.f a0_4 4).bind fun t481 => (if t481 = true then ((impl_InRange.f a0_3 0 5).bind fun t482 => (if t482 = true then ((impl_IsTime.f a0_5).bind fun t483 => (some t483)) else (some false))) else (some false))) else (some false))) else (some false))) else (some false))
theorem impl_IsRequest.calls (a0_0 : Int) (a0_1 : Int) (a0_2 : Int) (a0_3 : Int) (a0_4 : Int) (a0_5 : Int) (r : Bool) (w : World) (h : impl_IsRequest.f a0_0 a0_1 a0_2 a0_3 a0_4 a0_5 = some r) :
  Calls Tryz.prog 33 #[.agg #[.int .i64 a0_0, .int .i64 a0_1, .int .i64 a0_2, .int .i64 a0_3, .int .i64 a0_4, .int .i64 a0_5]] w fun e w' => e = .returned (.bool r) ∧ Below w.heap.size w w' := by
 have HB := Aside0.mk (Below.refl w.heap.size w)
 have H := h
 clear h
 unfold impl_IsRequest.f at H
 have hu41 := Tryz.underlying41
 go_enter Tryz.func33, Tryz.ntmps33
 replace H := Aside0.mk H
 go_upto_region 1 with (first | ((with_reducible refine gate_dst (N := 1) rfl ?_); refine box_event ?hg (N := 1) ?hd (cs := #[.int .i64 a0_0, .int .i64 a0_1, .int .i64 a0_2, .int .i64 a0_3, .int .i64 a0_4, .int .i64 a0_5]) (t := 41) ?hr ?_; (case hd => rfl); (case hg => rfl); (case hr => first | (go_simp; done) | (go_simp; rfl)); intro gb1 hg W1 hbox hb; replace HB := bH HB hb; clear hb; have BK1 := Aside0.mk hbox; have c_BK1 := blk_cell hbox; have z_BK1 := blk_frozen hbox; clear hg hbox))
 replace H := H.out
 replace H := obs H
 obtain ⟨t478, hm, H⟩ := H
 (try dsimp only at H)
 replace H := Aside0.mk H
 have hcall := impl_HasKind.calls _ _ _ W1  hm
 clear hm
 (go_wp2_with fail)
 refine hcall.mono ?_
 rintro e W2 ⟨rfl, hb⟩
 clear hcall
 replace BK1 := bK BK1 hb; replace c_BK1 := bcl BK1; replace z_BK1 := bfr BK1
 replace HB := bH HB hb; clear hb
 replace H := ifD H.out; rcases H with ⟨c3, H⟩ | ⟨c3, H⟩
 rotate_left
 ·replace c3 := nT c3
  subst c3
  cases H
  go_wp2
  go_ret
  exact ⟨rfl, HB.out⟩
 subst c3
 replace H := obs H
 obtain ⟨t479, hm, H⟩ := H
 (try dsimp only at H)
 replace H := Aside0.mk H
 have hcall := impl_HasKind.calls _ _ _ W2  hm
 clear hm
 (go_wp2_with fail)
 refine hcall.mono ?_
 rintro e W4 ⟨rfl, hb⟩
 clear hcall
 replace BK1 := bK BK1 hb; replace c_BK1 := bcl BK1; replace z_BK1 := bfr BK1
 replace HB := bH HB hb; clear hb
 replace H := ifD H.out; rcases H with ⟨c5, H⟩ | ⟨c5, H⟩
 rotate_left
 ·replace c5 := nT c5
  subst c5
  cases H
  go_wp2
  go_ret
  exact ⟨rfl, HB.out⟩
 subst c5
 replace H := obs H
 obtain ⟨t480, hm, H⟩ := H
 (try dsimp only at H)
 replace H := Aside0.mk H
 have hcall := impl_HasKind.calls _ _ _ W4  hm
 clear hm
 (go_wp2_with fail)
 refine hcall.mono ?_
 rintro e W6 ⟨rfl, hb⟩
 clear hcall
 replace BK1 := bK BK1 hb; replace c_BK1 := bcl BK1; replace z_BK1 := bfr BK1
 replace HB := bH HB hb; clear hb
 replace H := ifD H.out; rcases H with ⟨c7, H⟩ | ⟨c7, H⟩
 rotate_left
 ·replace c7 := nT c7
  subst c7
  cases H
  go_wp2
  go_ret
  exact ⟨rfl, HB.out⟩
 subst c7
 replace H := obs H
 obtain ⟨t481, hm, H⟩ := H
 (try dsimp only at H)
 replace H := Aside0.mk H
 have hcall := impl_HasKind.calls _ _ _ W6  hm
 clear hm
 (go_wp2_with fail)
 refine hcall.mono ?_
 rintro e W8 ⟨rfl, hb⟩
 clear hcall
 replace BK1 := bK BK1 hb; replace c_BK1 := bcl BK1; replace z_BK1 := bfr BK1
 replace HB := bH HB hb; clear hb
 replace H := ifD H.out; rcases H with ⟨c9, H⟩ | ⟨c9, H⟩
 rotate_left
 ·replace c9 := nT c9
  subst c9
  cases H
  go_wp2
  go_ret
  exact ⟨rfl, HB.out⟩
 subst c9
 replace H := obs H
 obtain ⟨t482, hm, H⟩ := H
 (try dsimp only at H)
 replace H := Aside0.mk H
 have hcall := impl_InRange.calls _ _ _ _ W8  hm
 clear hm
 (go_wp2_with fail)
 refine hcall.mono ?_
 rintro e W10 ⟨rfl, hb⟩
 clear hcall
 replace BK1 := bK BK1 hb; replace c_BK1 := bcl BK1; replace z_BK1 := bfr BK1
 replace HB := bH HB hb; clear hb
 replace H := ifD H.out; rcases H with ⟨c11, H⟩ | ⟨c11, H⟩
 rotate_left
 ·replace c11 := nT c11
  subst c11
  cases H
  go_wp2
  go_ret
  exact ⟨rfl, HB.out⟩
 subst c11
 replace H := obs H
 obtain ⟨t483, hm, H⟩ := H
 (try dsimp only at H)
 replace H := Aside0.mk H
 have hcall := impl_IsTime.calls _ _ W10  hm
 clear hm
 (go_wp2_with fail)
 refine hcall.mono ?_
 rintro e W12 ⟨rfl, hb⟩
 clear hcall
 replace BK1 := bK BK1 hb; replace c_BK1 := bcl BK1; replace z_BK1 := bfr BK1
 replace HB := bH HB hb; clear hb
 replace H := H.out
 cases H
 go_wp2
 go_ret
 exact ⟨rfl, HB.out⟩
end Go.Proofs.YtmgfklmhelabcaaGreat.QFnExactSaveDecision
