/- The machine side of FnDelegated: what each function that it reaches computes, and that the machine's call gives just that. -/
import Derived.Test.YtplfbjbbnjlnkaaQFnDelegatedx0
namespace Go.Proofs.Ytplfbjbbnjlnkaa.QFnDelegated
open Go.RowKit Go.Proofs.YtplfbjbbnjlnkaaW.PrintWords Go.Proofs.YtplfbjbbnjlnkaaW.PrintLast Go.Proofs.YtplfbjbbnjlnkaaW.PrintMore
attribute [local go_sem] max2_int min2_int max_two min_two max_three min_three max_four min_four   -- for this text's walks alone
set_option linter.unusedVariables false
set_option linter.unusedSimpArgs false

/-! ### impl_copyGrants: function 97 -/
def impl_copyGrants.l0 : Nat → List (S51) → List (S51) → Int → Int → Option ((List (S51)))
 | 0, _, _, _, _ => none
 | k + 1, x3, x7, x8, x9 => if x9 < x8 then (if 0 ≤ x9 then (if x9 < (x7.length : Int) then ((some (([] : List Int) : List Int)).bind fun y106 => (if y106.length + ((rd_T51 x7 x9).f3).length < 17592186044416 then (if x3.length < 1954687338268 then (impl_copyGrants.l0 k (x3 ++ [(⟨(rd_T51 x7 x9).f0, (rd_T51 x7 x9).f1, (rd_T51 x7 x9).f2, (y106 ++ ((rd_T51 x7 x9).f3)), (rd_T51 x7 x9).f4, (rd_T51 x7 x9).f5, (rd_T51 x7 x9).f6⟩ : S51)]) x7 x8 (wrap64 (x9 + 1))) else (none)) else (none))) else (none)) else (none)) else (some x3)
def impl_copyGrants.f (k : Nat) (l0 : List (S51)) : Option ((List (S51))) := impl_copyGrants.l0 k (([] : List (S51))) l0 (l0.length : Int) 0
set_option maxHeartbeats 8000000 in
set_option maxRecDepth 100000 in
theorem impl_copyGrants.calls (k : Nat) (A0 : Option Addr) (c0 : Nat) (l0 : List (S51)) (r : List (S51)) (w : World) (hr0 : Kd.C k51 w A0 l0.length l0) (hc0 : l0.length ≤ c0) (h : impl_copyGrants.f k l0 = some r) :
  Calls Try.prog 97 #[.slice A0 l0.length c0] w fun e w' => ∃ v0_ : Value, e = .returned (v0_) ∧ Kd.S k51 51 w' w.heap.size (fun _ => True) v0_ r ∧ Below w.heap.size w w' := by
 have hu51 := Try.underlying51
 have HR0 := Aside0.mk hr0
 have HC0 := Aside0.mk hc0
 clear hr0 hc0
 have HB := Aside0.mk (Below.refl w.heap.size w)
 have H : (impl_copyGrants.l0 k (([] : List (S51))) l0 (l0.length : Int) 0) = some r := h
 clear h
 obtain ⟨y101, hy101⟩ : ∃ y_ : List (S51), y_ = (([] : List (S51))) := ⟨_, rfl⟩
 replace H : (impl_copyGrants.l0 k y101 l0 (l0.length : Int) 0) = some r := by first | (rw [hy101]; with_reducible exact H) | (have H2_ := (Option.bind_some _ _).symm.trans H; rw [hy101]; with_reducible exact H2_) | (have H2_ := (Option.bind_some _ _).symm.trans H; with_reducible exact H2_) | with_reducible exact H | (rw [hy101]; exact H) | exact H
 have Ny101 := Aside0.mk hy101
 clear hy101
 have H' := Aside0.mk H
 clear H
 go_enter Try.func97, Try.ntmps97
 go_wp2_with (first | ((with_reducible refine gate_dst (N := 6) rfl ?_); refine Kd.S_lit k51 _ 51 ?hg (N := 6) ?hd (xs := ([] : List (S51))) (inner := []) (ok := fun _ => True) (okp := fun _ => True) ?hr ?hp (fun _ hk => hk) trivial (Below.refl _ _) (Nat.le_refl _) (by simp) ?_; (case hd => rfl); (case hg => rfl); (case hr => first | (go_simp; done) | (go_simp; rfl)); (case hp => exact (Reps.none _ _)); intro v102 w2 ho3 hb hg_ hnew_; clear hg_ hnew_; (first | rw [← Ny101.out] at ho3 | (simp only [Int.reduceToNat] at ho3; rw [← Ny101.out] at ho3)); have n0_ := Aside0.mk (Kd.S_lower ho3 (below_size (by repeat (first | (with_reducible first | exact HB.out | apply below_alloc | apply pw_below_drewN | apply below_drew1) | exact HB.out)))); have n1_ := Aside0.mk (below_step (by repeat (first | (with_reducible first | exact HB.out | apply below_alloc | apply pw_below_drewN | apply below_drew1) | exact HB.out)) hb); clear HB; have HO103 := n0_; (try have hv1_103 := fun (W_ : World) (a_ : Addr) (m_ : Mode) => run_store Try.prog W_ a_ _ m_ (Kd.R_val HO103.out).2); have HB := n1_; clear n0_ n1_; clear hb ho3))
 go_loopg [3, 9] k (fun kq v3 v9 w' => ∃ (x3_1 : List (S51)) (x9_1 : Int), v9 = .int .i64 x9_1 ∧ Aside0 (impl_copyGrants.l0 kq x3_1 l0 (l0.length : Int) x9_1 = some r) ∧ Aside0 (kq ≤ k) ∧ Aside0 (Kd.S k51 51 w' w.heap.size (fun _ => True) v3 x3_1) ∧ Aside0 (Below w.heap.size w w'))
 case atStart => exact ⟨(y101), (0), (by first | rfl | (simp; done) | (simp [*]; done)), H', ⟨Nat.le_refl _⟩, ⟨by (with_reducible repeat (first | apply Kd.S_alloc | apply Kd.S_drewN | apply Kd.S_drew)); exact HO103.out⟩, ⟨by repeat (first | (with_reducible first | exact HB.out | apply below_alloc | apply pw_below_drewN | apply below_drew1) | exact HB.out)⟩⟩
 case round =>
  clear H'
  try clear p2
  obtain ⟨x3_1, x9_1, rfl, HA, HK1, HO_3, HB⟩ := hrel
  cases gk with
  | zero => exact absurd HA.out (by simp [impl_copyGrants.l0])
  | succ k1 =>
   have H := HA.out
   clear HA
   simp only [impl_copyGrants.l0] at H
   replace H := ifD H; rcases H with ⟨c4, H⟩ | ⟨c4, H⟩
   ·have c4b0 : decide (x9_1 < (l0.length : Int)) = true := decide_eq_true c4
    clear c4
    replace H := ifN H; obtain ⟨c5, H⟩ := H
    have c5b0 : decide (0 ≤ x9_1) = true := decide_eq_true c5
    clear c5
    replace H := ifN H; obtain ⟨c6, H⟩ := H
    have c6b0 : decide (x9_1 < (l0.length : Int)) = true := decide_eq_true c6
    clear c6
    obtain ⟨y106, hy106⟩ : ∃ y_ : List Int, y_ = (([] : List Int)) := ⟨_, rfl⟩
    replace H : (if y106.length + ((rd_T51 l0 x9_1).f3).length < 17592186044416 then (if x3_1.length < 1954687338268 then (impl_copyGrants.l0 k1 (x3_1 ++ [(⟨(rd_T51 l0 x9_1).f0, (rd_T51 l0 x9_1).f1, (rd_T51 l0 x9_1).f2, (y106 ++ ((rd_T51 l0 x9_1).f3)), (rd_T51 l0 x9_1).f4, (rd_T51 l0 x9_1).f5, (rd_T51 l0 x9_1).f6⟩ : S51)]) l0 (l0.length : Int) (wrap64 (x9_1 + 1))) else (none)) else (none)) = some r := by first | (rw [hy106]; with_reducible exact H) | (have H2_ := (Option.bind_some _ _).symm.trans H; rw [hy106]; with_reducible exact H2_) | (have H2_ := (Option.bind_some _ _).symm.trans H; with_reducible exact H2_) | with_reducible exact H | (rw [hy106]; exact H) | exact H
    have Ny106 := Aside0.mk hy106
    clear hy106
    replace H := ifN H; obtain ⟨c7, H⟩ := H
    have LMc7 := Aside0.mk c7
    clear c7
    obtain ⟨y109, hy109⟩ : ∃ y_ : List Int, y_ = (y106 ++ ((rd_T51 l0 x9_1).f3)) := ⟨_, rfl⟩
    replace H : (if x3_1.length < 1954687338268 then (impl_copyGrants.l0 k1 (x3_1 ++ [(⟨(rd_T51 l0 x9_1).f0, (rd_T51 l0 x9_1).f1, (rd_T51 l0 x9_1).f2, y109, (rd_T51 l0 x9_1).f4, (rd_T51 l0 x9_1).f5, (rd_T51 l0 x9_1).f6⟩ : S51)]) l0 (l0.length : Int) (wrap64 (x9_1 + 1))) else (none)) = some r := by first | (rw [hy109]; with_reducible exact H) | (have H2_ := (Option.bind_some _ _).symm.trans H; rw [hy109]; with_reducible exact H2_) | (have H2_ := (Option.bind_some _ _).symm.trans H; with_reducible exact H2_) | with_reducible exact H | (rw [hy109]; exact H) | exact H
    have Ny109 := Aside0.mk hy109
    clear hy109
    replace H := ifN H; obtain ⟨c8, H⟩ := H
    have LMc8 := Aside0.mk c8
    clear c8
    obtain ⟨y112, hy112⟩ : ∃ y_ : List (S51), y_ = (x3_1 ++ [(⟨(rd_T51 l0 x9_1).f0, (rd_T51 l0 x9_1).f1, (rd_T51 l0 x9_1).f2, y109, (rd_T51 l0 x9_1).f4, (rd_T51 l0 x9_1).f5, (rd_T51 l0 x9_1).f6⟩ : S51)]) := ⟨_, rfl⟩
    replace H : (impl_copyGrants.l0 k1 y112 l0 (l0.length : Int) (wrap64 (x9_1 + 1))) = some r := by first | (rw [hy112]; with_reducible exact H) | (have H2_ := (Option.bind_some _ _).symm.trans H; rw [hy112]; with_reducible exact H2_) | (have H2_ := (Option.bind_some _ _).symm.trans H; with_reducible exact H2_) | with_reducible exact H | (rw [hy112]; exact H) | exact H
    have Ny112 := Aside0.mk hy112
    clear hy112
    have H' := Aside0.mk H
    clear H
    have p104 : 0 ≤ (x9_1 : Int) := of_decide_eq_true (by first | (with_reducible assumption) | assumption)
    have q104 : x9_1 < (l0.length : Int) := of_decide_eq_true (by first | (with_reducible assumption) | assumption)
    obtain ⟨ad104, A104_3, c104_3, e104, hx104_0, hx104_1, hx104_2, hx104_3, hx104_4, hx104_5, hx104_6, hl104_3, hi104_3⟩ := at_T51 HR0.out x9_1 p104 q104
    cases e104
    replace hx104_0 := (HB.out.cell (World.block_lt_of_cell? w _ hx104_0)).trans hx104_0
    replace hx104_1 := (HB.out.cell (World.block_lt_of_cell? w _ hx104_1)).trans hx104_1
    replace hx104_2 := (HB.out.cell (World.block_lt_of_cell? w _ hx104_2)).trans hx104_2
    replace hx104_3 := (HB.out.cell (World.block_lt_of_cell? w _ hx104_3)).trans hx104_3
    replace hx104_4 := (HB.out.cell (World.block_lt_of_cell? w _ hx104_4)).trans hx104_4
    replace hx104_5 := (HB.out.cell (World.block_lt_of_cell? w _ hx104_5)).trans hx104_5
    replace hx104_6 := (HB.out.cell (World.block_lt_of_cell? w _ hx104_6)).trans hx104_6
    have HR104_3 := Aside0.mk hi104_3
    have HC104_3 := Aside0.mk hl104_3
    clear hi104_3 hl104_3
    replace p104 := eq_true p104
    replace q104 := eq_true q104
    go_wp2_with (first | ((with_reducible refine gate_dst (N := 5) rfl ?_); refine box_event ?hg (N := 5) ?hd (cs := #[.int .i64 0, .int .i64 0, .int .i64 0, .slice none 0 0, .int .i64 0, .int .i64 0, .bool false]) (t := 51) ?hr ?_; (case hd => rfl); (case hg => rfl); (case hr => first | (go_simp; done) | (go_simp; rfl)); intro gb105 hg w9 hbox hb; have n0_ := Aside0.mk (Kd.S_below (Kd.S_elderB (by (with_reducible repeat (first | apply Kd.S_alloc | apply Kd.S_drewN | apply Kd.S_drew)); exact HO_3.out) gb105 (Nat.le_of_eq hg.symm)) hb); have n1_ := Aside0.mk (below_step (by repeat (first | (with_reducible first | exact HB.out | apply below_alloc | apply pw_below_drewN | apply below_drew1) | exact HB.out)) hb); have n2_ := Aside0.mk (hbox); have n3_ := Aside0.mk ((by rw [hg]; exact (below_size (by repeat (first | (with_reducible first | exact HB.out | apply below_alloc | apply pw_below_drewN | apply below_drew1) | exact HB.out))) : w.heap.size ≤ gb105)); have n4_ := Aside0.mk ((by rw [hg]; exact (below_size (by repeat (first | (with_reducible first | exact HB.out | apply below_alloc | apply pw_below_drewN | apply below_drew1) | exact HB.out))) : w.heap.size ≤ gb105)); clear HO_3; clear HB; have HO_3 := n0_; have HB := n1_; have BK105 := n2_; have GW105 := n3_; have GE105 := n4_; clear n0_ n1_ n2_ n3_ n4_; clear hb hbox hg; have hcz10_0 : w9.cell? ⟨gb105, 0, none⟩ = some (.int .i64 0) := (blk_cell BK105.out 0).trans rfl; have hcz10_1 : w9.cell? ⟨gb105, 1, none⟩ = some (.int .i64 0) := (blk_cell BK105.out 1).trans rfl; have hcz10_2 : w9.cell? ⟨gb105, 2, none⟩ = some (.int .i64 0) := (blk_cell BK105.out 2).trans rfl; have hcz10_3 : w9.cell? ⟨gb105, 3, none⟩ = some (.slice none 0 0) := (blk_cell BK105.out 3).trans rfl; have hcz10_4 : w9.cell? ⟨gb105, 4, none⟩ = some (.int .i64 0) := (blk_cell BK105.out 4).trans rfl; have hcz10_5 : w9.cell? ⟨gb105, 5, none⟩ = some (.int .i64 0) := (blk_cell BK105.out 5).trans rfl; have hcz10_6 : w9.cell? ⟨gb105, 6, none⟩ = some (.bool false) := (blk_cell BK105.out 6).trans rfl; have hfz10_0 := blk_frozen BK105.out 0; have hfz10_1 := blk_frozen BK105.out 1; have hfz10_2 := blk_frozen BK105.out 2; have hfz10_3 := blk_frozen BK105.out 3; have hfz10_4 := blk_frozen BK105.out 4; have hfz10_5 := blk_frozen BK105.out 5; have hfz10_6 := blk_frozen BK105.out 6) | ((with_reducible refine gate_dst (N := 13) rfl ?_); refine Kd.R_lit (Kd.int .i64) _ 3 ?hg (N := 13) ?hd (xs := ([] : List Int)) (inner := []) (ok := fun _ => True) (okp := fun _ => True) ?hr ?hp (fun _ hk => hk) trivial (Below.refl _ _) (Nat.le_refl _) (by simp) ?_; (case hd => rfl); (case hg => rfl); (case hr => first | (go_simp; done) | (go_simp; rfl)); (case hp => exact (Reps.none _ _)); intro v107 w11 ho12 hb hg_ hnew_; clear hg_ hnew_; (first | rw [← Ny106.out] at ho12 | (simp only [Int.reduceToNat] at ho12; rw [← Ny106.out] at ho12)); have n0_ := Aside0.mk (Kd.S_elder' (by (with_reducible repeat (first | apply Kd.S_alloc | apply Kd.S_drewN | apply Kd.S_drew)); exact (Kd.S_mono (Kd.S_far (p := ⟨gb105, 6, none⟩) (Kd.S_far (p := ⟨gb105, 5, none⟩) (Kd.S_far (p := ⟨gb105, 4, none⟩) (Kd.S_far (p := ⟨gb105, 3, none⟩) (Kd.S_far (p := ⟨gb105, 2, none⟩) (Kd.S_far (p := ⟨gb105, 1, none⟩) (Kd.S_far (p := ⟨gb105, 0, none⟩) (Kd.S_mono HO_3.out (fun k_ hk => (⟨hk, hk.2⟩ : _ ∧ k_ ≠ gb105))) (fun _ hk => hk.2) (.int .i64 ((rd_T51 l0 x9_1).f0))) (fun _ hk => hk.2) (.int .i64 ((rd_T51 l0 x9_1).f1))) (fun _ hk => hk.2) (.int .i64 ((rd_T51 l0 x9_1).f2))) (fun _ hk => hk.2) (.slice A104_3 ((rd_T51 l0 x9_1).f3).length c104_3)) (fun _ hk => hk.2) (.int .i64 ((rd_T51 l0 x9_1).f4))) (fun _ hk => hk.2) (.int .i64 ((rd_T51 l0 x9_1).f5))) (fun _ hk => hk.2) (.bool ((rd_T51 l0 x9_1).f6))) (fun _ h_ => h_.1))) (Kd.R_base ho12) hb); have n1_ := Aside0.mk (Kd.R_lower ho12 (below_size (by repeat (first | (with_reducible first | exact HB.out | apply below_alloc | apply pw_below_drewN | apply below_drew1 | refine below_set ?_ GE105.out) | exact HB.out)))); have n2_ := Aside0.mk (blk_below (g := gb105) (o := .cells #[.int .i64 ((rd_T51 l0 x9_1).f0), .int .i64 ((rd_T51 l0 x9_1).f1), .int .i64 ((rd_T51 l0 x9_1).f2), .slice A104_3 ((rd_T51 l0 x9_1).f3).length c104_3, .int .i64 ((rd_T51 l0 x9_1).f4), .int .i64 ((rd_T51 l0 x9_1).f5), .bool ((rd_T51 l0 x9_1).f6)] 51 (0, 0)) (by (with_reducible repeat (first | refine blk_drewN ?_ _ | refine blk_drew ?_ | refine blk_alloc ?_ _)); refine blk_put (cs := #[.int .i64 ((rd_T51 l0 x9_1).f0), .int .i64 ((rd_T51 l0 x9_1).f1), .int .i64 ((rd_T51 l0 x9_1).f2), .slice A104_3 ((rd_T51 l0 x9_1).f3).length c104_3, .int .i64 ((rd_T51 l0 x9_1).f4), .int .i64 ((rd_T51 l0 x9_1).f5), .bool false]) ?_ 6 _ rfl; (with_reducible repeat (first | refine blk_drewN ?_ _ | refine blk_drew ?_ | refine blk_alloc ?_ _)); refine blk_put (cs := #[.int .i64 ((rd_T51 l0 x9_1).f0), .int .i64 ((rd_T51 l0 x9_1).f1), .int .i64 ((rd_T51 l0 x9_1).f2), .slice A104_3 ((rd_T51 l0 x9_1).f3).length c104_3, .int .i64 ((rd_T51 l0 x9_1).f4), .int .i64 0, .bool false]) ?_ 5 _ rfl; (with_reducible repeat (first | refine blk_drewN ?_ _ | refine blk_drew ?_ | refine blk_alloc ?_ _)); refine blk_put (cs := #[.int .i64 ((rd_T51 l0 x9_1).f0), .int .i64 ((rd_T51 l0 x9_1).f1), .int .i64 ((rd_T51 l0 x9_1).f2), .slice A104_3 ((rd_T51 l0 x9_1).f3).length c104_3, .int .i64 0, .int .i64 0, .bool false]) ?_ 4 _ rfl; (with_reducible repeat (first | refine blk_drewN ?_ _ | refine blk_drew ?_ | refine blk_alloc ?_ _)); refine blk_put (cs := #[.int .i64 ((rd_T51 l0 x9_1).f0), .int .i64 ((rd_T51 l0 x9_1).f1), .int .i64 ((rd_T51 l0 x9_1).f2), .slice none 0 0, .int .i64 0, .int .i64 0, .bool false]) ?_ 3 _ rfl; (with_reducible repeat (first | refine blk_drewN ?_ _ | refine blk_drew ?_ | refine blk_alloc ?_ _)); refine blk_put (cs := #[.int .i64 ((rd_T51 l0 x9_1).f0), .int .i64 ((rd_T51 l0 x9_1).f1), .int .i64 0, .slice none 0 0, .int .i64 0, .int .i64 0, .bool false]) ?_ 2 _ rfl; (with_reducible repeat (first | refine blk_drewN ?_ _ | refine blk_drew ?_ | refine blk_alloc ?_ _)); refine blk_put (cs := #[.int .i64 ((rd_T51 l0 x9_1).f0), .int .i64 0, .int .i64 0, .slice none 0 0, .int .i64 0, .int .i64 0, .bool false]) ?_ 1 _ rfl; (with_reducible repeat (first | refine blk_drewN ?_ _ | refine blk_drew ?_ | refine blk_alloc ?_ _)); refine blk_put (cs := #[.int .i64 0, .int .i64 0, .int .i64 0, .slice none 0 0, .int .i64 0, .int .i64 0, .bool false]) ?_ 0 _ rfl; (with_reducible repeat (first | refine blk_drewN ?_ _ | refine blk_drew ?_ | refine blk_alloc ?_ _)); exact BK105.out) hb); have n3_ := Aside0.mk (below_step (by repeat (first | (with_reducible first | exact HB.out | apply below_alloc | apply pw_below_drewN | apply below_drew1 | refine below_set ?_ GE105.out) | exact HB.out)) hb); clear HO_3; clear BK105; clear HB; have HO_3 := n0_; have HO108 := n1_; (try have hv1_108 := fun (W_ : World) (a_ : Addr) (m_ : Mode) => run_store Try.prog W_ a_ _ m_ (Kd.R_val HO108.out).2); have BK105 := n2_; have HB := n3_; clear n0_ n1_ n2_ n3_; clear hb ho12; have hcz13_0 : w11.cell? ⟨gb105, 0, none⟩ = some (.int .i64 ((rd_T51 l0 x9_1).f0)) := (blk_cell BK105.out 0).trans rfl; have hcz13_1 : w11.cell? ⟨gb105, 1, none⟩ = some (.int .i64 ((rd_T51 l0 x9_1).f1)) := (blk_cell BK105.out 1).trans rfl; have hcz13_2 : w11.cell? ⟨gb105, 2, none⟩ = some (.int .i64 ((rd_T51 l0 x9_1).f2)) := (blk_cell BK105.out 2).trans rfl; have hcz13_3 : w11.cell? ⟨gb105, 3, none⟩ = some (.slice A104_3 ((rd_T51 l0 x9_1).f3).length c104_3) := (blk_cell BK105.out 3).trans rfl; have hcz13_4 : w11.cell? ⟨gb105, 4, none⟩ = some (.int .i64 ((rd_T51 l0 x9_1).f4)) := (blk_cell BK105.out 4).trans rfl; have hcz13_5 : w11.cell? ⟨gb105, 5, none⟩ = some (.int .i64 ((rd_T51 l0 x9_1).f5)) := (blk_cell BK105.out 5).trans rfl; have hcz13_6 : w11.cell? ⟨gb105, 6, none⟩ = some (.bool ((rd_T51 l0 x9_1).f6)) := (blk_cell BK105.out 6).trans rfl; have hfz13_0 := blk_frozen BK105.out 0; have hfz13_1 := blk_frozen BK105.out 1; have hfz13_2 := blk_frozen BK105.out 2; have hfz13_3 := blk_frozen BK105.out 3; have hfz13_4 := blk_frozen BK105.out 4; have hfz13_5 := blk_frozen BK105.out 5; have hfz13_6 := blk_frozen BK105.out 6) | ((with_reducible refine gate_builtin (b := .append) (xs := #[.tmp 13, .tmp 15]) rfl ?_); at_builtin; refine Kd.R_append_rows (Kd.int .i64) (w0 := w) w.heap.size rfl (.tmp 13) (.tmp 15) 46 3 (.int .i64 0) 8 rfl Try.underlying46 info3 rfl (by decide) (by omega) v107 y106 ((rd_T51 l0 x9_1).f3) _ _ _ (fun _ => True) (fun _ => False) rfl rfl ?aO ?aR (fun _ _ h => h) (fun _ h => h.elim) ?aF ?aB ?aS ?aL ?_; (case aR => repeat (first | exact (Kd.C_below HR104_3.out HB.out) | (with_reducible refine Kd.C_alloc ?_ _) | (with_reducible refine Kd.C_drewN ?_ _) | (with_reducible refine Kd.C_drew ?_))); (case aB => exact (by repeat (first | (with_reducible first | exact HB.out | apply below_alloc | apply pw_below_drewN | apply below_drew1 | refine below_set ?_ GE105.out) | exact HB.out))); (case aF => exact (fun _ _ => trivial)); (case aO => exact (by (with_reducible repeat (first | apply Kd.R_alloc | apply Kd.R_drewN | apply Kd.R_drew)); exact HO108.out)); (case aS => exact (below_size (by repeat (first | (with_reducible first | exact HB.out | apply below_alloc | apply pw_below_drewN | apply below_drew1 | refine below_set ?_ GE105.out) | exact HB.out)))); (case aL => have := LMc7.out; omega); intro v110 w14 ho hb hg hat; rw [← Ny109.out] at ho; have n0_ := Aside0.mk (Kd.S_after (ok := (fun k_ => k_ ≠ gb105)) (by (with_reducible repeat (first | apply Kd.S_alloc | apply Kd.S_drewN | apply Kd.S_drew)); exact Kd.S_mono HO_3.out (fun _ hk => ⟨hk.1.2, hk.2⟩)) hg hat); have n1_ := Aside0.mk (blk_grown (g := gb105) (o := .cells #[.int .i64 ((rd_T51 l0 x9_1).f0), .int .i64 ((rd_T51 l0 x9_1).f1), .int .i64 ((rd_T51 l0 x9_1).f2), .slice A104_3 ((rd_T51 l0 x9_1).f3).length c104_3, .int .i64 ((rd_T51 l0 x9_1).f4), .int .i64 ((rd_T51 l0 x9_1).f5), .bool ((rd_T51 l0 x9_1).f6)] 51 (0, 0)) (by (with_reducible repeat (first | refine blk_drewN ?_ _ | refine blk_drew ?_ | refine blk_alloc ?_ _)); exact BK105.out) hg (Kd.R_ne HO108.out BK105.out (by decide))); have n2_ := Aside0.mk (hb); have n3_ := Aside0.mk (ho); clear HO_3; clear BK105; clear HB; clear HO108; have HO_3 := n0_; have BK105 := n1_; have HB := n2_; have HO111 := n3_; (try have hv1_111 := fun (W_ : World) (a_ : Addr) (m_ : Mode) => run_store Try.prog W_ a_ _ m_ (Kd.R_val HO111.out).2); clear n0_ n1_ n2_ n3_; clear ho hb hg hat; obtain ⟨Ao15, co15, eo15⟩ := Kd.R_slice HO111.out; subst eo15; have hcz16_0 : w14.cell? ⟨gb105, 0, none⟩ = some (.int .i64 ((rd_T51 l0 x9_1).f0)) := (blk_cell BK105.out 0).trans rfl; have hcz16_1 : w14.cell? ⟨gb105, 1, none⟩ = some (.int .i64 ((rd_T51 l0 x9_1).f1)) := (blk_cell BK105.out 1).trans rfl; have hcz16_2 : w14.cell? ⟨gb105, 2, none⟩ = some (.int .i64 ((rd_T51 l0 x9_1).f2)) := (blk_cell BK105.out 2).trans rfl; have hcz16_3 : w14.cell? ⟨gb105, 3, none⟩ = some (.slice A104_3 ((rd_T51 l0 x9_1).f3).length c104_3) := (blk_cell BK105.out 3).trans rfl; have hcz16_4 : w14.cell? ⟨gb105, 4, none⟩ = some (.int .i64 ((rd_T51 l0 x9_1).f4)) := (blk_cell BK105.out 4).trans rfl; have hcz16_5 : w14.cell? ⟨gb105, 5, none⟩ = some (.int .i64 ((rd_T51 l0 x9_1).f5)) := (blk_cell BK105.out 5).trans rfl; have hcz16_6 : w14.cell? ⟨gb105, 6, none⟩ = some (.bool ((rd_T51 l0 x9_1).f6)) := (blk_cell BK105.out 6).trans rfl; have hfz16_0 := blk_frozen BK105.out 0; have hfz16_1 := blk_frozen BK105.out 1; have hfz16_2 := blk_frozen BK105.out 2; have hfz16_3 := blk_frozen BK105.out 3; have hfz16_4 := blk_frozen BK105.out 4; have hfz16_5 := blk_frozen BK105.out 5; have hfz16_6 := blk_frozen BK105.out 6) | ((with_reducible refine gate_store (t := 46) (p := 17) rfl ?_); refine store_event (t := 46) (p := 17) (v := ?vo_w17) (w1 := (w14.setCell ⟨gb105, 3, none⟩ (.slice Ao15 y109.length co15))) ?hg ?ho ?hn ?hr ?_; (case ho => rfl); (case hg => rfl); (case hn => rfl); (case hr => first | (go_simp; done) | (go_simp; rfl)); intro w17 hw; have n0_ : Aside0 (Kd.S k51 51 w17 w.heap.size (fun k_ => some k_ ≠ (.slice Ao15 y109.length co15 : Value).ownBlock ∧ k_ ≠ gb105) u3 x3_1) := ⟨(by rw [hw]; exact (by (with_reducible repeat (first | apply Kd.S_alloc | apply Kd.S_drewN | apply Kd.S_drew)); exact Kd.S_mono (Kd.S_far (p := ⟨gb105, 3, none⟩) (Kd.S_mono HO_3.out (fun k_ hk => (⟨hk, hk.1⟩ : _ ∧ k_ ≠ gb105))) (fun _ hk => hk.2) (.slice Ao15 y109.length co15)) (fun _ hk => ⟨hk.1.2, hk.1.1⟩)))⟩; have n1_ : Aside0 (Kd.R (Kd.int .i64) 3 w17 w.heap.size (fun _ => True) (.slice Ao15 y109.length co15) y109) := ⟨(by rw [hw]; exact (by (with_reducible repeat (first | apply Kd.R_alloc | apply Kd.R_drewN | apply Kd.R_drew)); exact Kd.R_mono (Kd.R_far (p := ⟨gb105, 3, none⟩) (Kd.R_types HO111.out BK105.out (by decide)) (fun _ hk => hk.2) (.slice Ao15 y109.length co15)) (fun _ hk => trivial)))⟩; have n2_ : Aside0 (w17.heap[gb105]? = some (.cells #[.int .i64 ((rd_T51 l0 x9_1).f0), .int .i64 ((rd_T51 l0 x9_1).f1), .int .i64 ((rd_T51 l0 x9_1).f2), .slice Ao15 y109.length co15, .int .i64 ((rd_T51 l0 x9_1).f4), .int .i64 ((rd_T51 l0 x9_1).f5), .bool ((rd_T51 l0 x9_1).f6)] 51 (0, 0))) := ⟨(by rw [hw]; exact (by (with_reducible repeat (first | refine blk_drewN ?_ _ | refine blk_drew ?_ | refine blk_alloc ?_ _)); refine blk_put (cs := #[.int .i64 ((rd_T51 l0 x9_1).f0), .int .i64 ((rd_T51 l0 x9_1).f1), .int .i64 ((rd_T51 l0 x9_1).f2), .slice A104_3 ((rd_T51 l0 x9_1).f3).length c104_3, .int .i64 ((rd_T51 l0 x9_1).f4), .int .i64 ((rd_T51 l0 x9_1).f5), .bool ((rd_T51 l0 x9_1).f6)]) ?_ 3 _ rfl; (with_reducible repeat (first | refine blk_drewN ?_ _ | refine blk_drew ?_ | refine blk_alloc ?_ _)); exact BK105.out))⟩; have n3_ : Aside0 (Below w.heap.size w w17) := ⟨(by rw [hw]; exact (by repeat (first | (with_reducible first | exact HB.out | apply below_alloc | apply pw_below_drewN | apply below_drew1 | refine below_set ?_ GE105.out) | exact HB.out)))⟩; clear hw; clear HO_3; clear HO111; clear BK105; clear HB; have HO_3 := n0_; have HO111 := n1_; (try have hv1_111 := fun (W_ : World) (a_ : Addr) (m_ : Mode) => run_store Try.prog W_ a_ _ m_ (Kd.R_val HO111.out).2); have BK105 := n2_; have HB := n3_; clear n0_ n1_ n2_ n3_; have hcz18_0 : w17.cell? ⟨gb105, 0, none⟩ = some (.int .i64 ((rd_T51 l0 x9_1).f0)) := (blk_cell BK105.out 0).trans rfl; have hcz18_1 : w17.cell? ⟨gb105, 1, none⟩ = some (.int .i64 ((rd_T51 l0 x9_1).f1)) := (blk_cell BK105.out 1).trans rfl; have hcz18_2 : w17.cell? ⟨gb105, 2, none⟩ = some (.int .i64 ((rd_T51 l0 x9_1).f2)) := (blk_cell BK105.out 2).trans rfl; have hcz18_3 : w17.cell? ⟨gb105, 3, none⟩ = some (.slice Ao15 y109.length co15) := (blk_cell BK105.out 3).trans rfl; have hcz18_4 : w17.cell? ⟨gb105, 4, none⟩ = some (.int .i64 ((rd_T51 l0 x9_1).f4)) := (blk_cell BK105.out 4).trans rfl; have hcz18_5 : w17.cell? ⟨gb105, 5, none⟩ = some (.int .i64 ((rd_T51 l0 x9_1).f5)) := (blk_cell BK105.out 5).trans rfl; have hcz18_6 : w17.cell? ⟨gb105, 6, none⟩ = some (.bool ((rd_T51 l0 x9_1).f6)) := (blk_cell BK105.out 6).trans rfl; have hfz18_0 := blk_frozen BK105.out 0; have hfz18_1 := blk_frozen BK105.out 1; have hfz18_2 := blk_frozen BK105.out 2; have hfz18_3 := blk_frozen BK105.out 3; have hfz18_4 := blk_frozen BK105.out 4; have hfz18_5 := blk_frozen BK105.out 5; have hfz18_6 := blk_frozen BK105.out 6) | ((with_reducible refine gate_builtin (b := .append) (xs := #[.tmp 18, .tmp 20]) rfl ?_); at_builtin; refine Kd.S_append k51 (w0 := w) w.heap.size rfl (.tmp 18) (.tmp 20) 39 51 (.agg #[(.int .i64 0), (.int .i64 0), (.int .i64 0), (.slice none 0 0), (.int .i64 0), (.int .i64 0), (.bool false)]) 72 rfl Try.underlying39 info51 rfl (by decide) (by omega) u3 x3_1 (⟨(rd_T51 l0 x9_1).f0, (rd_T51 l0 x9_1).f1, (rd_T51 l0 x9_1).f2, y109, (rd_T51 l0 x9_1).f4, (rd_T51 l0 x9_1).f5, (rd_T51 l0 x9_1).f6⟩ : S51) [.int .i64 ((rd_T51 l0 x9_1).f0), .int .i64 ((rd_T51 l0 x9_1).f1), .int .i64 ((rd_T51 l0 x9_1).f2), .slice Ao15 y109.length co15, .int .i64 ((rd_T51 l0 x9_1).f4), .int .i64 ((rd_T51 l0 x9_1).f5), .bool ((rd_T51 l0 x9_1).f6)] (fun k_ => k_ ≠ gb105) (fun k_ => some k_ = (.slice Ao15 y109.length co15 : Value).ownBlock) rfl rfl ?aP (fun k_ hk_ => ((Kd.R_mono (ok' := fun k_ => ((fun k_ => k_ ≠ gb105)) k_ ∧ some k_ ≠ (u3 : Value).ownBlock) (Kd.R_types (Kd.R_apart' (HO111.out) (Kd.S_typed HO_3.out) (by decide)) BK105.out (by decide)) (fun k_ hk => ⟨hk.2, hk.1.2⟩))).1 k_ hk_.symm) ?aF ?aO ?aB ?aS ?aL ?_; (case aP => exact k51_mkM _ _ _ (⟨(rd_T51 l0 x9_1).f0, (rd_T51 l0 x9_1).f1, (rd_T51 l0 x9_1).f2, y109, (rd_T51 l0 x9_1).f4, (rd_T51 l0 x9_1).f5, (rd_T51 l0 x9_1).f6⟩ : S51) (Kd.R_mono (Kd.R_tight rfl (Kd.R_mono (ok' := fun k_ => ((fun k_ => k_ ≠ gb105)) k_ ∧ some k_ ≠ (u3 : Value).ownBlock) (Kd.R_types (Kd.R_apart' (HO111.out) (Kd.S_typed HO_3.out) (by decide)) BK105.out (by decide)) (fun k_ hk => ⟨hk.2, hk.1.2⟩))) (fun _ h_ => h_))); (case aB => exact (by repeat (first | (with_reducible first | exact HB.out | apply below_alloc | apply pw_below_drewN | apply below_drew1 | refine below_set ?_ GE105.out) | exact HB.out))); (case aF => exact (fun k_ hk => Kd.freshB (g := gb105) (o := .cells #[.int .i64 ((rd_T51 l0 x9_1).f0), .int .i64 ((rd_T51 l0 x9_1).f1), .int .i64 ((rd_T51 l0 x9_1).f2), .slice Ao15 y109.length co15, .int .i64 ((rd_T51 l0 x9_1).f4), .int .i64 ((rd_T51 l0 x9_1).f5), .bool ((rd_T51 l0 x9_1).f6)] 51 (0, 0)) (by (with_reducible repeat (first | refine blk_drewN ?_ _ | refine blk_drew ?_ | refine blk_alloc ?_ _)); exact BK105.out) k_ hk)); (case aO => exact (by (with_reducible repeat (first | apply Kd.S_alloc | apply Kd.S_drewN | apply Kd.S_drew)); exact Kd.S_mono HO_3.out (fun k_ hk => ⟨hk.2, fun e_ => hk.1 e_⟩))); (case aS => exact (below_size (by repeat (first | (with_reducible first | exact HB.out | apply below_alloc | apply pw_below_drewN | apply below_drew1 | refine below_set ?_ GE105.out) | exact HB.out)))); (case aL => have := LMc8.out; omega); intro v113 w19 ho hb hg hat; rw [← Ny112.out] at ho; have n0_ := Aside0.mk (blk_grown (g := gb105) (o := .cells #[.int .i64 ((rd_T51 l0 x9_1).f0), .int .i64 ((rd_T51 l0 x9_1).f1), .int .i64 ((rd_T51 l0 x9_1).f2), .slice Ao15 y109.length co15, .int .i64 ((rd_T51 l0 x9_1).f4), .int .i64 ((rd_T51 l0 x9_1).f5), .bool ((rd_T51 l0 x9_1).f6)] 51 (0, 0)) (by (with_reducible repeat (first | refine blk_drewN ?_ _ | refine blk_drew ?_ | refine blk_alloc ?_ _)); exact BK105.out) hg (Kd.S_away HO_3.out (fun _ hk => hk.2))); have n1_ := Aside0.mk (hb); have n2_ := Aside0.mk (ho); clear BK105; clear HB; clear HO_3; clear HO111; have BK105 := n0_; have HB := n1_; have HO114 := n2_; (try have hv1_114 := fun (W_ : World) (a_ : Addr) (m_ : Mode) => run_store Try.prog W_ a_ _ m_ (Kd.R_val HO114.out).2); clear n0_ n1_ n2_; clear ho hb hg hat))
    go_roundg k1
    case measure => have := HK1.out; omega
    case rel => exact ⟨(y112), (wrap64 (x9_1 + 1)), (by first | rfl | (simp; done) | (simp [*]; done)), H', ⟨by have := HK1.out; omega⟩, ⟨by (with_reducible repeat (first | apply Kd.S_alloc | apply Kd.S_drewN | apply Kd.S_drew)); exact Kd.S_mono HO114.out (fun _ hk => trivial)⟩, ⟨by repeat (first | (with_reducible first | exact HB.out | apply below_alloc | apply pw_below_drewN | apply below_drew1 | refine below_set ?_ GE105.out) | exact HB.out)⟩⟩
   ·have c4b0 : decide (x9_1 < (l0.length : Int)) = false := decide_eq_false c4
    clear c4
    obtain rfl := Option.some.inj H
    go_wp2
    go_ret
    exact ⟨_, by first | rfl | (simp [errW_none, errW_some] <;> rfl) | (simp [*, errW_none, errW_some] <;> rfl), by (with_reducible repeat (first | apply Kd.S_alloc | apply Kd.S_drewN | apply Kd.S_drew)); exact HO_3.out, by repeat (first | (with_reducible first | exact HB.out | apply below_alloc | apply pw_below_drewN | apply below_drew1) | exact HB.out)⟩

/-! ### impl_InRange: function 141 -/
def impl_InRange.f (a0 : Int) (a1 : Int) (a2 : Int) : Option (Bool) := if a1 ≤ a0 then (some (decide (a0 ≤ a2))) else (some false)
open Go.Proofs.YtplfbjbbnjlnkaaM in
set_option maxHeartbeats 8000000 in
set_option maxRecDepth 100000 in
theorem impl_InRange.calls (a0 : Int) (a1 : Int) (a2 : Int) (r : Bool) (w : World) (h : impl_InRange.f a0 a1 a2 = some r) :
  Calls Try.prog 141 #[.int .i64 a0, .int .i64 a1, .int .i64 a2] w fun e w' => e = .returned (.bool r) ∧ Below w.heap.size w w' := by
 have HB := Aside0.mk (Below.refl w.heap.size w)
 have H := h
 clear h
 unfold impl_InRange.f at H
 go_enter Try.func141, Try.ntmps141
 replace H := ifD H; rcases H with ⟨c1, H⟩ | ⟨c1, H⟩
 ·have c1_0 := decT c1
  replace c1 := Aside0.mk c1
  first | rw [c1_0] | skip
  obtain rfl := Option.some.inj H
  clear H
  go_wp2
  go_ret
  exact ⟨rfl, HB.out⟩
 ·have c1_0 := decF c1
  replace c1 := Aside0.mk c1
  first | rw [c1_0] | skip
  obtain rfl := Option.some.inj H
  clear H
  go_wp2
  go_ret
  exact ⟨rfl, HB.out⟩

/-! ### impl_IsName: function 121 -/
def impl_IsName.f (a0 : Int) : Option (Bool) := (impl_InRange.f a0 10 49).bind fun t115 => (some t115)
open Go.Proofs.YtplfbjbbnjlnkaaM in
set_option maxHeartbeats 8000000 in
set_option maxRecDepth 100000 in
theorem impl_IsName.calls (a0 : Int) (r : Bool) (w : World) (h : impl_IsName.f a0 = some r) :
  Calls Try.prog 121 #[.int .i64 a0] w fun e w' => e = .returned (.bool r) ∧ Below w.heap.size w w' := by
 have HB := Aside0.mk (Below.refl w.heap.size w)
 have H := h
 clear h
 unfold impl_IsName.f at H
 go_enter Try.func121, Try.ntmps121
 replace H := Option.bind_eq_some_iff.mp H
 obtain ⟨t115, hm, H⟩ := H
 try dsimp only at H
 replace H := Aside0.mk H
 have hcall := impl_InRange.calls _ _ _ _ w  hm
 clear hm
 go_wp2_with fail
 refine hcall.mono ?_
 rintro e W1 ⟨rfl, hb⟩
 clear hcall
 replace HB := bH HB hb; clear hb
 replace H := H.out
 obtain rfl := Option.some.inj H
 clear H
 go_wp2
 go_ret
 exact ⟨rfl, HB.out⟩

/-! ### impl_KindOf: function 122 -/
def impl_KindOf.f (a0 : Int) : Option (Int) := (impl_IsName.f a0).bind fun t116 => (if t116 = true then (some (wrap64 (Int.tdiv a0 10))) else (some 0))
open Go.Proofs.YtplfbjbbnjlnkaaM in
set_option maxHeartbeats 8000000 in
set_option maxRecDepth 100000 in
theorem impl_KindOf.calls (a0 : Int) (r : Int) (w : World) (h : impl_KindOf.f a0 = some r) :
  Calls Try.prog 122 #[.int .i64 a0] w fun e w' => e = .returned (.int .i64 r) ∧ Below w.heap.size w w' := by
 have HB := Aside0.mk (Below.refl w.heap.size w)
 have H := h
 clear h
 unfold impl_KindOf.f at H
 go_enter Try.func122, Try.ntmps122
 replace H := Option.bind_eq_some_iff.mp H
 obtain ⟨t116, hm, H⟩ := H
 try dsimp only at H
 replace H := Aside0.mk H
 have hcall := impl_IsName.calls _ _ w  hm
 clear hm
 go_wp2_with fail
 refine hcall.mono ?_
 rintro e W1 ⟨rfl, hb⟩
 clear hcall
 replace HB := bH HB hb; clear hb
 replace H := H.out
 replace H := ifD H; rcases H with ⟨c2, H⟩ | ⟨c2, H⟩
 ·subst c2
  obtain rfl := Option.some.inj H
  clear H
  go_wp2
  go_ret
  exact ⟨rfl, HB.out⟩
 ·replace c2 := (Bool.not_eq_true _).mp c2
  subst c2
  obtain rfl := Option.some.inj H
  clear H
  go_wp2
  go_ret
  exact ⟨rfl, HB.out⟩

/-! ### impl_HasKind: function 52 -/
def impl_HasKind.f (a0 : Int) (a1 : Int) : Option (Bool) := (impl_IsName.f a0).bind fun t117 => (if t117 = true then ((impl_KindOf.f a0).bind fun t118 => (some (t118 == a1))) else (some false))
open Go.Proofs.YtplfbjbbnjlnkaaM in
set_option maxHeartbeats 8000000 in
set_option maxRecDepth 100000 in
theorem impl_HasKind.calls (a0 : Int) (a1 : Int) (r : Bool) (w : World) (h : impl_HasKind.f a0 a1 = some r) :
  Calls Try.prog 52 #[.int .i64 a0, .int .i64 a1] w fun e w' => e = .returned (.bool r) ∧ Below w.heap.size w w' := by
 have HB := Aside0.mk (Below.refl w.heap.size w)
 have H := h
 clear h
 unfold impl_HasKind.f at H
 go_enter Try.func52, Try.ntmps52
 replace H := Option.bind_eq_some_iff.mp H
 obtain ⟨t117, hm, H⟩ := H
 try dsimp only at H
 replace H := Aside0.mk H
 have hcall := impl_IsName.calls _ _ w  hm
 clear hm
 go_wp2_with fail
 refine hcall.mono ?_
 rintro e W1 ⟨rfl, hb⟩
 clear hcall
 replace HB := bH HB hb; clear hb
 replace H := H.out
 replace H := ifD H; rcases H with ⟨c2, H⟩ | ⟨c2, H⟩
 ·subst c2
  replace H := Option.bind_eq_some_iff.mp H
  obtain ⟨t118, hm, H⟩ := H
  try dsimp only at H
  replace H := Aside0.mk H
  have hcall := impl_KindOf.calls _ _ W1  hm
  clear hm
  go_wp2_with fail
  refine hcall.mono ?_
  rintro e W3 ⟨rfl, hb⟩
  clear hcall
  replace HB := bH HB hb; clear hb
  replace H := H.out
  obtain rfl := Option.some.inj H
  clear H
  go_wp2
  go_ret
  exact ⟨rfl, HB.out⟩
 ·replace c2 := (Bool.not_eq_true _).mp c2
  subst c2
  obtain rfl := Option.some.inj H
  clear H
  go_wp2
  go_ret
  exact ⟨rfl, HB.out⟩

/-! ### impl_IsTime: function 149 -/
def impl_IsTime.f (a0 : Int) : Option (Bool) := (impl_InRange.f a0 0 10000).bind fun t119 => (some t119)
open Go.Proofs.YtplfbjbbnjlnkaaM in
set_option maxHeartbeats 8000000 in
set_option maxRecDepth 100000 in
theorem impl_IsTime.calls (a0 : Int) (r : Bool) (w : World) (h : impl_IsTime.f a0 = some r) :
  Calls Try.prog 149 #[.int .i64 a0] w fun e w' => e = .returned (.bool r) ∧ Below w.heap.size w w' := by
 have HB := Aside0.mk (Below.refl w.heap.size w)
 have H := h
 clear h
 unfold impl_IsTime.f at H
 go_enter Try.func149, Try.ntmps149
 replace H := Option.bind_eq_some_iff.mp H
 obtain ⟨t119, hm, H⟩ := H
 try dsimp only at H
 replace H := Aside0.mk H
 have hcall := impl_InRange.calls _ _ _ _ w  hm
 clear hm
 go_wp2_with fail
 refine hcall.mono ?_
 rintro e W1 ⟨rfl, hb⟩
 clear hcall
 replace HB := bH HB hb; clear hb
 replace H := H.out
 obtain rfl := Option.some.inj H
 clear H
 go_wp2
 go_ret
 exact ⟨rfl, HB.out⟩

/-! ### impl_isAscending: function 155 -/
def impl_isAscending.l0 : Nat → List Int → Int → Int → List Int → Int → Int → Option (Bool)
 | 0, _, _, _, _, _, _ => none
 | k + 1, x0, x1, x2, x9, x10, x11 => if x11 < x10 then (if 0 ≤ x11 then (if x11 < (x9.length : Int) then ((impl_InRange.f (rd x9 x11) x1 x2).bind fun t121 => (if t121 = true then (if x11 > 0 then (if 0 ≤ (wrap64 (x11 - 1)) then (if (wrap64 (x11 - 1)) < (x0.length : Int) then (if (rd x0 (wrap64 (x11 - 1))) ≥ (rd x9 x11) then (some false) else (impl_isAscending.l0 k x0 x1 x2 x9 x10 (wrap64 (x11 + 1)))) else (none)) else (none)) else (impl_isAscending.l0 k x0 x1 x2 x9 x10 (wrap64 (x11 + 1)))) else (some false))) else (none)) else (none)) else (some true)
def impl_isAscending.f (k : Nat) (l0 : List Int) (a1 : Int) (a2 : Int) : Option (Bool) := impl_isAscending.l0 k l0 a1 a2 l0 (l0.length : Int) 0
open Go.Proofs.YtplfbjbbnjlnkaaM in
set_option maxHeartbeats 8000000 in
set_option maxRecDepth 100000 in
theorem impl_isAscending.calls (k : Nat) (A0 : Option Addr) (c0 : Nat) (l0 : List Int) (a1 : Int) (a2 : Int) (r : Bool) (w : World) (hr0 : Kd.C (Kd.int .i64) w A0 l0.length l0) (hc0 : l0.length ≤ c0) (h : impl_isAscending.f k l0 a1 a2 = some r) :
  Calls Try.prog 155 #[.slice A0 l0.length c0, .int .i64 a1, .int .i64 a2] w fun e w' => e = .returned (.bool r) ∧ Below w.heap.size w w' := by
 have HR0 := Aside0.mk hr0
 have HC0 := Aside0.mk hc0
 clear hr0 hc0
 have HB := Aside0.mk (Below.refl w.heap.size w)
 have H := h
 clear h
 unfold impl_isAscending.f at H
 go_enter Try.func155, Try.ntmps155
 replace H := Aside0.mk H
 go_wp2
 go_loopg [11] k (fun kq v11 w' => ∃ (x11_1 : Int), v11 = .int .i64 x11_1 ∧ Aside0 (impl_isAscending.l0 kq l0 a1 a2 l0 (l0.length : Int) x11_1 = some r) ∧ Aside0 (kq ≤ k) ∧ Aside0 (Below w.heap.size w w'))
 case atStart => exact ⟨(0), (by first | rfl | (simp; done) | (simp [*]; done)), H, ⟨Nat.le_refl _⟩, HB⟩
 case round =>
  clear H HB 
  obtain ⟨x11_1, rfl, HA, Hk1, HB⟩ := hrel
  cases gk with
  | zero => exact absurd HA.out (by simp [impl_isAscending.l0])
  | succ k1 =>
   have H := HA.out
   clear HA
   simp only [impl_isAscending.l0] at H
   replace H := ifD H; rcases H with ⟨c2, H⟩ | ⟨c2, H⟩
   ·have c2_0 := decT c2
    replace c2 := Aside0.mk c2
    first | rw [c2_0] | skip
    replace H := ifN H; obtain ⟨c3, H⟩ := H
    have c3_0 := decT c3
    replace c3 := Aside0.mk c3
    first | rw [c3_0] | skip
    replace H := ifN H; obtain ⟨c4, H⟩ := H
    have c4_0 := decT c4
    replace c4 := Aside0.mk c4
    first | rw [c4_0] | skip
    have p120 : 0 ≤ (x11_1 : Int) := (of_decide_eq_true (by assumption))
    have q120 : x11_1 < (l0.length : Int) := (of_decide_eq_true (by assumption))
    obtain ⟨ad120, e120, hx120_0⟩ := Kd.at_int HR0.out x11_1 p120 q120
    cases e120
    replace hx120_0 := Aside0.mk hx120_0
    have y120_0 := xC HB hx120_0
    have r120 := eq_true p120; have s120 := eq_true q120
    replace p120 := Aside0.mk p120; replace q120 := Aside0.mk q120
    replace H := Option.bind_eq_some_iff.mp H
    obtain ⟨t121, hm, H⟩ := H
    try dsimp only at H
    replace H := Aside0.mk H
    have hcall := impl_InRange.calls _ _ _ _ wr  hm
    clear hm
    go_wp2_with fail
    refine hcall.mono ?_
    rintro e W5 ⟨rfl, hb⟩
    clear hcall
    try clear y120_0
    replace HB := bH HB hb; clear hb
    replace H := H.out
    replace H := ifD H; rcases H with ⟨c6, H⟩ | ⟨c6, H⟩
    ·subst c6
     replace H := ifD H; rcases H with ⟨c7, H⟩ | ⟨c7, H⟩
     ·replace c7 : 0 < x11_1 := c7
      have c7_0 := decT c7
      replace c7 := Aside0.mk c7
      first | rw [c7_0] | skip
      replace H := ifN H; obtain ⟨c8, H⟩ := H
      have c8_0 := decT c8
      replace c8 := Aside0.mk c8
      first | rw [c8_0] | skip
      replace H := ifN H; obtain ⟨c9, H⟩ := H
      have c9_0 := decT c9
      replace c9 := Aside0.mk c9
      first | rw [c9_0] | skip
      have p122 : 0 ≤ ((wrap64 (x11_1 - 1)) : Int) := (of_decide_eq_true (by assumption))
      have q122 : (wrap64 (x11_1 - 1)) < (l0.length : Int) := (of_decide_eq_true (by assumption))
      obtain ⟨ad122, e122, hx122_0⟩ := Kd.at_int HR0.out (wrap64 (x11_1 - 1)) p122 q122
      obtain rfl : ad120 = ad122 := by injection e122
      replace hx122_0 := Aside0.mk hx122_0
      have y122_0 := xC HB hx122_0
      have r122 := eq_true p122; have s122 := eq_true q122
      replace p122 := Aside0.mk p122; replace q122 := Aside0.mk q122
      replace H := ifD H; rcases H with ⟨c10, H⟩ | ⟨c10, H⟩
      ·replace c10 : (rd l0 x11_1) ≤ (rd l0 (wrap64 (x11_1 - 1))) := c10
       have c10_0 := decT c10
       replace c10 := Aside0.mk c10
       first | rw [c10_0] | skip
       obtain rfl := Option.some.inj H
       clear H
       go_wp2
       go_ret
       exact ⟨rfl, HB.out⟩
      ·replace c10 : ¬ ((rd l0 x11_1) ≤ (rd l0 (wrap64 (x11_1 - 1)))) := c10
       have c10_0 := decF c10
       replace c10 := Aside0.mk c10
       first | rw [c10_0] | skip
       replace H := Aside0.mk H
       go_wp2
       go_roundg k1
       case measure => have := Hk1.out; omega
       case rel => exact ⟨(wrap64 (x11_1 + 1)), (by first | rfl | (simp; done) | (simp [*]; done)), H, ⟨by have := Hk1.out; omega⟩, HB⟩
     ·replace c7 : ¬ (0 < x11_1) := c7
      have c7_0 := decF c7
      replace c7 := Aside0.mk c7
      first | rw [c7_0] | skip
      replace H := Aside0.mk H
      go_wp2
      go_roundg k1
      case measure => have := Hk1.out; omega
      case rel => exact ⟨(wrap64 (x11_1 + 1)), (by first | rfl | (simp; done) | (simp [*]; done)), H, ⟨by have := Hk1.out; omega⟩, HB⟩
    ·replace c6 := (Bool.not_eq_true _).mp c6
     subst c6
     obtain rfl := Option.some.inj H
     clear H
     go_wp2
     go_ret
     exact ⟨rfl, HB.out⟩
   ·have c2_0 := decF c2
    replace c2 := Aside0.mk c2
    first | rw [c2_0] | skip
    obtain rfl := Option.some.inj H
    clear H
    go_wp2
    go_ret
    exact ⟨rfl, HB.out⟩

/-! ### impl_AreGrants: function 101 -/
def impl_AreGrants.l0 : Nat → List (S51) → List (S51) → Int → Int → Option (Bool)
 | 0, _, _, _, _ => none
 | k + 1, x0, x5, x6, x7 => if x7 < x6 then (if 0 ≤ x7 then (if x7 < (x5.length : Int) then (if ((rd_T51 x5 x7).f0) = (wrap64 (x7 + 1)) then ((impl_HasKind.f ((rd_T51 x5 x7).f1) 1).bind fun t125 => (if t125 = true then ((impl_HasKind.f ((rd_T51 x5 x7).f2) 1).bind fun t126 => (if t126 = true then (if ((rd_T51 x5 x7).f1) = ((rd_T51 x5 x7).f2) then (some false) else ((impl_isAscending.f k ((rd_T51 x5 x7).f3) 0 5).bind fun t127 => (if t127 = true then ((impl_IsTime.f ((rd_T51 x5 x7).f4)).bind fun t128 => (if t128 = true then ((impl_InRange.f ((rd_T51 x5 x7).f5) 0 x7).bind fun t129 => (if t129 = true then (impl_AreGrants.l0 k x0 x5 x6 (wrap64 (x7 + 1))) else (some false))) else (some false))) else (some false)))) else (some false))) else (some false))) else (some false)) else (none)) else (none)) else (some (decide ((x0.length : Int) ≤ 12)))
def impl_AreGrants.f (k : Nat) (l0 : List (S51)) : Option (Bool) := impl_AreGrants.l0 k l0 l0 (l0.length : Int) 0
open Go.Proofs.YtplfbjbbnjlnkaaM in
set_option maxHeartbeats 8000000 in
set_option maxRecDepth 100000 in
theorem impl_AreGrants.calls (k : Nat) (A0 : Option Addr) (c0 : Nat) (l0 : List (S51)) (r : Bool) (w : World) (hr0 : Kd.C k51 w A0 l0.length l0) (hc0 : l0.length ≤ c0) (h : impl_AreGrants.f k l0 = some r) :
  Calls Try.prog 101 #[.slice A0 l0.length c0] w fun e w' => e = .returned (.bool r) ∧ Below w.heap.size w w' := by
 have HR0 := Aside0.mk hr0
 have HC0 := Aside0.mk hc0
 clear hr0 hc0
 have HB := Aside0.mk (Below.refl w.heap.size w)
 have H := h
 clear h
 unfold impl_AreGrants.f at H
 have hu51 := Try.underlying51
 go_enter Try.func101, Try.ntmps101
 replace H := Aside0.mk H
 go_wp2
 go_loopg [7] k (fun kq v7 w' => ∃ (x7_1 : Int), v7 = .int .i64 x7_1 ∧ Aside0 (impl_AreGrants.l0 kq l0 l0 (l0.length : Int) x7_1 = some r) ∧ Aside0 (kq ≤ k) ∧ Aside0 (Below w.heap.size w w'))
 case atStart => exact ⟨(0), (by first | rfl | (simp; done) | (simp [*]; done)), H, ⟨Nat.le_refl _⟩, HB⟩
 case round =>
  clear H HB 
  obtain ⟨x7_1, rfl, HA, Hk1, HB⟩ := hrel
  cases gk with
  | zero => exact absurd HA.out (by simp [impl_AreGrants.l0])
  | succ k1 =>
   have H := HA.out
   clear HA
   simp only [impl_AreGrants.l0] at H
   replace H := ifD H; rcases H with ⟨c2, H⟩ | ⟨c2, H⟩
   ·have c2_0 := decT c2
    replace c2 := Aside0.mk c2
    first | rw [c2_0] | skip
    replace H := ifN H; obtain ⟨c3, H⟩ := H
    have c3_0 := decT c3
    replace c3 := Aside0.mk c3
    first | rw [c3_0] | skip
    replace H := ifN H; obtain ⟨c4, H⟩ := H
    have c4_0 := decT c4
    replace c4 := Aside0.mk c4
    first | rw [c4_0] | skip
    have p123 : 0 ≤ (x7_1 : Int) := (of_decide_eq_true (by assumption))
    have q123 : x7_1 < (l0.length : Int) := (of_decide_eq_true (by assumption))
    obtain ⟨ad123, A123_3, c123_3, e123, hx123_0, hx123_1, hx123_2, hx123_3, hx123_4, hx123_5, hx123_6, hl123_3, hi123_3⟩ := at_T51 HR0.out x7_1 p123 q123
    cases e123
    have HR123_3 := Aside0.mk hi123_3; have HC123_3 := Aside0.mk hl123_3; clear hi123_3 hl123_3
    replace hx123_0 := Aside0.mk hx123_0
    have y123_0 := xC HB hx123_0
    replace hx123_1 := Aside0.mk hx123_1
    have y123_1 := xC HB hx123_1
    replace hx123_2 := Aside0.mk hx123_2
    have y123_2 := xC HB hx123_2
    replace hx123_3 := Aside0.mk hx123_3
    have y123_3 := xC HB hx123_3
    replace hx123_4 := Aside0.mk hx123_4
    have y123_4 := xC HB hx123_4
    replace hx123_5 := Aside0.mk hx123_5
    have y123_5 := xC HB hx123_5
    replace hx123_6 := Aside0.mk hx123_6
    have y123_6 := xC HB hx123_6
    have r123 := eq_true p123; have s123 := eq_true q123
    replace p123 := Aside0.mk p123; replace q123 := Aside0.mk q123
    replace H := Aside0.mk H
    go_upto_region 4 with (first | ((with_reducible refine gate_dst (N := 4) rfl ?_); refine box_event ?hg (N := 4) ?hd (cs := #[.int .i64 0, .int .i64 0, .int .i64 0, .slice none 0 0, .int .i64 0, .int .i64 0, .bool false]) (t := 51) ?hr ?_; (case hd => rfl); (case hg => rfl); (case hr => first | (go_simp; done) | (go_simp; rfl)); intro gb5 hg W5 hbox hb; have G5 := Aside0.mk hg; have b0_ := Aside0.mk hb; have BK5 := Aside0.mk hbox; have c_BK5 := blk_cell hbox; have z_BK5 := blk_frozen hbox; clear hg hb hbox) | ((with_reducible refine gate_store (t := 51) (p := 4) rfl ?_); refine store_event (t := 51) (p := 4) (v := ?vo_s6) (w1 := (((((((W5.setCell ⟨gb5, 0, none⟩ (.int .i64 ((rd_T51 l0 x7_1).f0))).setCell ⟨gb5, 1, none⟩ (.int .i64 ((rd_T51 l0 x7_1).f1))).setCell ⟨gb5, 2, none⟩ (.int .i64 ((rd_T51 l0 x7_1).f2))).setCell ⟨gb5, 3, none⟩ (.slice A123_3 ((rd_T51 l0 x7_1).f3).length c123_3)).setCell ⟨gb5, 4, none⟩ (.int .i64 ((rd_T51 l0 x7_1).f4))).setCell ⟨gb5, 5, none⟩ (.int .i64 ((rd_T51 l0 x7_1).f5))).setCell ⟨gb5, 6, none⟩ (.bool ((rd_T51 l0 x7_1).f6)))) ?hg ?ho ?hn ?hr ?_; (case ho => rfl); (case hg => rfl); (case hn => rfl); (case hr => first | (go_simp; done) | (go_simp; rfl)); intro W6 hw; have hb : Below wr.heap.size wr W6 := (by rw [hw]; exact bSet (bSet (bSet (bSet (bSet (bSet (bSet (b0_.out) (Nat.le_of_eq G5.out.symm)) (Nat.le_of_eq G5.out.symm)) (Nat.le_of_eq G5.out.symm)) (Nat.le_of_eq G5.out.symm)) (Nat.le_of_eq G5.out.symm)) (Nat.le_of_eq G5.out.symm)) (Nat.le_of_eq G5.out.symm)); clear b0_; have h_ := blk_set (blk_set (blk_set (blk_set (blk_set (blk_set (blk_set (BK5.out) 0 (.int .i64 ((rd_T51 l0 x7_1).f0))) 1 (.int .i64 ((rd_T51 l0 x7_1).f1))) 2 (.int .i64 ((rd_T51 l0 x7_1).f2))) 3 (.slice A123_3 ((rd_T51 l0 x7_1).f3).length c123_3)) 4 (.int .i64 ((rd_T51 l0 x7_1).f4))) 5 (.int .i64 ((rd_T51 l0 x7_1).f5))) 6 (.bool ((rd_T51 l0 x7_1).f6)); rw [← hw] at h_; simp only [List.setIfInBounds_toArray, List.set_cons_zero, List.set_cons_succ] at h_; clear BK5 c_BK5 z_BK5 hw; replace HB := bH HB hb; clear hb; have BK5 := Aside0.mk h_; have c_BK5 := blk_cell h_; have z_BK5 := blk_frozen h_; clear h_ G5))
    try clear y123_0 y123_1 y123_2 y123_3 y123_4 y123_5 y123_6
    replace H := H.out
    replace H := ifD H; rcases H with ⟨c7, H⟩ | ⟨c7, H⟩
    ·have c7_0 := decT c7; have c7_1 := eqT c7; have c7_2 := neT c7
     clear c7
     first | rw [c7_1] | rw [c7_2] | skip
     replace H := Option.bind_eq_some_iff.mp H
     obtain ⟨t125, hm, H⟩ := H
     try dsimp only at H
     replace H := Aside0.mk H
     have hcall := impl_HasKind.calls _ _ _ W6  hm
     clear hm
     go_wp2_with fail
     refine hcall.mono ?_
     rintro e W8 ⟨rfl, hb⟩
     clear hcall
     replace BK5 := bK BK5 hb; replace c_BK5 := blk_cell BK5.out; replace z_BK5 := blk_frozen BK5.out
     replace HB := bH HB hb; clear hb
     replace H := H.out
     replace H := ifD H; rcases H with ⟨c9, H⟩ | ⟨c9, H⟩
     ·subst c9
      replace H := Option.bind_eq_some_iff.mp H
      obtain ⟨t126, hm, H⟩ := H
      try dsimp only at H
      replace H := Aside0.mk H
      have hcall := impl_HasKind.calls _ _ _ W8  hm
      clear hm
      go_wp2_with fail
      refine hcall.mono ?_
      rintro e W10 ⟨rfl, hb⟩
      clear hcall
      replace BK5 := bK BK5 hb; replace c_BK5 := blk_cell BK5.out; replace z_BK5 := blk_frozen BK5.out
      replace HB := bH HB hb; clear hb
      replace H := H.out
      replace H := ifD H; rcases H with ⟨c11, H⟩ | ⟨c11, H⟩
      ·subst c11
       replace H := ifD H; rcases H with ⟨c12, H⟩ | ⟨c12, H⟩
       ·have c12_0 := decT c12; have c12_1 := eqT c12; have c12_2 := neT c12
        clear c12
        first | rw [c12_1] | rw [c12_2] | skip
        obtain rfl := Option.some.inj H
        clear H
        go_wp2
        go_ret
        exact ⟨rfl, HB.out⟩
       ·have c12_0 := decF c12; have c12_1 := eqF c12; have c12_2 := neF c12
        clear c12
        first | rw [c12_1] | rw [c12_2] | skip
        replace H := Option.bind_eq_some_iff.mp H
        obtain ⟨t127, hm, H⟩ := H
        try dsimp only at H
        replace H := Aside0.mk H
        have hcall := impl_isAscending.calls k1 _ _ _ _ _ _ W10 (Kd.C_below HR123_3.out HB.out) HC123_3.out hm
        clear hm
        go_wp2_with fail
        refine hcall.mono ?_
        rintro e W13 ⟨rfl, hb⟩
        clear hcall
        replace BK5 := bK BK5 hb; replace c_BK5 := blk_cell BK5.out; replace z_BK5 := blk_frozen BK5.out
        replace HB := bH HB hb; clear hb
        replace H := H.out
        replace H := ifD H; rcases H with ⟨c14, H⟩ | ⟨c14, H⟩
        ·subst c14
         replace H := Option.bind_eq_some_iff.mp H
         obtain ⟨t128, hm, H⟩ := H
         try dsimp only at H
         replace H := Aside0.mk H
         have hcall := impl_IsTime.calls _ _ W13  hm
         clear hm
         go_wp2_with fail
         refine hcall.mono ?_
         rintro e W15 ⟨rfl, hb⟩
         clear hcall
         replace BK5 := bK BK5 hb; replace c_BK5 := blk_cell BK5.out; replace z_BK5 := blk_frozen BK5.out
         replace HB := bH HB hb; clear hb
         replace H := H.out
         replace H := ifD H; rcases H with ⟨c16, H⟩ | ⟨c16, H⟩
         ·subst c16
          replace H := Option.bind_eq_some_iff.mp H
          obtain ⟨t129, hm, H⟩ := H
          try dsimp only at H
          replace H := Aside0.mk H
          have hcall := impl_InRange.calls _ _ _ _ W15  hm
          clear hm
          go_wp2_with fail
          refine hcall.mono ?_
          rintro e W17 ⟨rfl, hb⟩
          clear hcall
          replace BK5 := bK BK5 hb; replace c_BK5 := blk_cell BK5.out; replace z_BK5 := blk_frozen BK5.out
          replace HB := bH HB hb; clear hb
          replace H := H.out
          replace H := ifD H; rcases H with ⟨c18, H⟩ | ⟨c18, H⟩
          ·subst c18
           replace H := Aside0.mk H
           go_wp2
           go_roundg k1
           case measure => have := Hk1.out; omega
           case rel => exact ⟨(wrap64 (x7_1 + 1)), (by first | rfl | (simp; done) | (simp [*]; done)), H, ⟨by have := Hk1.out; omega⟩, HB⟩
          ·replace c18 := (Bool.not_eq_true _).mp c18
           subst c18
           obtain rfl := Option.some.inj H
           clear H
           go_wp2
           go_ret
           exact ⟨rfl, HB.out⟩
         ·replace c16 := (Bool.not_eq_true _).mp c16
          subst c16
          obtain rfl := Option.some.inj H
          clear H
          go_wp2
          go_ret
          exact ⟨rfl, HB.out⟩
        ·replace c14 := (Bool.not_eq_true _).mp c14
         subst c14
         obtain rfl := Option.some.inj H
         clear H
         go_wp2
         go_ret
         exact ⟨rfl, HB.out⟩
      ·replace c11 := (Bool.not_eq_true _).mp c11
       subst c11
       obtain rfl := Option.some.inj H
       clear H
       go_wp2
       go_ret
       exact ⟨rfl, HB.out⟩
     ·replace c9 := (Bool.not_eq_true _).mp c9
      subst c9
      obtain rfl := Option.some.inj H
      clear H
      go_wp2
      go_ret
      exact ⟨rfl, HB.out⟩
    ·have c7_0 := decF c7; have c7_1 := eqF c7; have c7_2 := neF c7
     clear c7
     first | rw [c7_1] | rw [c7_2] | skip
     obtain rfl := Option.some.inj H
     clear H
     go_wp2
     go_ret
     exact ⟨rfl, HB.out⟩
   ·have c2_0 := decF c2
    replace c2 := Aside0.mk c2
    first | rw [c2_0] | skip
    obtain rfl := Option.some.inj H
    clear H
    go_wp2
    go_ret
    exact ⟨rfl, HB.out⟩

/-! ### impl_hasGrant: function 98 -/
def impl_hasGrant.f (k : Nat) (l0 : List (S51)) (a1 : Int) : Option (Bool) := (impl_AreGrants.f k l0).bind fun t130 => (if t130 = true then ((impl_InRange.f a1 1 (l0.length : Int)).bind fun t131 => (some t131)) else (some false))
open Go.Proofs.YtplfbjbbnjlnkaaM in
set_option maxHeartbeats 8000000 in
set_option maxRecDepth 100000 in
theorem impl_hasGrant.calls (k : Nat) (A0 : Option Addr) (c0 : Nat) (l0 : List (S51)) (a1 : Int) (r : Bool) (w : World) (hr0 : Kd.C k51 w A0 l0.length l0) (hc0 : l0.length ≤ c0) (h : impl_hasGrant.f k l0 a1 = some r) :
  Calls Try.prog 98 #[.slice A0 l0.length c0, .int .i64 a1] w fun e w' => e = .returned (.bool r) ∧ Below w.heap.size w w' := by
 have HR0 := Aside0.mk hr0
 have HC0 := Aside0.mk hc0
 clear hr0 hc0
 have HB := Aside0.mk (Below.refl w.heap.size w)
 have H := h
 clear h
 unfold impl_hasGrant.f at H
 go_enter Try.func98, Try.ntmps98
 replace H := Option.bind_eq_some_iff.mp H
 obtain ⟨t130, hm, H⟩ := H
 try dsimp only at H
 replace H := Aside0.mk H
 have hcall := impl_AreGrants.calls k _ _ _ _ w (Kd.C_below HR0.out HB.out) HC0.out hm
 clear hm
 go_wp2_with fail
 refine hcall.mono ?_
 rintro e W1 ⟨rfl, hb⟩
 clear hcall
 replace HB := bH HB hb; clear hb
 replace H := H.out
 replace H := ifD H; rcases H with ⟨c2, H⟩ | ⟨c2, H⟩
 ·subst c2
  replace H := Option.bind_eq_some_iff.mp H
  obtain ⟨t131, hm, H⟩ := H
  try dsimp only at H
  replace H := Aside0.mk H
  have hcall := impl_InRange.calls _ _ _ _ W1  hm
  clear hm
  go_wp2_with fail
  refine hcall.mono ?_
  rintro e W3 ⟨rfl, hb⟩
  clear hcall
  replace HB := bH HB hb; clear hb
  replace H := H.out
  obtain rfl := Option.some.inj H
  clear H
  go_wp2
  go_ret
  exact ⟨rfl, HB.out⟩
 ·replace c2 := (Bool.not_eq_true _).mp c2
  subst c2
  obtain rfl := Option.some.inj H
  clear H
  go_wp2
  go_ret
  exact ⟨rfl, HB.out⟩

/-! ### impl_TakeBack: function 29 -/
def impl_TakeBack.f (k : Nat) (l0 : List (S51)) (a1 : Int) : Option ((List (S51)) × Bool) := (impl_copyGrants.f k l0).bind fun t132 => ((impl_hasGrant.f k l0 a1).bind fun t135 => (if t135 = true then (if 0 ≤ (wrap64 (a1 - 1)) then (if (wrap64 (a1 - 1)) < (l0.length : Int) then (if (rd_T51 l0 (wrap64 (a1 - 1))).f6 = true then (some (t132, false)) else (if (wrap64 (a1 - 1)) < (t132.length : Int) then (some ((t132.set ((wrap64 (a1 - 1)) : Int).toNat (⟨(rd_T51 t132 (wrap64 (a1 - 1))).f0, (rd_T51 t132 (wrap64 (a1 - 1))).f1, (rd_T51 t132 (wrap64 (a1 - 1))).f2, (rd_T51 t132 (wrap64 (a1 - 1))).f3, (rd_T51 t132 (wrap64 (a1 - 1))).f4, (rd_T51 t132 (wrap64 (a1 - 1))).f5, true⟩ : S51)), true)) else (none))) else (none)) else (none)) else (some (t132, false))))
set_option maxHeartbeats 8000000 in
set_option maxRecDepth 100000 in
theorem impl_TakeBack.calls (k : Nat) (A0 : Option Addr) (c0 : Nat) (l0 : List (S51)) (a1 : Int) (r1 : List (S51)) (r2 : Bool) (w : World) (hr0 : Kd.C k51 w A0 l0.length l0) (hc0 : l0.length ≤ c0) (h : impl_TakeBack.f k l0 a1 = some (r1, r2)) :
  Calls Try.prog 29 #[.slice A0 l0.length c0, .int .i64 a1] w fun e w' => ∃ v0_ : Value, e = .returned (.tuple #[v0_, .bool r2]) ∧ Kd.S k51 51 w' w.heap.size (fun _ => True) v0_ r1 ∧ Below w.heap.size w w' := by
 have HR0 := Aside0.mk hr0
 have HC0 := Aside0.mk hc0
 clear hr0 hc0
 have HB := Aside0.mk (Below.refl w.heap.size w)
 have H : ((impl_copyGrants.f k l0).bind fun t132 => ((impl_hasGrant.f k l0 a1).bind fun t135 => (if t135 = true then (if 0 ≤ (wrap64 (a1 - 1)) then (if (wrap64 (a1 - 1)) < (l0.length : Int) then (if (rd_T51 l0 (wrap64 (a1 - 1))).f6 = true then (some (t132, false)) else (if (wrap64 (a1 - 1)) < (t132.length : Int) then (some ((t132.set ((wrap64 (a1 - 1)) : Int).toNat (⟨(rd_T51 t132 (wrap64 (a1 - 1))).f0, (rd_T51 t132 (wrap64 (a1 - 1))).f1, (rd_T51 t132 (wrap64 (a1 - 1))).f2, (rd_T51 t132 (wrap64 (a1 - 1))).f3, (rd_T51 t132 (wrap64 (a1 - 1))).f4, (rd_T51 t132 (wrap64 (a1 - 1))).f5, true⟩ : S51)), true)) else (none))) else (none)) else (none)) else (some (t132, false))))) = some (r1, r2) := h
 clear h
 replace H := Option.bind_eq_some_iff.mp H
 obtain ⟨t132, A30, H⟩ := H
 replace H : ((impl_hasGrant.f k l0 a1).bind fun t135 => (if t135 = true then (if 0 ≤ (wrap64 (a1 - 1)) then (if (wrap64 (a1 - 1)) < (l0.length : Int) then (if (rd_T51 l0 (wrap64 (a1 - 1))).f6 = true then (some (t132, false)) else (if (wrap64 (a1 - 1)) < (t132.length : Int) then (some ((t132.set ((wrap64 (a1 - 1)) : Int).toNat (⟨(rd_T51 t132 (wrap64 (a1 - 1))).f0, (rd_T51 t132 (wrap64 (a1 - 1))).f1, (rd_T51 t132 (wrap64 (a1 - 1))).f2, (rd_T51 t132 (wrap64 (a1 - 1))).f3, (rd_T51 t132 (wrap64 (a1 - 1))).f4, (rd_T51 t132 (wrap64 (a1 - 1))).f5, true⟩ : S51)), true)) else (none))) else (none)) else (none)) else (some (t132, false)))) = some (r1, r2) := H
 have A3 := Aside0.mk A30
 clear A30
 replace H := Option.bind_eq_some_iff.mp H
 obtain ⟨t135, A40, H⟩ := H
 replace H : (if t135 = true then (if 0 ≤ (wrap64 (a1 - 1)) then (if (wrap64 (a1 - 1)) < (l0.length : Int) then (if (rd_T51 l0 (wrap64 (a1 - 1))).f6 = true then (some (t132, false)) else (if (wrap64 (a1 - 1)) < (t132.length : Int) then (some ((t132.set ((wrap64 (a1 - 1)) : Int).toNat (⟨(rd_T51 t132 (wrap64 (a1 - 1))).f0, (rd_T51 t132 (wrap64 (a1 - 1))).f1, (rd_T51 t132 (wrap64 (a1 - 1))).f2, (rd_T51 t132 (wrap64 (a1 - 1))).f3, (rd_T51 t132 (wrap64 (a1 - 1))).f4, (rd_T51 t132 (wrap64 (a1 - 1))).f5, true⟩ : S51)), true)) else (none))) else (none)) else (none)) else (some (t132, false))) = some (r1, r2) := H
 have A4 := Aside0.mk A40
 clear A40
 by_cases c5 : t135 = true
 ·subst c5
  have H1 : (if 0 ≤ (wrap64 (a1 - 1)) then (if (wrap64 (a1 - 1)) < (l0.length : Int) then (if (rd_T51 l0 (wrap64 (a1 - 1))).f6 = true then (some (t132, false)) else (if (wrap64 (a1 - 1)) < (t132.length : Int) then (some ((t132.set ((wrap64 (a1 - 1)) : Int).toNat (⟨(rd_T51 t132 (wrap64 (a1 - 1))).f0, (rd_T51 t132 (wrap64 (a1 - 1))).f1, (rd_T51 t132 (wrap64 (a1 - 1))).f2, (rd_T51 t132 (wrap64 (a1 - 1))).f3, (rd_T51 t132 (wrap64 (a1 - 1))).f4, (rd_T51 t132 (wrap64 (a1 - 1))).f5, true⟩ : S51)), true)) else (none))) else (none)) else (none)) = some (r1, r2) := by rw [if_pos rfl] at H; exact H
  clear H
  have H := H1
  clear H1
  obtain ⟨ji6, hji6⟩ : ∃ j_ : Int, (wrap64 (a1 - 1)) = j_ := ⟨_, rfl⟩
  replace H : (if 0 ≤ (ji6) then (if (ji6) < (l0.length : Int) then (if (rd_T51 l0 (ji6)).f6 = true then (some (t132, false)) else (if (ji6) < (t132.length : Int) then (some ((t132.set ((ji6) : Int).toNat (⟨(rd_T51 t132 (ji6)).f0, (rd_T51 t132 (ji6)).f1, (rd_T51 t132 (ji6)).f2, (rd_T51 t132 (ji6)).f3, (rd_T51 t132 (ji6)).f4, (rd_T51 t132 (ji6)).f5, true⟩ : S51)), true)) else (none))) else (none)) else (none)) = some (r1, r2) := by first | (rw [hji6] at H; exact H) | (simp only [hji6] at H ⊢; exact H)
  (try rw [hji6] at A3)
  (try rw [hji6] at A4)
  have hji6w : (IntKind.i64.wrap (a1 - 1)) = ji6 := (i64_w _).trans hji6
  replace H := ifN H; obtain ⟨c7, H⟩ := H
  have c7b0 : decide (0 ≤ (ji6)) = true := decide_eq_true c7
  clear c7
  replace H := ifN H; obtain ⟨c8, H⟩ := H
  have c8b0 : decide ((ji6) < (l0.length : Int)) = true := decide_eq_true c8
  clear c8
  obtain ⟨bq9, hbq9⟩ : ∃ b_ : Bool, b_ = ((rd_T51 l0 (ji6)).f6) := ⟨_, rfl⟩
  replace H : (if bq9 = true then (some (t132, false)) else (if (ji6) < (t132.length : Int) then (some ((t132.set ((ji6) : Int).toNat (⟨(rd_T51 t132 (ji6)).f0, (rd_T51 t132 (ji6)).f1, (rd_T51 t132 (ji6)).f2, (rd_T51 t132 (ji6)).f3, (rd_T51 t132 (ji6)).f4, (rd_T51 t132 (ji6)).f5, true⟩ : S51)), true)) else (none))) = some (r1, r2) := by rw [← hbq9] at H; exact H
  have Nbq9 := Aside0.mk hbq9
  clear hbq9
  by_cases c10 : bq9 = true
  ·subst c10
   have H1 : (some (t132, false)) = some (r1, r2) := by rw [if_pos rfl] at H; exact H
   clear H
   have H := H1
   clear H1
   simp only [Option.some.injEq, Prod.mk.injEq] at H
   obtain ⟨rfl, rfl⟩ := H
   go_enter Try.func29, Try.ntmps29
   go_wp2_with (first | ((with_reducible refine gate_callee (f := 97) rfl ?_); refine goesL_ (some 8) rfl rfl Try.func97 (by kernel_rfl) rfl #[.slice A0 l0.length c0] rfl (by (try simp only [List.map_toArray, List.map_cons, List.map_nil]); first | done | rfl | (simp only [List.length_drop, List.length_take]; rfl)) ?_; (with_reducible refine (impl_copyGrants.calls k _ _ l0 t132 _ ?side1 ?side2 A3.out).mono ?_); (case side1 => repeat (first | exact HR0.out | (with_reducible refine Kd.C_alloc ?_ _) | (with_reducible refine Kd.C_drewN ?_ _) | (with_reducible refine Kd.C_drew ?_))); (case side2 => exact HC0.out); rintro e w11 ⟨v133, rfl, ho0, hb⟩; refine ⟨_, rfl, ?_⟩; have n0_ := Aside0.mk (Kd.S_lower ho0 (below_size (by repeat (first | (with_reducible first | exact HB.out | apply below_alloc | apply pw_below_drewN | apply below_drew1) | exact HB.out)))); have n1_ := Aside0.mk (below_step (by repeat (first | (with_reducible first | exact HB.out | apply below_alloc | apply pw_below_drewN | apply below_drew1) | exact HB.out)) hb); clear HB; have HO134 := n0_; have HB := n1_; clear n0_ n1_; (try clear hb); (try clear hb2); (try clear hk); (try clear hi); (try clear ho0)) | ((with_reducible refine gate_callee (f := 98) rfl ?_); refine goesL_ (some 11) rfl rfl Try.func98 (by kernel_rfl) rfl #[.slice A0 l0.length c0, .int .i64 a1] rfl (by (try simp only [List.map_toArray, List.map_cons, List.map_nil]); first | done | rfl | (simp only [List.length_drop, List.length_take]; rfl)) ?_; (with_reducible refine (impl_hasGrant.calls k _ _ l0 a1 true _ ?side1 ?side2 A4.out).mono ?_); (case side1 => repeat (first | exact (Kd.C_below HR0.out HB.out) | (with_reducible refine Kd.C_alloc ?_ _) | (with_reducible refine Kd.C_drewN ?_ _) | (with_reducible refine Kd.C_drew ?_))); (case side2 => exact HC0.out); rintro e w12 ⟨rfl, hb⟩; refine ⟨_, rfl, ?_⟩; have n0_ := Aside0.mk (Kd.S_below (by (with_reducible repeat (first | apply Kd.S_alloc | apply Kd.S_drewN | apply Kd.S_drew)); exact HO134.out) hb); have n1_ := Aside0.mk (below_step (by repeat (first | (with_reducible first | exact HB.out | apply below_alloc | apply pw_below_drewN | apply below_drew1) | exact HB.out)) hb); clear HO134; clear HB; have HO134 := n0_; have HB := n1_; clear n0_ n1_; (try clear hb); (try clear hb2); (try clear hk); (try clear hi); have p136 : 0 ≤ ((ji6) : Int) := of_decide_eq_true (by first | (with_reducible assumption) | assumption); have q136 : (ji6) < (l0.length : Int) := of_decide_eq_true (by first | (with_reducible assumption) | assumption); obtain ⟨ad136, A136_3, c136_3, e136, hx136_0, hx136_1, hx136_2, hx136_3, hx136_4, hx136_5, hx136_6, hl136_3, hi136_3⟩ := at_T51 HR0.out (ji6) p136 q136; (try rw [← Nbq9.out] at hx136_6); cases e136; replace hx136_0 := (HB.out.cell (World.block_lt_of_cell? w _ hx136_0)).trans hx136_0; replace hx136_1 := (HB.out.cell (World.block_lt_of_cell? w _ hx136_1)).trans hx136_1; replace hx136_2 := (HB.out.cell (World.block_lt_of_cell? w _ hx136_2)).trans hx136_2; replace hx136_3 := (HB.out.cell (World.block_lt_of_cell? w _ hx136_3)).trans hx136_3; replace hx136_4 := (HB.out.cell (World.block_lt_of_cell? w _ hx136_4)).trans hx136_4; replace hx136_5 := (HB.out.cell (World.block_lt_of_cell? w _ hx136_5)).trans hx136_5; replace hx136_6 := (HB.out.cell (World.block_lt_of_cell? w _ hx136_6)).trans hx136_6; have HR136_3 := Aside0.mk hi136_3; have HC136_3 := Aside0.mk hl136_3; clear hi136_3 hl136_3; replace p136 := eq_true p136; replace q136 := eq_true q136))
   go_ret2
   exact ⟨_, by first | rfl | (simp [errW_none, errW_some] <;> rfl) | (simp only [← hji6]; first | rfl | (simp [errW_none, errW_some] <;> rfl)) | (simp [*, errW_none, errW_some] <;> rfl), by (with_reducible repeat (first | apply Kd.S_alloc | apply Kd.S_drewN | apply Kd.S_drew)); exact HO134.out, by repeat (first | (with_reducible first | exact HB.out | apply below_alloc | apply pw_below_drewN | apply below_drew1) | exact HB.out)⟩
  ·replace c10 := Bool.eq_false_iff.mpr c10
   subst c10
   have H1 : (if (ji6) < (t132.length : Int) then (some ((t132.set ((ji6) : Int).toNat (⟨(rd_T51 t132 (ji6)).f0, (rd_T51 t132 (ji6)).f1, (rd_T51 t132 (ji6)).f2, (rd_T51 t132 (ji6)).f3, (rd_T51 t132 (ji6)).f4, (rd_T51 t132 (ji6)).f5, true⟩ : S51)), true)) else (none)) = some (r1, r2) := by rw [if_neg (show ¬ (false = true) by decide)] at H; exact H
   clear H
   have H := H1
   clear H1
   replace H := ifN H; obtain ⟨c13, H⟩ := H
   have c13b0 : decide ((ji6) < (t132.length : Int)) = true := decide_eq_true c13
   clear c13
   obtain ⟨y137, hy137⟩ : ∃ y_ : List (S51), y_ = (t132.set ((ji6) : Int).toNat (⟨(rd_T51 t132 (ji6)).f0, (rd_T51 t132 (ji6)).f1, (rd_T51 t132 (ji6)).f2, (rd_T51 t132 (ji6)).f3, (rd_T51 t132 (ji6)).f4, (rd_T51 t132 (ji6)).f5, true⟩ : S51)) := ⟨_, rfl⟩
   replace H : (some (y137, true)) = some (r1, r2) := by first | (rw [hy137]; with_reducible exact H) | (have H2_ := (Option.bind_some _ _).symm.trans H; rw [hy137]; with_reducible exact H2_) | (have H2_ := (Option.bind_some _ _).symm.trans H; with_reducible exact H2_) | with_reducible exact H | (rw [hy137]; exact H) | exact H
   have Ny137 := Aside0.mk hy137
   clear hy137
   simp only [Option.some.injEq, Prod.mk.injEq] at H
   obtain ⟨rfl, rfl⟩ := H
   go_enter Try.func29, Try.ntmps29
   go_wp2_with (first | ((with_reducible refine gate_callee (f := 97) rfl ?_); refine goesL_ (some 8) rfl rfl Try.func97 (by kernel_rfl) rfl #[.slice A0 l0.length c0] rfl (by (try simp only [List.map_toArray, List.map_cons, List.map_nil]); first | done | rfl | (simp only [List.length_drop, List.length_take]; rfl)) ?_; (with_reducible refine (impl_copyGrants.calls k _ _ l0 t132 _ ?side1 ?side2 A3.out).mono ?_); (case side1 => repeat (first | exact HR0.out | (with_reducible refine Kd.C_alloc ?_ _) | (with_reducible refine Kd.C_drewN ?_ _) | (with_reducible refine Kd.C_drew ?_))); (case side2 => exact HC0.out); rintro e w15 ⟨v133, rfl, ho0, hb⟩; refine ⟨_, rfl, ?_⟩; have n0_ := Aside0.mk (Kd.S_lower ho0 (below_size (by repeat (first | (with_reducible first | exact HB.out | apply below_alloc | apply pw_below_drewN | apply below_drew1) | exact HB.out)))); have n1_ := Aside0.mk (below_step (by repeat (first | (with_reducible first | exact HB.out | apply below_alloc | apply pw_below_drewN | apply below_drew1) | exact HB.out)) hb); clear HB; have HO134 := n0_; have HB := n1_; clear n0_ n1_; (try clear hb); (try clear hb2); (try clear hk); (try clear hi); (try clear ho0)) | ((with_reducible refine gate_callee (f := 98) rfl ?_); refine goesL_ (some 11) rfl rfl Try.func98 (by kernel_rfl) rfl #[.slice A0 l0.length c0, .int .i64 a1] rfl (by (try simp only [List.map_toArray, List.map_cons, List.map_nil]); first | done | rfl | (simp only [List.length_drop, List.length_take]; rfl)) ?_; (with_reducible refine (impl_hasGrant.calls k _ _ l0 a1 true _ ?side1 ?side2 A4.out).mono ?_); (case side1 => repeat (first | exact (Kd.C_below HR0.out HB.out) | (with_reducible refine Kd.C_alloc ?_ _) | (with_reducible refine Kd.C_drewN ?_ _) | (with_reducible refine Kd.C_drew ?_))); (case side2 => exact HC0.out); rintro e w16 ⟨rfl, hb⟩; refine ⟨_, rfl, ?_⟩; have n0_ := Aside0.mk (Kd.S_below (by (with_reducible repeat (first | apply Kd.S_alloc | apply Kd.S_drewN | apply Kd.S_drew)); exact HO134.out) hb); have n1_ := Aside0.mk (below_step (by repeat (first | (with_reducible first | exact HB.out | apply below_alloc | apply pw_below_drewN | apply below_drew1) | exact HB.out)) hb); clear HO134; clear HB; have HO134 := n0_; have HB := n1_; clear n0_ n1_; (try clear hb); (try clear hb2); (try clear hk); (try clear hi); have p136 : 0 ≤ ((ji6) : Int) := of_decide_eq_true (by first | (with_reducible assumption) | assumption); have q136 : (ji6) < (l0.length : Int) := of_decide_eq_true (by first | (with_reducible assumption) | assumption); obtain ⟨ad136, A136_3, c136_3, e136, hx136_0, hx136_1, hx136_2, hx136_3, hx136_4, hx136_5, hx136_6, hl136_3, hi136_3⟩ := at_T51 HR0.out (ji6) p136 q136; (try rw [← Nbq9.out] at hx136_6); cases e136; replace hx136_0 := (HB.out.cell (World.block_lt_of_cell? w _ hx136_0)).trans hx136_0; replace hx136_1 := (HB.out.cell (World.block_lt_of_cell? w _ hx136_1)).trans hx136_1; replace hx136_2 := (HB.out.cell (World.block_lt_of_cell? w _ hx136_2)).trans hx136_2; replace hx136_3 := (HB.out.cell (World.block_lt_of_cell? w _ hx136_3)).trans hx136_3; replace hx136_4 := (HB.out.cell (World.block_lt_of_cell? w _ hx136_4)).trans hx136_4; replace hx136_5 := (HB.out.cell (World.block_lt_of_cell? w _ hx136_5)).trans hx136_5; replace hx136_6 := (HB.out.cell (World.block_lt_of_cell? w _ hx136_6)).trans hx136_6; have HR136_3 := Aside0.mk hi136_3; have HC136_3 := Aside0.mk hl136_3; clear hi136_3 hl136_3; replace p136 := eq_true p136; replace q136 := eq_true q136; have p14 : 0 ≤ ((ji6) : Int) := of_decide_eq_true (by first | (with_reducible assumption) | assumption); have q14 : ((ji6) : Int) < ((t132.length : Int) : Int) := of_decide_eq_true (by first | (with_reducible assumption) | assumption); obtain ⟨go14, co14, eo14, gb14, gl14, cl14, HG14⟩ := Kd.S_form HO134.out (by omega); (first | cases eo14 | (injection eo14 with ea_ en_ ec_; (first | subst ea_ | (injection ea_ with ea_; subst ea_)); subst ec_; clear en_)); have GB14 := Aside0.mk gb14; have GG14 := Aside0.mk HG14; clear gb14 gl14 HG14; obtain ⟨_, ce14, hcl14, hM14, hcc14, hfr14, _, _⟩ := Kd.S_elem HO134.out z51 ((ji6) : Int) p14 q14; obtain ⟨ve14_3, rfl, ge14_3⟩ := k51_openM hM14; have hx14_0 : w16.cell? ⟨go14, ((ji6) : Int).toNat * 7, none⟩ = some (.int .i64 ((rd_T51 t132 (ji6)).f0)) := hcc14 0 _ rfl; have hx14_1 : w16.cell? ⟨go14, ((ji6) : Int).toNat * 7 + 1, none⟩ = some (.int .i64 ((rd_T51 t132 (ji6)).f1)) := hcc14 1 _ rfl; have hx14_2 : w16.cell? ⟨go14, ((ji6) : Int).toNat * 7 + 2, none⟩ = some (.int .i64 ((rd_T51 t132 (ji6)).f2)) := hcc14 2 _ rfl; have hx14_3 : w16.cell? ⟨go14, ((ji6) : Int).toNat * 7 + 3, none⟩ = some (ve14_3) := hcc14 3 _ rfl; have hx14_4 : w16.cell? ⟨go14, ((ji6) : Int).toNat * 7 + 4, none⟩ = some (.int .i64 ((rd_T51 t132 (ji6)).f4)) := hcc14 4 _ rfl; have hx14_5 : w16.cell? ⟨go14, ((ji6) : Int).toNat * 7 + 5, none⟩ = some (.int .i64 ((rd_T51 t132 (ji6)).f5)) := hcc14 5 _ rfl; have hx14_6 : w16.cell? ⟨go14, ((ji6) : Int).toNat * 7 + 6, none⟩ = some (.bool ((rd_T51 t132 (ji6)).f6)) := hcc14 6 _ rfl; have hf14_0 : w16.frozen? ⟨go14, ((ji6) : Int).toNat * 7, none⟩ = false := hfr14 0; have hf14_1 : w16.frozen? ⟨go14, ((ji6) : Int).toNat * 7 + 1, none⟩ = false := hfr14 1; have hf14_2 : w16.frozen? ⟨go14, ((ji6) : Int).toNat * 7 + 2, none⟩ = false := hfr14 2; have hf14_3 : w16.frozen? ⟨go14, ((ji6) : Int).toNat * 7 + 3, none⟩ = false := hfr14 3; have hf14_4 : w16.frozen? ⟨go14, ((ji6) : Int).toNat * 7 + 4, none⟩ = false := hfr14 4; have hf14_5 : w16.frozen? ⟨go14, ((ji6) : Int).toNat * 7 + 5, none⟩ = false := hfr14 5; have hf14_6 : w16.frozen? ⟨go14, ((ji6) : Int).toNat * 7 + 6, none⟩ = false := hfr14 6; clear hcl14 hcc14 hfr14 hM14; replace p14 := eq_true p14; replace q14 := eq_true q14; have HX17 := Aside0.mk (show Kd.S k51 51 w16 w.heap.size (fun k_ => ((fun _ => True)) k_ ∧ ¬ ((fun _ => False)) k_) (.slice (some ⟨go14, 0, none⟩) t132.length co14) t132 from (by (with_reducible repeat (first | apply Kd.S_alloc | apply Kd.S_drewN | apply Kd.S_drew)); exact Kd.S_mono HO134.out (fun k_ hk => ⟨trivial, fun e_ => e_⟩))); obtain ⟨oki17, ce17, hcl17, hM17, hcc17, hfr17, hoki17, hH17⟩ := Kd.S_elem HX17.out z51 ((ji6) : Int) (of_decide_eq_true (by first | (with_reducible assumption) | assumption)) (by have h_ : ((ji6) : Int) < ((t132.length : Int) : Int) := of_decide_eq_true (by first | (with_reducible assumption) | assumption); first | exact h_ | (have e_ := (Kd.S_reads' HO134.out).1; omega) | simpa using h_); obtain ⟨ve17_3, rfl, ge17_3⟩ := k51_openM hM17; have HP17 := Kd.S_seg hH17 (of_decide_eq_true (by first | (with_reducible assumption) | assumption)) (by have h_ : ((ji6) : Int) < ((t132.length : Int) : Int) := of_decide_eq_true (by first | (with_reducible assumption) | assumption); first | exact h_ | (have e_ := (Kd.S_reads' HO134.out).1; omega) | simpa using h_) (seg := [.bool true]) (j := 6) (show 7 ≤ 7 from by decide) (x' := (⟨(rd_T51 t132 (ji6)).f0, (rd_T51 t132 (ji6)).f1, (rd_T51 t132 (ji6)).f2, (rd_T51 t132 (ji6)).f3, (rd_T51 t132 (ji6)).f4, (rd_T51 t132 (ji6)).f5, true⟩ : S51)) (k51_mkM _ _ _ (⟨(rd_T51 t132 (ji6)).f0, (rd_T51 t132 (ji6)).f1, (rd_T51 t132 (ji6)).f2, (rd_T51 t132 (ji6)).f3, (rd_T51 t132 (ji6)).f4, (rd_T51 t132 (ji6)).f5, true⟩ : S51) (Kd.R_mono ge17_3 (fun _ h_ => Or.inl h_))) (fun _ hk => hk) (fun k_ hk_ => hk_.elim); have hx17_6 := hcc17 6 _ rfl; (try simp only [show (k51).sz = 7 from rfl, Nat.mul_one, Nat.add_zero] at hx17_6); have hf17_6 := hfr17 6; (try simp only [show (k51).sz = 7 from rfl, Nat.mul_one, Nat.add_zero] at hf17_6); clear hcl17 hcc17 hfr17 hM17 hoki17 hH17) | ((with_reducible refine gate_store (t := 4) (p := 26) rfl ?_); refine store_event (t := 4) (p := 26) (v := ?vo_w18) (w1 := (w16.setCell ⟨go14, ((ji6) : Int).toNat * 7 + 6, none⟩ (.bool true))) ?hg ?ho ?hn ?hr ?_; (case ho => rfl); (case hg => rfl); (case hn => rfl); (case hr => first | (go_simp; done) | (go_simp; rfl)); intro w18 hw; have hg : w16.grownBy w18 (some go14) := (by rw [hw]; exact HP17.2); have hp_ : Kd.S k51 51 w18 w.heap.size (fun _ => True) (.slice (some ⟨go14, 0, none⟩) t132.length co14) y137 := (by rw [hw, Ny137.out]; exact HP17.1); clear HP17; have n0_ := Aside0.mk (hp_); have n1_ := Aside0.mk ((by rw [hw]; exact below_set (HB.out) GB14.out : Below w.heap.size w w18)); clear HO134; clear HB; have HO134 := n0_; have HB := n1_; clear n0_ n1_; clear hg hw hp_))
   go_ret2
   exact ⟨_, by first | rfl | (simp [errW_none, errW_some] <;> rfl) | (simp only [← hji6]; first | rfl | (simp [errW_none, errW_some] <;> rfl)) | (simp [*, errW_none, errW_some] <;> rfl), by (with_reducible repeat (first | apply Kd.S_alloc | apply Kd.S_drewN | apply Kd.S_drew)); exact HO134.out, by repeat (first | (with_reducible first | exact HB.out | apply below_alloc | apply pw_below_drewN | apply below_drew1) | exact HB.out)⟩
 ·replace c5 := Bool.eq_false_iff.mpr c5
  subst c5
  have H1 : (some (t132, false)) = some (r1, r2) := by rw [if_neg (show ¬ (false = true) by decide)] at H; exact H
  clear H
  have H := H1
  clear H1
  simp only [Option.some.injEq, Prod.mk.injEq] at H
  obtain ⟨rfl, rfl⟩ := H
  go_enter Try.func29, Try.ntmps29
  go_wp2_with (first | ((with_reducible refine gate_callee (f := 97) rfl ?_); refine goesL_ (some 8) rfl rfl Try.func97 (by kernel_rfl) rfl #[.slice A0 l0.length c0] rfl (by (try simp only [List.map_toArray, List.map_cons, List.map_nil]); first | done | rfl | (simp only [List.length_drop, List.length_take]; rfl)) ?_; (with_reducible refine (impl_copyGrants.calls k _ _ l0 t132 _ ?side1 ?side2 A3.out).mono ?_); (case side1 => repeat (first | exact HR0.out | (with_reducible refine Kd.C_alloc ?_ _) | (with_reducible refine Kd.C_drewN ?_ _) | (with_reducible refine Kd.C_drew ?_))); (case side2 => exact HC0.out); rintro e w19 ⟨v133, rfl, ho0, hb⟩; refine ⟨_, rfl, ?_⟩; have n0_ := Aside0.mk (Kd.S_lower ho0 (below_size (by repeat (first | (with_reducible first | exact HB.out | apply below_alloc | apply pw_below_drewN | apply below_drew1) | exact HB.out)))); have n1_ := Aside0.mk (below_step (by repeat (first | (with_reducible first | exact HB.out | apply below_alloc | apply pw_below_drewN | apply below_drew1) | exact HB.out)) hb); clear HB; have HO134 := n0_; have HB := n1_; clear n0_ n1_; (try clear hb); (try clear hb2); (try clear hk); (try clear hi); (try clear ho0)) | ((with_reducible refine gate_callee (f := 98) rfl ?_); refine goesL_ (some 11) rfl rfl Try.func98 (by kernel_rfl) rfl #[.slice A0 l0.length c0, .int .i64 a1] rfl (by (try simp only [List.map_toArray, List.map_cons, List.map_nil]); first | done | rfl | (simp only [List.length_drop, List.length_take]; rfl)) ?_; (with_reducible refine (impl_hasGrant.calls k _ _ l0 a1 false _ ?side1 ?side2 A4.out).mono ?_); (case side1 => repeat (first | exact (Kd.C_below HR0.out HB.out) | (with_reducible refine Kd.C_alloc ?_ _) | (with_reducible refine Kd.C_drewN ?_ _) | (with_reducible refine Kd.C_drew ?_))); (case side2 => exact HC0.out); rintro e w20 ⟨rfl, hb⟩; refine ⟨_, rfl, ?_⟩; have n0_ := Aside0.mk (Kd.S_below (by (with_reducible repeat (first | apply Kd.S_alloc | apply Kd.S_drewN | apply Kd.S_drew)); exact HO134.out) hb); have n1_ := Aside0.mk (below_step (by repeat (first | (with_reducible first | exact HB.out | apply below_alloc | apply pw_below_drewN | apply below_drew1) | exact HB.out)) hb); clear HO134; clear HB; have HO134 := n0_; have HB := n1_; clear n0_ n1_; (try clear hb); (try clear hb2); (try clear hk); (try clear hi)))
  go_ret2
  exact ⟨_, by first | rfl | (simp [errW_none, errW_some] <;> rfl) | (simp [*, errW_none, errW_some] <;> rfl), by (with_reducible repeat (first | apply Kd.S_alloc | apply Kd.S_drewN | apply Kd.S_drew)); exact HO134.out, by repeat (first | (with_reducible first | exact HB.out | apply below_alloc | apply pw_below_drewN | apply below_drew1) | exact HB.out)⟩

/-! ### spec_l13Has: function 103 -/
def spec_l13Has.l0 : Nat → List Int → Int → Int → Option (Bool)
 | 0, _, _, _ => none
 | k + 1, x0, x1, x5 => if x5 < (x0.length : Int) then (if 0 ≤ x5 then (if (rd x0 x5) = x1 then (some true) else (spec_l13Has.l0 k x0 x1 (wrap64 (x5 + 1)))) else (none)) else (some false)
def spec_l13Has.f (k : Nat) (l0 : List Int) (a1 : Int) : Option (Bool) := spec_l13Has.l0 k l0 a1 0
open Go.Proofs.YtplfbjbbnjlnkaaM in
set_option maxHeartbeats 8000000 in
set_option maxRecDepth 100000 in
theorem spec_l13Has.calls (k : Nat) (A0 : Option Addr) (c0 : Nat) (l0 : List Int) (a1 : Int) (r : Bool) (w : World) (hr0 : Kd.C (Kd.int .i64) w A0 l0.length l0) (hc0 : l0.length ≤ c0) (h : spec_l13Has.f k l0 a1 = some r) :
  Calls Try.prog 103 #[.slice A0 l0.length c0, .int .i64 a1] w fun e w' => e = .returned (.bool r) ∧ Below w.heap.size w w' := by
 have HR0 := Aside0.mk hr0
 have HC0 := Aside0.mk hc0
 clear hr0 hc0
 have HB := Aside0.mk (Below.refl w.heap.size w)
 have H := h
 clear h
 unfold spec_l13Has.f at H
 go_enter Try.func103, Try.ntmps103
 replace H := Aside0.mk H
 go_wp2
 go_loopg [5] k (fun kq v5 w' => ∃ (x5_1 : Int), v5 = .int .i64 x5_1 ∧ Aside0 (spec_l13Has.l0 kq l0 a1 x5_1 = some r) ∧ Aside0 (kq ≤ k) ∧ Aside0 (Below w.heap.size w w'))
 case atStart => exact ⟨(0), (by first | rfl | (simp; done) | (simp [*]; done)), H, ⟨Nat.le_refl _⟩, HB⟩
 case round =>
  clear H HB 
  obtain ⟨x5_1, rfl, HA, Hk1, HB⟩ := hrel
  cases gk with
  | zero => exact absurd HA.out (by simp [spec_l13Has.l0])
  | succ k1 =>
   have H := HA.out
   clear HA
   simp only [spec_l13Has.l0] at H
   replace H := ifD H; rcases H with ⟨c2, H⟩ | ⟨c2, H⟩
   ·have c2_0 := decT c2
    replace c2 := Aside0.mk c2
    first | rw [c2_0] | skip
    replace H := ifN H; obtain ⟨c3, H⟩ := H
    have c3_0 := decT c3
    replace c3 := Aside0.mk c3
    first | rw [c3_0] | skip
    have p138 : 0 ≤ (x5_1 : Int) := (of_decide_eq_true (by assumption))
    have q138 : x5_1 < (l0.length : Int) := (of_decide_eq_true (by assumption))
    obtain ⟨ad138, e138, hx138_0⟩ := Kd.at_int HR0.out x5_1 p138 q138
    cases e138
    replace hx138_0 := Aside0.mk hx138_0
    have y138_0 := xC HB hx138_0
    have r138 := eq_true p138; have s138 := eq_true q138
    replace p138 := Aside0.mk p138; replace q138 := Aside0.mk q138
    replace H := ifD H; rcases H with ⟨c4, H⟩ | ⟨c4, H⟩
    ·have c4_0 := decT c4; have c4_1 := eqT c4; have c4_2 := neT c4
     clear c4
     first | rw [c4_1] | rw [c4_2] | skip
     obtain rfl := Option.some.inj H
     clear H
     go_wp2
     go_ret
     exact ⟨rfl, HB.out⟩
    ·have c4_0 := decF c4; have c4_1 := eqF c4; have c4_2 := neF c4
     clear c4
     first | rw [c4_1] | rw [c4_2] | skip
     replace H := Aside0.mk H
     go_wp2
     go_roundg k1
     case measure => have := Hk1.out; omega
     case rel => exact ⟨(wrap64 (x5_1 + 1)), (by first | rfl | (simp; done) | (simp [*]; done)), H, ⟨by have := Hk1.out; omega⟩, HB⟩
   ·have c2_0 := decF c2
    replace c2 := Aside0.mk c2
    first | rw [c2_0] | skip
    obtain rfl := Option.some.inj H
    clear H
    go_wp2
    go_ret
    exact ⟨rfl, HB.out⟩

/-! ### spec_l1In: function 96 -/
def spec_l1In.f (a0 : Int) (a1 : Int) (a2 : Int) : Option (Bool) := if a0 ≥ a1 then (some (decide (a0 ≤ a2))) else (some false)
open Go.Proofs.YtplfbjbbnjlnkaaM in
set_option maxHeartbeats 8000000 in
set_option maxRecDepth 100000 in
theorem spec_l1In.calls (a0 : Int) (a1 : Int) (a2 : Int) (r : Bool) (w : World) (h : spec_l1In.f a0 a1 a2 = some r) :
  Calls Try.prog 96 #[.int .i64 a0, .int .i64 a1, .int .i64 a2] w fun e w' => e = .returned (.bool r) ∧ Below w.heap.size w w' := by
 have HB := Aside0.mk (Below.refl w.heap.size w)
 have H := h
 clear h
 unfold spec_l1In.f at H
 go_enter Try.func96, Try.ntmps96
 replace H := ifD H; rcases H with ⟨c1, H⟩ | ⟨c1, H⟩
 ·replace c1 : a1 ≤ a0 := c1
  have c1_0 := decT c1
  replace c1 := Aside0.mk c1
  first | rw [c1_0] | skip
  obtain rfl := Option.some.inj H
  clear H
  go_wp2
  go_ret
  exact ⟨rfl, HB.out⟩
 ·replace c1 : ¬ (a1 ≤ a0) := c1
  have c1_0 := decF c1
  replace c1 := Aside0.mk c1
  first | rw [c1_0] | skip
  obtain rfl := Option.some.inj H
  clear H
  go_wp2
  go_ret
  exact ⟨rfl, HB.out⟩

/-! ### spec_IsTime: function 104 -/
def spec_IsTime.f (a0 : Int) : Option (Bool) := (spec_l1In.f a0 0 10000).bind fun t139 => (some t139)
open Go.Proofs.YtplfbjbbnjlnkaaM in
set_option maxHeartbeats 8000000 in
set_option maxRecDepth 100000 in
theorem spec_IsTime.calls (a0 : Int) (r : Bool) (w : World) (h : spec_IsTime.f a0 = some r) :
  Calls Try.prog 104 #[.int .i64 a0] w fun e w' => e = .returned (.bool r) ∧ Below w.heap.size w w' := by
 have HB := Aside0.mk (Below.refl w.heap.size w)
 have H := h
 clear h
 unfold spec_IsTime.f at H
 go_enter Try.func104, Try.ntmps104
 replace H := Option.bind_eq_some_iff.mp H
 obtain ⟨t139, hm, H⟩ := H
 try dsimp only at H
 replace H := Aside0.mk H
 have hcall := spec_l1In.calls _ _ _ _ w  hm
 clear hm
 go_wp2_with fail
 refine hcall.mono ?_
 rintro e W1 ⟨rfl, hb⟩
 clear hcall
 replace HB := bH HB hb; clear hb
 replace H := H.out
 obtain rfl := Option.some.inj H
 clear H
 go_wp2
 go_ret
 exact ⟨rfl, HB.out⟩

/-! ### spec_IsName: function 187 -/
def spec_IsName.f (a0 : Int) : Option (Bool) := (spec_l1In.f a0 10 49).bind fun t140 => (some t140)
open Go.Proofs.YtplfbjbbnjlnkaaM in
set_option maxHeartbeats 8000000 in
set_option maxRecDepth 100000 in
theorem spec_IsName.calls (a0 : Int) (r : Bool) (w : World) (h : spec_IsName.f a0 = some r) :
  Calls Try.prog 187 #[.int .i64 a0] w fun e w' => e = .returned (.bool r) ∧ Below w.heap.size w w' := by
 have HB := Aside0.mk (Below.refl w.heap.size w)
 have H := h
 clear h
 unfold spec_IsName.f at H
 go_enter Try.func187, Try.ntmps187
 replace H := Option.bind_eq_some_iff.mp H
 obtain ⟨t140, hm, H⟩ := H
 try dsimp only at H
 replace H := Aside0.mk H
 have hcall := spec_l1In.calls _ _ _ _ w  hm
 clear hm
 go_wp2_with fail
 refine hcall.mono ?_
 rintro e W1 ⟨rfl, hb⟩
 clear hcall
 replace HB := bH HB hb; clear hb
 replace H := H.out
 obtain rfl := Option.some.inj H
 clear H
 go_wp2
 go_ret
 exact ⟨rfl, HB.out⟩

/-! ### spec_HasKind: function 154 -/
def spec_HasKind.f (a0 : Int) (a1 : Int) : Option (Bool) := (spec_IsName.f a0).bind fun t141 => (if t141 = true then (some ((wrap64 (Int.tdiv a0 10)) == a1)) else (some false))
open Go.Proofs.YtplfbjbbnjlnkaaM in
set_option maxHeartbeats 8000000 in
set_option maxRecDepth 100000 in
theorem spec_HasKind.calls (a0 : Int) (a1 : Int) (r : Bool) (w : World) (h : spec_HasKind.f a0 a1 = some r) :
  Calls Try.prog 154 #[.int .i64 a0, .int .i64 a1] w fun e w' => e = .returned (.bool r) ∧ Below w.heap.size w w' := by
 have HB := Aside0.mk (Below.refl w.heap.size w)
 have H := h
 clear h
 unfold spec_HasKind.f at H
 go_enter Try.func154, Try.ntmps154
 replace H := Option.bind_eq_some_iff.mp H
 obtain ⟨t141, hm, H⟩ := H
 try dsimp only at H
 replace H := Aside0.mk H
 have hcall := spec_IsName.calls _ _ w  hm
 clear hm
 go_wp2_with fail
 refine hcall.mono ?_
 rintro e W1 ⟨rfl, hb⟩
 clear hcall
 replace HB := bH HB hb; clear hb
 replace H := H.out
 replace H := ifD H; rcases H with ⟨c2, H⟩ | ⟨c2, H⟩
 ·subst c2
  obtain rfl := Option.some.inj H
  clear H
  go_wp2
  go_ret
  exact ⟨rfl, HB.out⟩
 ·replace c2 := (Bool.not_eq_true _).mp c2
  subst c2
  obtain rfl := Option.some.inj H
  clear H
  go_wp2
  go_ret
  exact ⟨rfl, HB.out⟩

end Go.Proofs.Ytplfbjbbnjlnkaa.QFnDelegated
