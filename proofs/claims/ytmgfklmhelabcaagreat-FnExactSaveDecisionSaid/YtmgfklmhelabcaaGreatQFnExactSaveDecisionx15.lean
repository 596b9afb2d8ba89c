/- The machine side of FnExactSaveDecision: what each function that it reaches computes, and that the machine's call gives just that. -/
import Derived.Test.YtmgfklmhelabcaaGreatQFnExactSaveDecisionx0
import Derived.Test.YtmgfklmhelabcaaGreatQFnExactSaveDecisionx13
import Derived.Test.YtmgfklmhelabcaaGreatQFnExactSaveDecisionx14
namespace Go.Proofs.YtmgfklmhelabcaaGreat.QFnExactSaveDecision
open Go.RowKit Go.Proofs.YtmgfklmhelabcaaGreatW.PrintWords Go.Proofs.YtmgfklmhelabcaaGreatW.PrintLast Go.Proofs.YtmgfklmhelabcaaGreatW.PrintMore
attribute [local go_sem] max2_int min2_int max_two min_two max_three min_three max_four min_four
set_option maxHeartbeats 8000000
set_option maxRecDepth 100000
open Go.Proofs.YtmgfklmhelabcaaGreatM
set_option linter.unusedVariables false
set_option linter.unusedSimpArgs false
mutual
def impl_RolesOf.l0 : Nat → List (S154) → Int → Int → Int → List Int → List (S136) → Int → Int → Option (List Int)
 | 0, _, _, _, _, _, _, _, _ => none
 | k + 1, x0, x2, x3, x4, x11, x15, x16, x17 => if x17 < x16 then (if 0 ≤ x17 then (if x17 < (x15.length : Int) then (if ((rd_T136 x15 x17).f0) = 1 then (if ((rd_T136 x15 x17).f1) = x2 then ((impl_HoldsAt.f ((rd_T136 x15 x17).f0) ((rd_T136 x15 x17).f1) ((rd_T136 x15 x17).f2) ((rd_T136 x15 x17).f3) ((rd_T136 x15 x17).f4) ((rd_T136 x15 x17).f5) x3 x4).bind fun t577 => (impl_RolesOf.j1 k x0 x2 x3 x4 x11 x15 x16 x17 t577 ((rd_T136 x15 x17).f0) ((rd_T136 x15 x17).f1) ((rd_T136 x15 x17).f2) ((rd_T136 x15 x17).f3) ((rd_T136 x15 x17).f4) ((rd_T136 x15 x17).f5))) else (impl_RolesOf.j1 k x0 x2 x3 x4 x11 x15 x16 x17 false ((rd_T136 x15 x17).f0) ((rd_T136 x15 x17).f1) ((rd_T136 x15 x17).f2) ((rd_T136 x15 x17).f3) ((rd_T136 x15 x17).f4) ((rd_T136 x15 x17).f5))) else (impl_RolesOf.j1 k x0 x2 x3 x4 x11 x15 x16 x17 false ((rd_T136 x15 x17).f0) ((rd_T136 x15 x17).f1) ((rd_T136 x15 x17).f2) ((rd_T136 x15 x17).f3) ((rd_T136 x15 x17).f4) ((rd_T136 x15 x17).f5))) else (none)) else (none)) else ((slices_Sort_int_int.f x11).bind fun t584 => ((slices_Compact_int_int.f t584).bind fun t585 => (some t585)))
def impl_RolesOf.j1 : Nat → List (S154) → Int → Int → Int → List Int → List (S136) → Int → Int → Bool → Int → Int → Int → Int → Int → Int → Option (List Int)
 | 0, _, _, _, _, _, _, _, _, _, _, _, _, _, _, _ => none
 | k + 1, x0, x2, x3, x4, x11, x15, x16, x17, x35, x577000, x577001, x577002, x577003, x577004, x577005 => if x35 = true then ((impl_RolesUnder.f k x0 x577002).bind fun t578 => (if x11.length + t578.length < 17592186044416 then (impl_RolesOf.l0 k x0 x2 x3 x4 (x11 ++ t578) x15 x16 (wrap64 (x17 + 1))) else (none))) else (impl_RolesOf.l0 k x0 x2 x3 x4 x11 x15 x16 (wrap64 (x17 + 1)))
end
def impl_RolesOf.f (k : Nat) (l0 : List (S154)) (l1 : List (S136)) (a2 : Int) (a3 : Int) (a4 : Int) : Option (List Int) := impl_RolesOf.l0 k l0 a2 a3 a4 (([] : List Int)) l1 (l1.length : Int) 0
theorem impl_RolesOf.calls (k : Nat) (A0 : Option Addr) (c0 : Nat) (l0 : List (S154)) (A1 : Option Addr) (c1 : Nat) (l1 : List (S136)) (a2 : Int) (a3 : Int) (a4 : Int) (r : List Int) (w : World) (hr0 : Kd.C k154 w A0 l0.length l0) (hc0 : l0.length ≤ c0) (hr1 : Kd.C k136 w A1 l1.length l1) (hc1 : l1.length ≤ c1) (h : impl_RolesOf.f k l0 l1 a2 a3 a4 = some r) :
  Calls Tryz.prog 390 #[.slice A0 l0.length c0, .slice A1 l1.length c1, .int .i64 a2, .int .i64 a3, .int .i64 a4] w fun e w' => ∃ v0_ : Value, e = .returned (v0_) ∧ Kd.R (Kd.int .i64) 3 w' w.heap.size (fun _ => True) v0_ r ∧ Below w.heap.size w w' := by
 have hu136 := Tryz.underlying136
 have HR0 := Aside0.mk hr0
 have HC0 := Aside0.mk hc0
 clear hr0 hc0
 have HR1 := Aside0.mk hr1
 have HC1 := Aside0.mk hc1
 clear hr1 hc1
 have HB := Aside0.mk (Below.refl w.heap.size w)
 (try unfold impl_RolesOf.f at h)
 have H := h
 clear h
 obtain ⟨y572, hy572⟩ : ∃ y_ : List Int, y_ = (([] : List Int)) := ⟨_, rfl⟩
 replace H : (impl_RolesOf.l0 k l0 a2 a3 a4 y572 l1 (l1.length : Int) 0) = some r := by first | (rw [hy572]; with_reducible exact H) | (have H2_ := (Option.bind_some _ _).symm.trans H; rw [hy572]; with_reducible exact H2_) | (have H2_ := (Option.bind_some _ _).symm.trans H; with_reducible exact H2_) | with_reducible exact H | (rw [hy572]; exact H) | exact H
 have Ny572 := Aside0.mk hy572
 clear hy572
 have H' := Aside0.mk H
 clear H
 go_enter Tryz.func390, Tryz.ntmps390
 go_wp2_with (first | ((with_reducible refine gate_dst (N := 14) rfl ?_); refine Kd.R_lit (Kd.int .i64) _ 3 ?hg (N := 14) ?hd (xs := ([] : List Int)) (inner := []) (ok := fun _ => True) (okp := fun _ => True) ?hr ?hp (fun _ hk => hk) trivial (Below.refl _ _) (Nat.le_refl _) (by simp) ?_; (case hd => rfl); (case hg => rfl); (case hr => first | (go_simp; done) | (go_simp; rfl)); (case hp => exact (Reps.none _ _)); intro v573 w6 ho7 hb hg_ hnew_; clear hg_ hnew_; (first | rw [← Ny572.out] at ho7 | (simp only [Int.reduceToNat] at ho7; rw [← Ny572.out] at ho7)); have n0_ := Aside0.mk (Kd.R_lower ho7 (below_size zB)); have n1_ := Aside0.mk (below_step zB hb); clear HB; have HO574 := n0_; have HB := n1_; clear n0_ n1_; clear hb ho7))
 go_loopg [11, 17] k (fun kq v11 v17 w' => ∃ (x11_1 : List Int) (x17_1 : Int), v17 = .int .i64 x17_1 ∧ Aside0 (impl_RolesOf.l0 kq l0 a2 a3 a4 x11_1 l1 (l1.length : Int) x17_1 = some r) ∧ Aside0 (kq ≤ k) ∧ Aside0 (Kd.R (Kd.int .i64) 3 w' w.heap.size (fun _ => True) v11 x11_1) ∧ Aside0 (Below w.heap.size w w'))
 case atStart => exact ⟨(y572), (0), zT, H', ⟨Nat.le_refl _⟩, ⟨zR HO574⟩, ⟨zB⟩⟩
 case round =>
  clear H'
  (try clear c1)
  (try clear p2)
  (try clear c3)
  obtain ⟨x11_1, x17_1, rfl, HA, HK1, HO_11, HB⟩ := hrel
  cases gk with
  | zero => exact absurd HA.out (by simp [impl_RolesOf.l0])
  | succ k1 =>
   have H := HA.out; clear HA; simp only [impl_RolesOf.l0] at H; replace H := ifD H; rcases H with ⟨c8, H⟩ | ⟨c8, H⟩; rotate_left
   ·have c8b0 := decF c8; clear c8; replace H := obs H; obtain ⟨t584, A280, H⟩ := H; (try dsimp only at H); have A28 := Aside0.mk A280; clear A280; replace H := obs H; obtain ⟨t585, A290, H⟩ := H; (try dsimp only at H); have A29 := Aside0.mk A290; clear A290; obtain rfl := Option.some.inj H; obtain ⟨Ao30, co30, eo30⟩ := Kd.R_slice HO_11.out; subst eo30; go_wp2_with (first | ((with_reducible refine gate_callee (f := 405) rfl ?_); refine goesL_ (some 44) rfl rfl Tryz.func405 (by kernel_rfl) rfl #[.slice Ao30 x11_1.length co30] rfl zM ?_; (with_reducible refine (slices_Sort_int_int.calls (fun k_ => some k_ = (.slice Ao30 x11_1.length co30 : Value).ownBlock) (.slice Ao30 x11_1.length co30) x11_1 t584 w _ ?side1 ?side2 A28.out).mono ?_); (case side1 => exact zB); (case side2 => exact Kd.R_tight rfl HO_11.out); rintro e w31 ⟨rfl, hy0, hb, hkp⟩; refine ⟨_, rfl, ?_⟩; have n0_ := Aside0.mk (Kd.R_reok rfl hy0 (fun k_ e_ => HO_11.out.1 k_ e_)); have n1_ := Aside0.mk (hb); clear HO_11; clear HB; have HO_11 := n0_; have HB := n1_; clear n0_ n1_; (try clear hb); (try clear hkp); (try clear hy0)) | ((with_reducible refine gate_callee (f := 406) rfl ?_); refine goesL_ (some 46) rfl rfl Tryz.func406 (by kernel_rfl) rfl #[.slice Ao30 x11_1.length co30] rfl zM ?_; (with_reducible refine (slices_Compact_int_int.calls (fun k_ => some k_ = (.slice Ao30 x11_1.length co30 : Value).ownBlock) (.slice Ao30 x11_1.length co30) t584 t585 w _ ?side1 ?side2 A29.out).mono ?_); (case side1 => exact zB); (case side2 => exact Kd.R_tight rfl HO_11.out); rintro e w32 ⟨v586, rfl, ho0, hb, hkp⟩; refine ⟨_, rfl, ?_⟩; have n0_ := Aside0.mk (Kd.R_mono (ok' := fun k_ => True) ho0 (fun k_ hk_ => trivial)); have n1_ := Aside0.mk (hb); clear HB; clear HO_11; have HO587 := n0_; have HB := n1_; clear n0_ n1_; (try clear hb); (try clear hkp); (try clear ho0)))
    go_ret; exact ⟨_, zE, zR HO587, zB⟩
   have c8b0 := decT c8; clear c8; replace H := ifN H; obtain ⟨c9, H⟩ := H; have c9b0 := decT c9; clear c9; replace H := ifN H; obtain ⟨c10, H⟩ := H; have c10b0 := decT c10; clear c10; have HC11 := Aside0.mk H; clear H; have p575 : 0 ≤ (x17_1 : Int) := of_decide_eq_true zA; have q575 : x17_1 < (l1.length : Int) := of_decide_eq_true zA; obtain ⟨ad575, e575, hx575_0, hx575_1, hx575_2, hx575_3, hx575_4, hx575_5⟩ := at_T136 HR1.out x17_1 p575 q575; cases e575; replace hx575_0 := (HB.out.cell (World.block_lt_of_cell? w _ hx575_0)).trans hx575_0; replace hx575_1 := (HB.out.cell (World.block_lt_of_cell? w _ hx575_1)).trans hx575_1; replace hx575_2 := (HB.out.cell (World.block_lt_of_cell? w _ hx575_2)).trans hx575_2; replace hx575_3 := (HB.out.cell (World.block_lt_of_cell? w _ hx575_3)).trans hx575_3; replace hx575_4 := (HB.out.cell (World.block_lt_of_cell? w _ hx575_4)).trans hx575_4; replace hx575_5 := (HB.out.cell (World.block_lt_of_cell? w _ hx575_5)).trans hx575_5; replace p575 := eq_true p575; replace q575 := eq_true q575; go_upto_region 5 with (first | ((with_reducible refine gate_dst (N := 13) rfl ?_); refine box_event ?hg (N := 13) ?hd (cs := #[.int .i64 0, .int .i64 0, .int .i64 0, .int .i64 0, .int .i64 0, .int .i64 0]) (t := 136) ?hr ?_; (case hd => rfl); (case hg => rfl); (case hr => first | (go_simp; done) | (go_simp; rfl)); intro gb576 hg w12 hbox hb; have n0_ := Aside0.mk (Kd.R_below (zR HO_11) hb); have n1_ := Aside0.mk (below_step zB hb); have n2_ := Aside0.mk (hbox); have n3_ := Aside0.mk ((by rw [hg]; exact (below_size zB) : w.heap.size ≤ gb576)); have n4_ := Aside0.mk ((by rw [hg]; exact (below_size zB) : w.heap.size ≤ gb576)); clear HO_11; clear HB; have HO_11 := n0_; have HB := n1_; have BK576 := n2_; have GW576 := n3_; have GE576 := n4_; clear n0_ n1_ n2_ n3_ n4_; clear hb hbox hg; have hcz13_0 : w12.cell? ⟨gb576, 0, none⟩ = some (.int .i64 0) := (blk_cell BK576.out 0).trans rfl; have hcz13_1 : w12.cell? ⟨gb576, 1, none⟩ = some (.int .i64 0) := (blk_cell BK576.out 1).trans rfl; have hcz13_2 : w12.cell? ⟨gb576, 2, none⟩ = some (.int .i64 0) := (blk_cell BK576.out 2).trans rfl; have hcz13_3 : w12.cell? ⟨gb576, 3, none⟩ = some (.int .i64 0) := (blk_cell BK576.out 3).trans rfl; have hcz13_4 : w12.cell? ⟨gb576, 4, none⟩ = some (.int .i64 0) := (blk_cell BK576.out 4).trans rfl; have hcz13_5 : w12.cell? ⟨gb576, 5, none⟩ = some (.int .i64 0) := (blk_cell BK576.out 5).trans rfl; have hfz13_0 := blk_frozen BK576.out 0; have hfz13_1 := blk_frozen BK576.out 1; have hfz13_2 := blk_frozen BK576.out 2; have hfz13_3 := blk_frozen BK576.out 3; have hfz13_4 := blk_frozen BK576.out 4; have hfz13_5 := blk_frozen BK576.out 5))
   (try simp only [Act.put, List.setIfInBounds_toArray, List.set_cons_zero, List.set_cons_succ]); go_cut [35] (fun v35 wc => ∃ (kq : Nat) (x35_10 : Bool), v35 = .bool x35_10 ∧ Aside0 (impl_RolesOf.j1 kq l0 a2 a3 a4 x11_1 l1 (l1.length : Int) x17_1 x35_10 ((rd_T136 l1 x17_1).f0) ((rd_T136 l1 x17_1).f1) ((rd_T136 l1 x17_1).f2) ((rd_T136 l1 x17_1).f3) ((rd_T136 l1 x17_1).f4) ((rd_T136 l1 x17_1).f5) = some r) ∧ Aside0 (kq ≤ k1) ∧ Aside0 (Kd.R (Kd.int .i64) 3 wc w.heap.size (fun _ => True) u11 x11_1) ∧ Aside0 (wc.heap[gb576]? = some (.cells #[.int .i64 ((rd_T136 l1 x17_1).f0), .int .i64 ((rd_T136 l1 x17_1).f1), .int .i64 ((rd_T136 l1 x17_1).f2), .int .i64 ((rd_T136 l1 x17_1).f3), .int .i64 ((rd_T136 l1 x17_1).f4), .int .i64 ((rd_T136 l1 x17_1).f5)] 136 (0, 0))) ∧ Aside0 (Below w.heap.size w wc))
   case first =>
    have H := HC11.out; clear HC11; replace H := ifD H; rcases H with ⟨c14, H⟩ | ⟨c14, H⟩; rotate_left
    ·have c14b0 : (((rd_T136 l1 x17_1).f0) == 1) = false := beq_eq_false_iff_ne.mpr c14; have c14b1 : (((rd_T136 l1 x17_1).f0) != 1) = true := bne_iff_ne.mpr c14; (first | rw [c14b0] | (simp only [i64_w, i32_w]; rw [c14b0]) | skip); have H' := Aside0.mk H; clear H; have hcz20_0 : w12.cell? ⟨gb576, 0, none⟩ = some (.int .i64 0) := (blk_cell BK576.out 0).trans rfl; have hcz20_1 : w12.cell? ⟨gb576, 1, none⟩ = some (.int .i64 0) := (blk_cell BK576.out 1).trans rfl; have hcz20_2 : w12.cell? ⟨gb576, 2, none⟩ = some (.int .i64 0) := (blk_cell BK576.out 2).trans rfl; have hcz20_3 : w12.cell? ⟨gb576, 3, none⟩ = some (.int .i64 0) := (blk_cell BK576.out 3).trans rfl; have hcz20_4 : w12.cell? ⟨gb576, 4, none⟩ = some (.int .i64 0) := (blk_cell BK576.out 4).trans rfl; have hcz20_5 : w12.cell? ⟨gb576, 5, none⟩ = some (.int .i64 0) := (blk_cell BK576.out 5).trans rfl; have hfz20_0 := blk_frozen BK576.out 0; have hfz20_1 := blk_frozen BK576.out 1; have hfz20_2 := blk_frozen BK576.out 2; have hfz20_3 := blk_frozen BK576.out 3; have hfz20_4 := blk_frozen BK576.out 4; have hfz20_5 := blk_frozen BK576.out 5; go_wp2; go_meet
     case rel => exact ⟨_, (false), zT, H', ⟨by have := HK1.out; first | omega | exact Nat.le_refl _⟩, ⟨by (with_reducible repeat (first | apply Kd.R_alloc | apply Kd.R_drewN | apply Kd.R_drew)); exact Kd.R_mono (Kd.R_far (p := ⟨gb576, 5, none⟩) (Kd.R_far (p := ⟨gb576, 4, none⟩) (Kd.R_far (p := ⟨gb576, 3, none⟩) (Kd.R_far (p := ⟨gb576, 2, none⟩) (Kd.R_far (p := ⟨gb576, 1, none⟩) (Kd.R_far (p := ⟨gb576, 0, none⟩) (Kd.R_types HO_11.out BK576.out (by decide)) (fun _ hk => hk.2) (.int .i64 ((rd_T136 l1 x17_1).f0))) (fun _ hk => hk.2) (.int .i64 ((rd_T136 l1 x17_1).f1))) (fun _ hk => hk.2) (.int .i64 ((rd_T136 l1 x17_1).f2))) (fun _ hk => hk.2) (.int .i64 ((rd_T136 l1 x17_1).f3))) (fun _ hk => hk.2) (.int .i64 ((rd_T136 l1 x17_1).f4))) (fun _ hk => hk.2) (.int .i64 ((rd_T136 l1 x17_1).f5))) (fun _ hk => trivial)⟩, ⟨zP⟩, ⟨zB⟩⟩
    have c14b0 : (((rd_T136 l1 x17_1).f0) == 1) = true := beq_iff_eq.mpr c14; have c14b1 : (((rd_T136 l1 x17_1).f0) != 1) = false := bne_eq_false_iff_eq.mpr c14; clear c14; (first | rw [c14b0] | (simp only [i64_w, i32_w]; rw [c14b0]) | skip); replace H := ifD H; rcases H with ⟨c15, H⟩ | ⟨c15, H⟩; rotate_left
    ·have c15b0 : (((rd_T136 l1 x17_1).f1) == a2) = false := beq_eq_false_iff_ne.mpr c15; have c15b1 : (((rd_T136 l1 x17_1).f1) != a2) = true := bne_iff_ne.mpr c15; have H' := Aside0.mk H; clear H; have hcz19_0 : w12.cell? ⟨gb576, 0, none⟩ = some (.int .i64 0) := (blk_cell BK576.out 0).trans rfl; have hcz19_1 : w12.cell? ⟨gb576, 1, none⟩ = some (.int .i64 0) := (blk_cell BK576.out 1).trans rfl; have hcz19_2 : w12.cell? ⟨gb576, 2, none⟩ = some (.int .i64 0) := (blk_cell BK576.out 2).trans rfl; have hcz19_3 : w12.cell? ⟨gb576, 3, none⟩ = some (.int .i64 0) := (blk_cell BK576.out 3).trans rfl; have hcz19_4 : w12.cell? ⟨gb576, 4, none⟩ = some (.int .i64 0) := (blk_cell BK576.out 4).trans rfl; have hcz19_5 : w12.cell? ⟨gb576, 5, none⟩ = some (.int .i64 0) := (blk_cell BK576.out 5).trans rfl; have hfz19_0 := blk_frozen BK576.out 0; have hfz19_1 := blk_frozen BK576.out 1; have hfz19_2 := blk_frozen BK576.out 2; have hfz19_3 := blk_frozen BK576.out 3; have hfz19_4 := blk_frozen BK576.out 4; have hfz19_5 := blk_frozen BK576.out 5; go_wp2; go_meet
     case rel => exact ⟨_, (false), zT, H', ⟨by have := HK1.out; first | omega | exact Nat.le_refl _⟩, ⟨by (with_reducible repeat (first | apply Kd.R_alloc | apply Kd.R_drewN | apply Kd.R_drew)); exact Kd.R_mono (Kd.R_far (p := ⟨gb576, 5, none⟩) (Kd.R_far (p := ⟨gb576, 4, none⟩) (Kd.R_far (p := ⟨gb576, 3, none⟩) (Kd.R_far (p := ⟨gb576, 2, none⟩) (Kd.R_far (p := ⟨gb576, 1, none⟩) (Kd.R_far (p := ⟨gb576, 0, none⟩) (Kd.R_types HO_11.out BK576.out (by decide)) (fun _ hk => hk.2) (.int .i64 ((rd_T136 l1 x17_1).f0))) (fun _ hk => hk.2) (.int .i64 ((rd_T136 l1 x17_1).f1))) (fun _ hk => hk.2) (.int .i64 ((rd_T136 l1 x17_1).f2))) (fun _ hk => hk.2) (.int .i64 ((rd_T136 l1 x17_1).f3))) (fun _ hk => hk.2) (.int .i64 ((rd_T136 l1 x17_1).f4))) (fun _ hk => hk.2) (.int .i64 ((rd_T136 l1 x17_1).f5))) (fun _ hk => trivial)⟩, ⟨zP⟩, ⟨zB⟩⟩
    have c15b0 : (((rd_T136 l1 x17_1).f1) == a2) = true := beq_iff_eq.mpr c15; have c15b1 : (((rd_T136 l1 x17_1).f1) != a2) = false := bne_eq_false_iff_eq.mpr c15; clear c15; replace H := obs H; obtain ⟨t577, A160, H⟩ := H; (try dsimp only at H); have A16 := Aside0.mk A160; clear A160; have H' := Aside0.mk H; clear H; have hcz17_0 : w12.cell? ⟨gb576, 0, none⟩ = some (.int .i64 0) := (blk_cell BK576.out 0).trans rfl; have hcz17_1 : w12.cell? ⟨gb576, 1, none⟩ = some (.int .i64 0) := (blk_cell BK576.out 1).trans rfl; have hcz17_2 : w12.cell? ⟨gb576, 2, none⟩ = some (.int .i64 0) := (blk_cell BK576.out 2).trans rfl; have hcz17_3 : w12.cell? ⟨gb576, 3, none⟩ = some (.int .i64 0) := (blk_cell BK576.out 3).trans rfl; have hcz17_4 : w12.cell? ⟨gb576, 4, none⟩ = some (.int .i64 0) := (blk_cell BK576.out 4).trans rfl; have hcz17_5 : w12.cell? ⟨gb576, 5, none⟩ = some (.int .i64 0) := (blk_cell BK576.out 5).trans rfl; have hfz17_0 := blk_frozen BK576.out 0; have hfz17_1 := blk_frozen BK576.out 1; have hfz17_2 := blk_frozen BK576.out 2; have hfz17_3 := blk_frozen BK576.out 3; have hfz17_4 := blk_frozen BK576.out 4; have hfz17_5 := blk_frozen BK576.out 5; go_wp2_with (first | (go_at_call 392; (with_reducible refine (impl_HoldsAt.calls ((rd_T136 l1 x17_1).f0) ((rd_T136 l1 x17_1).f1) ((rd_T136 l1 x17_1).f2) ((rd_T136 l1 x17_1).f3) ((rd_T136 l1 x17_1).f4) ((rd_T136 l1 x17_1).f5) a3 a4 t577 _ A16.out).mono ?_); rintro e w18 ⟨rfl, hb⟩; have n0_ := Aside0.mk (Kd.R_below (by (with_reducible repeat (first | apply Kd.R_alloc | apply Kd.R_drewN | apply Kd.R_drew)); exact (Kd.R_mono (Kd.R_far (p := ⟨gb576, 5, none⟩) (Kd.R_far (p := ⟨gb576, 4, none⟩) (Kd.R_far (p := ⟨gb576, 3, none⟩) (Kd.R_far (p := ⟨gb576, 2, none⟩) (Kd.R_far (p := ⟨gb576, 1, none⟩) (Kd.R_far (p := ⟨gb576, 0, none⟩) (Kd.R_types HO_11.out BK576.out (by decide)) (fun _ hk => hk.2) (.int .i64 ((rd_T136 l1 x17_1).f0))) (fun _ hk => hk.2) (.int .i64 ((rd_T136 l1 x17_1).f1))) (fun _ hk => hk.2) (.int .i64 ((rd_T136 l1 x17_1).f2))) (fun _ hk => hk.2) (.int .i64 ((rd_T136 l1 x17_1).f3))) (fun _ hk => hk.2) (.int .i64 ((rd_T136 l1 x17_1).f4))) (fun _ hk => hk.2) (.int .i64 ((rd_T136 l1 x17_1).f5))) (fun _ h_ => h_.1))) hb); have n1_ := Aside0.mk (blk_below (g := gb576) (o := .cells #[.int .i64 ((rd_T136 l1 x17_1).f0), .int .i64 ((rd_T136 l1 x17_1).f1), .int .i64 ((rd_T136 l1 x17_1).f2), .int .i64 ((rd_T136 l1 x17_1).f3), .int .i64 ((rd_T136 l1 x17_1).f4), .int .i64 ((rd_T136 l1 x17_1).f5)] 136 (0, 0)) (zP) hb); have n2_ := Aside0.mk (below_step zB hb); clear HO_11; clear BK576; clear HB; have HO_11 := n0_; have BK576 := n1_; have HB := n2_; clear n0_ n1_ n2_; (try clear hb); (try clear hb2); (try clear hk); (try clear hi)))
    go_meet
    case rel => exact ⟨_, (t577), zT, H', ⟨by have := HK1.out; first | omega | exact Nat.le_refl _⟩, ⟨zR HO_11⟩, ⟨zX BK576⟩, ⟨zB⟩⟩
   case rest =>
    clear HC11; (try clear c1); (try clear p2); (try clear c3); (try clear p5); (try clear q5); (try clear hx5); (try clear c8); (try clear c8b0); (try clear c9); (try clear c9b0); (try clear c10); (try clear c10b0); (try clear c14); (try clear c14b0); (try clear c14b1); (try clear c15); (try clear c15b0); (try clear c15b1); (try clear hcz13_0); (try clear hcz13_1); (try clear hcz13_2); (try clear hcz13_3); (try clear hcz13_4); (try clear hcz13_5); (try clear hcz17_0); (try clear hcz17_1); (try clear hcz17_2); (try clear hcz17_3); (try clear hcz17_4); (try clear hcz17_5); (try clear hcz19_0); (try clear hcz19_1); (try clear hcz19_2); (try clear hcz19_3); (try clear hcz19_4); (try clear hcz19_5); (try clear hcz20_0); (try clear hcz20_1); (try clear hcz20_2); (try clear hcz20_3); (try clear hcz20_4); (try clear hcz20_5); (try clear hfz13_0); (try clear hfz13_1); (try clear hfz13_2); (try clear hfz13_3); (try clear hfz13_4); (try clear hfz13_5); (try clear hfz17_0); (try clear hfz17_1); (try clear hfz17_2); (try clear hfz17_3); (try clear hfz17_4); (try clear hfz17_5); (try clear hfz19_0); (try clear hfz19_1); (try clear hfz19_2); (try clear hfz19_3); (try clear hfz19_4); (try clear hfz19_5); (try clear hfz20_0); (try clear hfz20_1); (try clear hfz20_2); (try clear hfz20_3); (try clear hfz20_4); (try clear hfz20_5); (try clear hx575_0); (try clear hx575_1); (try clear hx575_2); (try clear hx575_3); (try clear hx575_4); (try clear hx575_5); (try clear p2); (try clear p575); (try clear q575); obtain ⟨kq, x35_10, rfl, HA, HJ10, HO_11, BK576, HB⟩ := hcut; cases kq with
    | zero => exact absurd HA.out (by simp [impl_RolesOf.j1])
    | succ kj10 =>
     have H := HA.out; clear HA; simp only [impl_RolesOf.j1] at H; by_cases c21 : x35_10 = true
     rotate_left
     ·replace c21 := Bool.eq_false_iff.mpr c21; subst c21; have H1 : (impl_RolesOf.l0 kj10 l0 a2 a3 a4 x11_1 l1 (l1.length : Int) (wrap64 (x17_1 + 1))) = some r := by rw [if_neg (show ¬ (false = true) by decide)] at H; exact H
      clear H; have H := H1; clear H1; have H' := Aside0.mk H; clear H; go_wp2; go_roundg kj10
      case measure => have := HK1.out; have := HJ10.out; omega
      case rel => exact ⟨(x11_1), (wrap64 (x17_1 + 1)), zT, H', ⟨by have := HK1.out; have := HJ10.out; omega⟩, ⟨zR HO_11⟩, ⟨zB⟩⟩
     subst c21; have H1 : ((impl_RolesUnder.f kj10 l0 ((rd_T136 l1 x17_1).f2)).bind fun t578 => (if x11_1.length + t578.length < 17592186044416 then (impl_RolesOf.l0 kj10 l0 a2 a3 a4 (x11_1 ++ t578) l1 (l1.length : Int) (wrap64 (x17_1 + 1))) else (none))) = some r := by rw [if_pos rfl] at H; exact H
     clear H; have H := H1; clear H1; replace H := obs H; obtain ⟨t578, A220, H⟩ := H; (try dsimp only at H); have A22 := Aside0.mk A220; clear A220; replace H := ifN H; obtain ⟨c23, H⟩ := H; have LMc23 := Aside0.mk c23; clear c23; obtain ⟨y581, hy581⟩ : ∃ y_ : List Int, y_ = (x11_1 ++ t578) := ⟨_, rfl⟩; replace H : (impl_RolesOf.l0 kj10 l0 a2 a3 a4 y581 l1 (l1.length : Int) (wrap64 (x17_1 + 1))) = some r := by first | (rw [hy581]; with_reducible exact H) | (have H2_ := (Option.bind_some _ _).symm.trans H; rw [hy581]; with_reducible exact H2_) | (have H2_ := (Option.bind_some _ _).symm.trans H; with_reducible exact H2_) | with_reducible exact H | (rw [hy581]; exact H) | exact H
     have Ny581 := Aside0.mk hy581; clear hy581; have H' := Aside0.mk H; clear H; have hcz24_0 : wc.cell? ⟨gb576, 0, none⟩ = some (.int .i64 ((rd_T136 l1 x17_1).f0)) := (blk_cell BK576.out 0).trans rfl; have hcz24_1 : wc.cell? ⟨gb576, 1, none⟩ = some (.int .i64 ((rd_T136 l1 x17_1).f1)) := (blk_cell BK576.out 1).trans rfl; have hcz24_2 : wc.cell? ⟨gb576, 2, none⟩ = some (.int .i64 ((rd_T136 l1 x17_1).f2)) := (blk_cell BK576.out 2).trans rfl; have hcz24_3 : wc.cell? ⟨gb576, 3, none⟩ = some (.int .i64 ((rd_T136 l1 x17_1).f3)) := (blk_cell BK576.out 3).trans rfl; have hcz24_4 : wc.cell? ⟨gb576, 4, none⟩ = some (.int .i64 ((rd_T136 l1 x17_1).f4)) := (blk_cell BK576.out 4).trans rfl; have hcz24_5 : wc.cell? ⟨gb576, 5, none⟩ = some (.int .i64 ((rd_T136 l1 x17_1).f5)) := (blk_cell BK576.out 5).trans rfl; have hfz24_0 := blk_frozen BK576.out 0; have hfz24_1 := blk_frozen BK576.out 1; have hfz24_2 := blk_frozen BK576.out 2; have hfz24_3 := blk_frozen BK576.out 3; have hfz24_4 := blk_frozen BK576.out 4; have hfz24_5 := blk_frozen BK576.out 5; go_wp2_with (first | ((with_reducible refine gate_callee (f := 404) rfl ?_); refine goesL_ (some 40) rfl rfl Tryz.func404 (by kernel_rfl) rfl #[.slice A0 l0.length c0, .int .i64 ((rd_T136 l1 x17_1).f2)] rfl zM ?_; (with_reducible refine (impl_RolesUnder.calls kj10 _ _ l0 ((rd_T136 l1 x17_1).f2) t578 _ ?side1 ?side2 A22.out).mono ?_); (case side1 => repeat (first | exact (Kd.C_below HR0.out HB.out) | (with_reducible refine Kd.C_alloc ?_ _) | (with_reducible refine Kd.C_drewN ?_ _) | (with_reducible refine Kd.C_drew ?_))); (case side2 => exact HC0.out); rintro e w25 ⟨v579, rfl, ho0, hb⟩; refine ⟨_, rfl, ?_⟩; have n0_ := Aside0.mk (Kd.R_elder' (zR HO_11) (Kd.R_base ho0) hb); have n1_ := Aside0.mk (Kd.R_lower (Kd.R_new' ho0 (Kd.R_lt (zR HO_11))) (below_size zB)); have n2_ := Aside0.mk (blk_below (g := gb576) (o := .cells #[.int .i64 ((rd_T136 l1 x17_1).f0), .int .i64 ((rd_T136 l1 x17_1).f1), .int .i64 ((rd_T136 l1 x17_1).f2), .int .i64 ((rd_T136 l1 x17_1).f3), .int .i64 ((rd_T136 l1 x17_1).f4), .int .i64 ((rd_T136 l1 x17_1).f5)] 136 (0, 0)) (zX BK576) hb); have n3_ := Aside0.mk (below_step zB hb); clear HO_11; clear BK576; clear HB; have HO_11 := n0_; have HO580 := n1_; have BK576 := n2_; have HB := n3_; clear n0_ n1_ n2_ n3_; (try clear hb); (try clear hb2); (try clear hk); (try clear hi); (try clear ho0); obtain ⟨Ao27, co27, eo27⟩ := Kd.R_slice HO580.out; subst eo27) | ((with_reducible refine gate_builtin (b := .append) (xs := #[.tmp 36, .tmp 40]) rfl ?_); at_builtin; refine Kd.R_append_rows (Kd.int .i64) (w0 := w) w.heap.size rfl (.tmp 36) (.tmp 40) 177 3 (.int .i64 0) 8 rfl Tryz.underlying177 info3 rfl (by decide) (by omega) u11 x11_1 t578 _ _ _ (fun k_ => some k_ ≠ (.slice Ao27 t578.length co27 : Value).ownBlock) (fun _ => False) rfl rfl ?aO ?aR (fun _ _ h => h) (fun _ h => h.elim) ?aF ?aB ?aS ?aL ?_; (case aR => repeat (first | exact (Kd.R_reads' HO580.out).2.2 | (with_reducible refine Kd.C_alloc ?_ _) | (with_reducible refine Kd.C_drewN ?_ _) | (with_reducible refine Kd.C_drew ?_))); (case aB => exact zB); (case aF => exact (fun k_ hk => Kd.fresh' (Kd.R_lt (zR HO580)) k_ hk)); (case aO => exact (by (with_reducible repeat (first | apply Kd.R_alloc | apply Kd.R_drewN | apply Kd.R_drew)); exact Kd.R_mono HO_11.out (fun _ hk => hk.2))); (case aS => exact (below_size zB)); (case aL => have := LMc23.out; omega); intro v582 w26 ho hb hg hat; rw [← Ny581.out] at ho; have n0_ := Aside0.mk (blk_grown (g := gb576) (o := .cells #[.int .i64 ((rd_T136 l1 x17_1).f0), .int .i64 ((rd_T136 l1 x17_1).f1), .int .i64 ((rd_T136 l1 x17_1).f2), .int .i64 ((rd_T136 l1 x17_1).f3), .int .i64 ((rd_T136 l1 x17_1).f4), .int .i64 ((rd_T136 l1 x17_1).f5)] 136 (0, 0)) (zX BK576) hg (Kd.R_ne HO_11.out BK576.out (by decide))); have n1_ := Aside0.mk (Kd.R_after (ok := (fun _ => True)) (zR HO580) hg hat); have n2_ := Aside0.mk (hb); have n3_ := Aside0.mk (ho); clear BK576; clear HO580; clear HB; clear HO_11; have BK576 := n0_; have HO580 := n1_; have HB := n2_; have HO583 := n3_; clear n0_ n1_ n2_ n3_; clear ho hb hg hat))
     go_roundg kj10
     case measure => have := HK1.out; have := HJ10.out; omega
     case rel => exact ⟨(y581), (wrap64 (x17_1 + 1)), zT, H', ⟨by have := HK1.out; have := HJ10.out; omega⟩, ⟨by (with_reducible repeat (first | apply Kd.R_alloc | apply Kd.R_drewN | apply Kd.R_drew)); exact Kd.R_mono HO583.out (fun _ hk => trivial)⟩, ⟨zB⟩⟩
def impl_HasRole.f (k : Nat) (l0 : List (S154)) (l1 : List (S136)) (a2 : Int) (a3 : Int) (a4 : Int) (a5 : Int) : Option (Bool) := (impl_RolesOf.f k l0 l1 a2 a4 a5).bind fun t588 => ((slices_Contains_int_int.f k t588 a3).bind fun t591 => (some t591))
theorem impl_HasRole.calls (k : Nat) (A0 : Option Addr) (c0 : Nat) (l0 : List (S154)) (A1 : Option Addr) (c1 : Nat) (l1 : List (S136)) (a2 : Int) (a3 : Int) (a4 : Int) (a5 : Int) (r : Bool) (w : World) (hr0 : Kd.C k154 w A0 l0.length l0) (hc0 : l0.length ≤ c0) (hr1 : Kd.C k136 w A1 l1.length l1) (hc1 : l1.length ≤ c1) (h : impl_HasRole.f k l0 l1 a2 a3 a4 a5 = some r) :
  Calls Tryz.prog 372 #[.slice A0 l0.length c0, .slice A1 l1.length c1, .int .i64 a2, .int .i64 a3, .int .i64 a4, .int .i64 a5] w fun e w' => e = .returned (.bool r) ∧ Below w.heap.size w w' := by
 have HR0 := Aside0.mk hr0
 have HC0 := Aside0.mk hc0
 clear hr0 hc0
 have HR1 := Aside0.mk hr1
 have HC1 := Aside0.mk hc1
 clear hr1 hc1
 have HB := Aside0.mk (Below.refl w.heap.size w)
 have H := h
 clear h
 unfold impl_HasRole.f at H
 go_enter Tryz.func372, Tryz.ntmps372
 replace H := obs H
 obtain ⟨t588, hm, H⟩ := H
 (try dsimp only at H)
 replace H := Aside0.mk H
 have hcall := impl_RolesOf.calls k _ _ _ _ _ _ _ _ _ _ w (Kd.C_below HR0.out HB.out) HC0.out (Kd.C_below HR1.out HB.out) HC1.out hm
 clear hm
 (go_wp2_with fail)
 refine hcall.mono ?_
 rintro e W1 ⟨v589, rfl, ho0, hb⟩
 clear hcall
 obtain ⟨A1_0, _, c1_0, rfl, rfl, hr_⟩ := R_made ho0 HB.out.size; clear ho0; have HO1_0 := Aside0.mk hr_; clear hr_
 replace HB := bH HB hb; clear hb
 replace H := H.out
 replace H := obs H
 obtain ⟨t591, hm, H⟩ := H
 (try dsimp only at H)
 replace H := Aside0.mk H
 have hcall := slices_Contains_int_int.calls k _ _ _ _ _ W1 (R_C HO1_0.out) (R_len HO1_0.out) hm
 clear hm
 (go_wp2_with fail)
 refine hcall.mono ?_
 rintro e W2 ⟨rfl, hd⟩
 clear hcall
 have hb : Below W1.heap.size W1 W2 := hd.below; clear hd
 replace HO1_0 := bR HO1_0 hb
 replace HB := bH HB hb; clear hb
 replace H := H.out
 cases H
 go_wp2
 go_ret
 exact ⟨rfl, HB.out⟩
open Go.Proofs.YtmgfklmhelabcaaGreatH in
theorem ixf353.calls (g : Nat) (lb : Array Value) (eg : ∀ args w, (callFunc g args).run Tryz.prog w = .ok (.enter g args) w) (p : S136 → Option Bool) (A0 : Option Addr) (c0 : Nat) (l0 : List S136) (r : Int) (w : World)
  (hp : ∀ (W : World) (x : S136)  (b : Bool), Below w.heap.size w W → p x = some b → Calls Tryz.prog g (#[.agg #[.int .i64 ((x).f0), .int .i64 ((x).f1), .int .i64 ((x).f2), .int .i64 ((x).f3), .int .i64 ((x).f4), .int .i64 ((x).f5)]] ++ lb) W fun e w' => e = .returned (.bool b) ∧ Below w.heap.size w w')
  (hr0 : Kd.C k136 w A0 l0.length l0) (hc0 : l0.length ≤ c0) (h : idxO p l0 0 = some r) :
  Calls Tryz.prog 353 #[.slice A0 l0.length c0, .func (.func g) #[] lb] w fun e w' => e = .returned (.int .i64 r) ∧ Below w.heap.size w w' := by
 have hu136 := Tryz.underlying136
 have HLEN : Aside0 (l0.length ≤ 9223372036854775807) := ⟨hr0.2.1⟩
 have HR0 := Aside0.mk hr0
 have HC0 := Aside0.mk hc0
 have HP := Aside0.mk hp
 have H' := Aside0.mk (show idxO p (l0.drop (0 : Int).toNat) 0 = some r from h)
 clear hr0 hc0 h hp
 go_enter Tryz.func353, Tryz.ntmps353
 go_wp2
 go_loopg [5, 8] l0.length (fun gg _ v8 wr => ∃ x : Int, v8 = .int .i64 x ∧ Aside0 (0 ≤ x ∧ x ≤ l0.length ∧ l0.length - x.toNat ≤ gg) ∧ Aside0 (Below w.heap.size w wr) ∧ Aside0 (idxO p (l0.drop x.toNat) x = some r))
 case atStart => exact ⟨0, rfl, ⟨by omega, by omega, by omega⟩, ⟨Below.refl _ w⟩, H'⟩
 case round =>
  clear H'
  obtain ⟨x, rfl, HX, BW, HA⟩ := hrel
  by_cases hlt : x < (l0.length : Int)
  rotate_left
  ·have c2b0 := decF hlt; have HN := Aside0.mk hlt; clear hlt; go_wp2; go_ret; exact ⟨by rw [← idxO_end HA.out HX.out.2.1 (by have := HN.out; omega)]; rfl, BW.out⟩
  have c2b0 := decT hlt
  have p1 : 0 ≤ x := HX.out.1
  have q1 : x < (l0.length : Int) := hlt
  obtain ⟨b, hb, ht, hf⟩ := idxO_at (z := z136) HA.out p1 q1
  have HB := Aside0.mk hb
  have HQ := Aside0.mk hlt
  clear hb HA
  obtain ⟨ad, e0, hx0, hx1, hx2, hx3, hx4, hx5⟩ := at_T136 (Kd.C_below HR0.out BW.out) x p1 q1
  cases e0
  have hcall := HP.out wr (rd_T136 l0 x)  b BW.out  HB.out
  have p1' := eq_true p1
  have q1' := eq_true q1
  clear p1 q1 hlt 
  cases b with
  | true =>
   have HT := Aside0.mk (ht rfl); clear ht hf; (go_wp2_with fail)
   refine hcall.mono ?_; rintro e w' ⟨rfl, hb'⟩; clear hcall hx0 hx1 hx2 hx3 hx4 hx5 eg HP HB; go_wp2; go_ret; exact ⟨by rw [HT.out]; rfl, hb'⟩
  | false =>
   have HF := Aside0.mk (hf rfl); clear ht hf; (go_wp2_with fail)
   refine hcall.mono ?_; rintro e w' ⟨rfl, hb'⟩; clear hcall hx0 hx1 hx2 hx3 hx4 hx5 eg HP HB; go_wp2; have he : wrap64 (x + 1) = x + 1 := wrap_up HX.out.1 HQ.out HLEN.out; go_roundg (l0.length - (x + 1).toNat)
   case measure => have := HX.out; have := HQ.out; omega
   case rel =>
    refine ⟨x + 1, ?_, ⟨by have := HX.out; omega, by have := HQ.out; omega, Nat.le_refl _⟩, ⟨hb'⟩, HF⟩; simp [he]
def cl391.p (a1 a2 a3 a4 a5 : Int) (x : S136) : Option Bool := if x.f0 = a1 then (if x.f1 = a2 then (if x.f2 = a3 then impl_HoldsAt.f x.f0 x.f1 x.f2 x.f3 x.f4 x.f5 a4 a5 else some false) else some false) else some false
theorem cl391.calls (x : S136) (a1 a2 a3 a4 a5 : Int) (B1 B2 B3 B4 B5 : Nat) (b : Bool) (w0 W : World) (hB1 : w0.heap[B1]? = some (.cells #[.int .i64 a1] 3 (0, 0))) (hB2 : w0.heap[B2]? = some (.cells #[.int .i64 a2] 3 (0, 0))) (hB3 : w0.heap[B3]? = some (.cells #[.int .i64 a3] 3 (0, 0))) (hB4 : w0.heap[B4]? = some (.cells #[.int .i64 a4] 3 (0, 0))) (hB5 : w0.heap[B5]? = some (.cells #[.int .i64 a5] 3 (0, 0))) (hb : Below w0.heap.size w0 W) (h : cl391.p a1 a2 a3 a4 a5 x = some b) :
  Calls Tryz.prog 391 #[.agg #[.int .i64 x.f0, .int .i64 x.f1, .int .i64 x.f2, .int .i64 x.f3, .int .i64 x.f4, .int .i64 x.f5], .pointer (some ⟨B1, 0, none⟩), .pointer (some ⟨B2, 0, none⟩), .pointer (some ⟨B3, 0, none⟩), .pointer (some ⟨B4, 0, none⟩), .pointer (some ⟨B5, 0, none⟩)] W fun e w' => e = .returned (.bool b) ∧ Below w0.heap.size w0 w' := by
 replace hB1 := blk_below hB1 hb; have c1 : W.cell? ⟨B1, 0, none⟩ = some (.int .i64 a1) := (blk_cell hB1 0).trans rfl; have l1 := blk_lt hB1; have n1 : B1 ≠ W.heap.size := by omega
 replace hB2 := blk_below hB2 hb; have c2 : W.cell? ⟨B2, 0, none⟩ = some (.int .i64 a2) := (blk_cell hB2 0).trans rfl; have l2 := blk_lt hB2; have n2 : B2 ≠ W.heap.size := by omega
 replace hB3 := blk_below hB3 hb; have c3 : W.cell? ⟨B3, 0, none⟩ = some (.int .i64 a3) := (blk_cell hB3 0).trans rfl; have l3 := blk_lt hB3; have n3 : B3 ≠ W.heap.size := by omega
 replace hB4 := blk_below hB4 hb; have c4 : W.cell? ⟨B4, 0, none⟩ = some (.int .i64 a4) := (blk_cell hB4 0).trans rfl; have l4 := blk_lt hB4; have n4 : B4 ≠ W.heap.size := by omega
 replace hB5 := blk_below hB5 hb; have c5 : W.cell? ⟨B5, 0, none⟩ = some (.int .i64 a5) := (blk_cell hB5 0).trans rfl; have l5 := blk_lt hB5; have n5 : B5 ≠ W.heap.size := by omega
 clear hB1 hB2 hB3 hB4 hB5
 have HB := Aside0.mk hb; clear hb
 have hu := Tryz.underlying136
 unfold cl391.p at h
 replace h := Aside0.mk h
 go_enter Tryz.func391, Tryz.ntmps391
 have H := h.out
 replace H := ifD H; rcases H with ⟨c, H⟩ | ⟨c, H⟩
 rotate_left
 ·have e1 := eqF c; clear c; obtain rfl := Option.some.inj H
  go_wp2
  go_ret
  exact ⟨rfl, HB.out.alloc HB.out.size _⟩
 have e1 := eqT c; clear c
 replace H := ifD H; rcases H with ⟨c, H⟩ | ⟨c, H⟩
 rotate_left
 ·have e2 := eqF c; clear c; obtain rfl := Option.some.inj H
  go_wp2
  go_ret
  exact ⟨rfl, HB.out.alloc HB.out.size _⟩
 have e2 := eqT c; clear c
 replace H := ifD H; rcases H with ⟨c, H⟩ | ⟨c, H⟩
 rotate_left
 ·have e3 := eqF c; clear c; obtain rfl := Option.some.inj H
  go_wp2
  go_ret
  exact ⟨rfl, HB.out.alloc HB.out.size _⟩
 have e3 := eqT c; clear c
 replace H := Aside0.mk H; clear h
 go_wp2_with (go_at_call 392; refine (impl_HoldsAt.calls _ _ _ _ _ _ _ _ b _ H.out).mono ?_; rintro e w' ⟨rfl, h2⟩)
 go_ret
 exact ⟨rfl, below_step (HB.out.alloc HB.out.size _) h2⟩
def impl_FindFact.f (l0 : List S136) (a1 a2 a3 a4 a5 : Int) : Option Int := Go.Proofs.YtmgfklmhelabcaaGreatH.idxO (cl391.p a1 a2 a3 a4 a5) l0 0
theorem impl_FindFact.calls (A0 : Option Addr) (c0 : Nat) (l0 : List S136) (a1 a2 a3 a4 a5 : Int) (r : Int) (w : World) (hr0 : Kd.C k136 w A0 l0.length l0) (hc0 : l0.length ≤ c0) (h : impl_FindFact.f l0 a1 a2 a3 a4 a5 = some r) :
  Calls Tryz.prog 373 #[.slice A0 l0.length c0, .int .i64 a1, .int .i64 a2, .int .i64 a3, .int .i64 a4, .int .i64 a5] w fun e w' => e = .returned (.int .i64 r) ∧ Below w.heap.size w w' := by
 have eg : ∀ args w, (callFunc 391 args).run Tryz.prog w = .ok (.enter 391 args) w := Go.Proofs.YtmgfklmhelabcaaGreatH.enters Tryz.func391 (by kernel_rfl) rfl
 have hcon := ixf353.calls 391 #[.pointer (some ⟨w.heap.size, 0, none⟩), .pointer (some ⟨w.heap.size + 1, 0, none⟩), .pointer (some ⟨w.heap.size + 1 + 1, 0, none⟩), .pointer (some ⟨w.heap.size + 1 + 1 + 1, 0, none⟩), .pointer (some ⟨w.heap.size + 1 + 1 + 1 + 1, 0, none⟩)] eg _ A0 c0 l0 r (((((w.alloc (.cells #[.int .i64 a1] 3)).alloc (.cells #[.int .i64 a2] 3)).alloc (.cells #[.int .i64 a3] 3)).alloc (.cells #[.int .i64 a4] 3)).alloc (.cells #[.int .i64 a5] 3)) (fun W x b hW hp => cl391.calls x a1 a2 a3 a4 a5 (w.heap.size) (w.heap.size + 1) (w.heap.size + 1 + 1) (w.heap.size + 1 + 1 + 1) (w.heap.size + 1 + 1 + 1 + 1) b (((((w.alloc (.cells #[.int .i64 a1] 3)).alloc (.cells #[.int .i64 a2] 3)).alloc (.cells #[.int .i64 a3] 3)).alloc (.cells #[.int .i64 a4] 3)).alloc (.cells #[.int .i64 a5] 3)) W (blk_alloc (blk_alloc (blk_alloc (blk_alloc (show (w.alloc (.cells #[.int .i64 a1] 3)).heap[w.heap.size]? = _ from by have h_ := heap_alloc_new w (.cells #[.int .i64 a1] 3 : Obj); simpa using h_) _) _) _) _) (blk_alloc (blk_alloc (blk_alloc (show ((w.alloc (.cells #[.int .i64 a1] 3)).alloc (.cells #[.int .i64 a2] 3)).heap[w.heap.size + 1]? = _ from by have h_ := heap_alloc_new (w.alloc (.cells #[.int .i64 a1] 3)) (.cells #[.int .i64 a2] 3 : Obj); simpa using h_) _) _) _) (blk_alloc (blk_alloc (show (((w.alloc (.cells #[.int .i64 a1] 3)).alloc (.cells #[.int .i64 a2] 3)).alloc (.cells #[.int .i64 a3] 3)).heap[w.heap.size + 1 + 1]? = _ from by have h_ := heap_alloc_new ((w.alloc (.cells #[.int .i64 a1] 3)).alloc (.cells #[.int .i64 a2] 3)) (.cells #[.int .i64 a3] 3 : Obj); simpa using h_) _) _) (blk_alloc (show ((((w.alloc (.cells #[.int .i64 a1] 3)).alloc (.cells #[.int .i64 a2] 3)).alloc (.cells #[.int .i64 a3] 3)).alloc (.cells #[.int .i64 a4] 3)).heap[w.heap.size + 1 + 1 + 1]? = _ from by have h_ := heap_alloc_new (((w.alloc (.cells #[.int .i64 a1] 3)).alloc (.cells #[.int .i64 a2] 3)).alloc (.cells #[.int .i64 a3] 3)) (.cells #[.int .i64 a4] 3 : Obj); simpa using h_) _) (show (((((w.alloc (.cells #[.int .i64 a1] 3)).alloc (.cells #[.int .i64 a2] 3)).alloc (.cells #[.int .i64 a3] 3)).alloc (.cells #[.int .i64 a4] 3)).alloc (.cells #[.int .i64 a5] 3)).heap[w.heap.size + 1 + 1 + 1 + 1]? = _ from by have h_ := heap_alloc_new ((((w.alloc (.cells #[.int .i64 a1] 3)).alloc (.cells #[.int .i64 a2] 3)).alloc (.cells #[.int .i64 a3] 3)).alloc (.cells #[.int .i64 a4] 3)) (.cells #[.int .i64 a5] 3 : Obj); simpa using h_) hW hp) (Kd.C_alloc (Kd.C_alloc (Kd.C_alloc (Kd.C_alloc (Kd.C_alloc hr0 _) _) _) _) _) hc0 h
 have hbl : Below w.heap.size w (((((w.alloc (.cells #[.int .i64 a1] 3)).alloc (.cells #[.int .i64 a2] 3)).alloc (.cells #[.int .i64 a3] 3)).alloc (.cells #[.int .i64 a4] 3)).alloc (.cells #[.int .i64 a5] 3)) := (below_alloc (below_alloc (below_alloc (below_alloc (below_alloc (Below.refl _ w) _) _) _) _) _)
 replace hbl := Aside0.mk hbl
 clear hr0 hc0 h eg
 go_enter Tryz.func373, Tryz.ntmps373
 (go_wp2_with fail)
 refine hcon.mono ?_
 rintro e w' ⟨rfl, hb'⟩
 clear hcon
 go_wp2
 go_ret
 exact ⟨rfl, below_step hbl.out hb'⟩
mutual
def impl_BestValue.l0 : Nat → Int → Int → Int → Int → Int → List (S136) → Int → Int → Option (Int)
 | 0, _, _, _, _, _, _, _, _ => none
 | k + 1, x1, x2, x3, x4, x11, x14, x15, x16 => if x16 < x15 then (if 0 ≤ x16 then (if x16 < (x14.length : Int) then (if ((rd_T136 x14 x16).f0) = x1 then (if ((rd_T136 x14 x16).f1) = x2 then ((impl_HoldsAt.f ((rd_T136 x14 x16).f0) ((rd_T136 x14 x16).f1) ((rd_T136 x14 x16).f2) ((rd_T136 x14 x16).f3) ((rd_T136 x14 x16).f4) ((rd_T136 x14 x16).f5) x3 x4).bind fun t594 => (impl_BestValue.j1 k x1 x2 x3 x4 x11 x14 x15 x16 t594 ((rd_T136 x14 x16).f0) ((rd_T136 x14 x16).f1) ((rd_T136 x14 x16).f2) ((rd_T136 x14 x16).f3) ((rd_T136 x14 x16).f4) ((rd_T136 x14 x16).f5))) else (impl_BestValue.j1 k x1 x2 x3 x4 x11 x14 x15 x16 false ((rd_T136 x14 x16).f0) ((rd_T136 x14 x16).f1) ((rd_T136 x14 x16).f2) ((rd_T136 x14 x16).f3) ((rd_T136 x14 x16).f4) ((rd_T136 x14 x16).f5))) else (impl_BestValue.j1 k x1 x2 x3 x4 x11 x14 x15 x16 false ((rd_T136 x14 x16).f0) ((rd_T136 x14 x16).f1) ((rd_T136 x14 x16).f2) ((rd_T136 x14 x16).f3) ((rd_T136 x14 x16).f4) ((rd_T136 x14 x16).f5))) else (none)) else (none)) else (some x11)
def impl_BestValue.j1 : Nat → Int → Int → Int → Int → Int → List (S136) → Int → Int → Bool → Int → Int → Int → Int → Int → Int → Option (Int)
 | 0, _, _, _, _, _, _, _, _, _, _, _, _, _, _, _ => none
 | k + 1, x1, x2, x3, x4, x11, x14, x15, x16, x35, x594000, x594001, x594002, x594003, x594004, x594005 => if x35 = true then (impl_BestValue.l0 k x1 x2 x3 x4 (mx x11 x594002) x14 x15 (wrap64 (x16 + 1))) else (impl_BestValue.l0 k x1 x2 x3 x4 x11 x14 x15 (wrap64 (x16 + 1)))
end
def impl_BestValue.f (k : Nat) (l0 : List (S136)) (a1 : Int) (a2 : Int) (a3 : Int) (a4 : Int) : Option (Int) := impl_BestValue.l0 k a1 a2 a3 a4 (-1) l0 (l0.length : Int) 0
theorem impl_BestValue.calls (k : Nat) (A0 : Option Addr) (c0 : Nat) (l0 : List (S136)) (a1 : Int) (a2 : Int) (a3 : Int) (a4 : Int) (r : Int) (w : World) (hr0 : Kd.C k136 w A0 l0.length l0) (hc0 : l0.length ≤ c0) (h : impl_BestValue.f k l0 a1 a2 a3 a4 = some r) :
  Calls Tryz.prog 374 #[.slice A0 l0.length c0, .int .i64 a1, .int .i64 a2, .int .i64 a3, .int .i64 a4] w fun e w' => e = .returned (.int .i64 r) ∧ Below w.heap.size w w' := by
 have hu136 := Tryz.underlying136
 have HR0 := Aside0.mk hr0
 have HC0 := Aside0.mk hc0
 clear hr0 hc0
 have HB := Aside0.mk (Below.refl w.heap.size w)
 (try unfold impl_BestValue.f at h)
 have H := h
 clear h
 have H' := Aside0.mk H
 clear H
 go_enter Tryz.func374, Tryz.ntmps374
 go_wp2
 go_loopg [11, 16] k (fun kq v11 v16 w' => ∃ (x11_1 : Int) (x16_1 : Int), v11 = .int .i64 x11_1 ∧ v16 = .int .i64 x16_1 ∧ Aside0 (impl_BestValue.l0 kq a1 a2 a3 a4 x11_1 l0 (l0.length : Int) x16_1 = some r) ∧ Aside0 (kq ≤ k) ∧ Aside0 (Below w.heap.size w w'))
 case atStart => exact ⟨((-1)), (0), zT, zT, H', ⟨Nat.le_refl _⟩, ⟨zB⟩⟩
 case round =>
  clear H'
  (try clear p2)
  (try clear c3)
  obtain ⟨x11_1, x16_1, rfl, rfl, HA, HK1, HB⟩ := hrel
  cases gk with
  | zero => exact absurd HA.out (by simp [impl_BestValue.l0])
  | succ k1 =>
   have H := HA.out; clear HA; simp only [impl_BestValue.l0] at H; replace H := ifD H; rcases H with ⟨c6, H⟩ | ⟨c6, H⟩; rotate_left
   ·have c6b0 := decF c6; clear c6; obtain rfl := Option.some.inj H; go_wp2; go_ret; exact ⟨zE, zB⟩
   have c6b0 := decT c6; clear c6; replace H := ifN H; obtain ⟨c7, H⟩ := H; have c7b0 := decT c7; clear c7; replace H := ifN H; obtain ⟨c8, H⟩ := H; have c8b0 := decT c8; clear c8; have HC9 := Aside0.mk H; clear H; have p592 : 0 ≤ (x16_1 : Int) := of_decide_eq_true zA; have q592 : x16_1 < (l0.length : Int) := of_decide_eq_true zA; obtain ⟨ad592, e592, hx592_0, hx592_1, hx592_2, hx592_3, hx592_4, hx592_5⟩ := at_T136 HR0.out x16_1 p592 q592; cases e592; replace hx592_0 := (HB.out.cell (World.block_lt_of_cell? w _ hx592_0)).trans hx592_0; replace hx592_1 := (HB.out.cell (World.block_lt_of_cell? w _ hx592_1)).trans hx592_1; replace hx592_2 := (HB.out.cell (World.block_lt_of_cell? w _ hx592_2)).trans hx592_2; replace hx592_3 := (HB.out.cell (World.block_lt_of_cell? w _ hx592_3)).trans hx592_3; replace hx592_4 := (HB.out.cell (World.block_lt_of_cell? w _ hx592_4)).trans hx592_4; replace hx592_5 := (HB.out.cell (World.block_lt_of_cell? w _ hx592_5)).trans hx592_5; replace p592 := eq_true p592; replace q592 := eq_true q592; go_upto_region 5 with (first | ((with_reducible refine gate_dst (N := 13) rfl ?_); refine box_event ?hg (N := 13) ?hd (cs := #[.int .i64 0, .int .i64 0, .int .i64 0, .int .i64 0, .int .i64 0, .int .i64 0]) (t := 136) ?hr ?_; (case hd => rfl); (case hg => rfl); (case hr => first | (go_simp; done) | (go_simp; rfl)); intro gb593 hg w10 hbox hb; have n0_ := Aside0.mk (below_step zB hb); have n1_ := Aside0.mk (hbox); have n2_ := Aside0.mk ((by rw [hg]; exact (below_size zB) : w.heap.size ≤ gb593)); have n3_ := Aside0.mk ((by rw [hg]; exact (below_size zB) : w.heap.size ≤ gb593)); clear HB; have HB := n0_; have BK593 := n1_; have GW593 := n2_; have GE593 := n3_; clear n0_ n1_ n2_ n3_; clear hb hbox hg; have hcz11_0 : w10.cell? ⟨gb593, 0, none⟩ = some (.int .i64 0) := (blk_cell BK593.out 0).trans rfl; have hcz11_1 : w10.cell? ⟨gb593, 1, none⟩ = some (.int .i64 0) := (blk_cell BK593.out 1).trans rfl; have hcz11_2 : w10.cell? ⟨gb593, 2, none⟩ = some (.int .i64 0) := (blk_cell BK593.out 2).trans rfl; have hcz11_3 : w10.cell? ⟨gb593, 3, none⟩ = some (.int .i64 0) := (blk_cell BK593.out 3).trans rfl; have hcz11_4 : w10.cell? ⟨gb593, 4, none⟩ = some (.int .i64 0) := (blk_cell BK593.out 4).trans rfl; have hcz11_5 : w10.cell? ⟨gb593, 5, none⟩ = some (.int .i64 0) := (blk_cell BK593.out 5).trans rfl; have hfz11_0 := blk_frozen BK593.out 0; have hfz11_1 := blk_frozen BK593.out 1; have hfz11_2 := blk_frozen BK593.out 2; have hfz11_3 := blk_frozen BK593.out 3; have hfz11_4 := blk_frozen BK593.out 4; have hfz11_5 := blk_frozen BK593.out 5))
   (try simp only [Act.put, List.setIfInBounds_toArray, List.set_cons_zero, List.set_cons_succ]); go_cut [35] (fun v35 wc => ∃ (kq : Nat) (x35_8 : Bool), v35 = .bool x35_8 ∧ Aside0 (impl_BestValue.j1 kq a1 a2 a3 a4 x11_1 l0 (l0.length : Int) x16_1 x35_8 ((rd_T136 l0 x16_1).f0) ((rd_T136 l0 x16_1).f1) ((rd_T136 l0 x16_1).f2) ((rd_T136 l0 x16_1).f3) ((rd_T136 l0 x16_1).f4) ((rd_T136 l0 x16_1).f5) = some r) ∧ Aside0 (kq ≤ k1) ∧ Aside0 (wc.heap[gb593]? = some (.cells #[.int .i64 ((rd_T136 l0 x16_1).f0), .int .i64 ((rd_T136 l0 x16_1).f1), .int .i64 ((rd_T136 l0 x16_1).f2), .int .i64 ((rd_T136 l0 x16_1).f3), .int .i64 ((rd_T136 l0 x16_1).f4), .int .i64 ((rd_T136 l0 x16_1).f5)] 136 (0, 0))) ∧ Aside0 (Below w.heap.size w wc))
   case first =>
    have H := HC9.out; clear HC9; replace H := ifD H; rcases H with ⟨c12, H⟩ | ⟨c12, H⟩; rotate_left
    ·have c12b0 : (((rd_T136 l0 x16_1).f0) == a1) = false := beq_eq_false_iff_ne.mpr c12; have c12b1 : (((rd_T136 l0 x16_1).f0) != a1) = true := bne_iff_ne.mpr c12; (first | rw [c12b0] | (simp only [i64_w, i32_w]; rw [c12b0]) | skip); have H' := Aside0.mk H; clear H; have hcz18_0 : w10.cell? ⟨gb593, 0, none⟩ = some (.int .i64 0) := (blk_cell BK593.out 0).trans rfl; have hcz18_1 : w10.cell? ⟨gb593, 1, none⟩ = some (.int .i64 0) := (blk_cell BK593.out 1).trans rfl; have hcz18_2 : w10.cell? ⟨gb593, 2, none⟩ = some (.int .i64 0) := (blk_cell BK593.out 2).trans rfl; have hcz18_3 : w10.cell? ⟨gb593, 3, none⟩ = some (.int .i64 0) := (blk_cell BK593.out 3).trans rfl; have hcz18_4 : w10.cell? ⟨gb593, 4, none⟩ = some (.int .i64 0) := (blk_cell BK593.out 4).trans rfl; have hcz18_5 : w10.cell? ⟨gb593, 5, none⟩ = some (.int .i64 0) := (blk_cell BK593.out 5).trans rfl; have hfz18_0 := blk_frozen BK593.out 0; have hfz18_1 := blk_frozen BK593.out 1; have hfz18_2 := blk_frozen BK593.out 2; have hfz18_3 := blk_frozen BK593.out 3; have hfz18_4 := blk_frozen BK593.out 4; have hfz18_5 := blk_frozen BK593.out 5; go_wp2; go_meet
     case rel => exact ⟨_, (false), zT, H', ⟨by have := HK1.out; first | omega | exact Nat.le_refl _⟩, ⟨zP⟩, ⟨zB⟩⟩
    have c12b0 : (((rd_T136 l0 x16_1).f0) == a1) = true := beq_iff_eq.mpr c12; have c12b1 : (((rd_T136 l0 x16_1).f0) != a1) = false := bne_eq_false_iff_eq.mpr c12; clear c12; (first | rw [c12b0] | (simp only [i64_w, i32_w]; rw [c12b0]) | skip); replace H := ifD H; rcases H with ⟨c13, H⟩ | ⟨c13, H⟩; rotate_left
    ·have c13b0 : (((rd_T136 l0 x16_1).f1) == a2) = false := beq_eq_false_iff_ne.mpr c13; have c13b1 : (((rd_T136 l0 x16_1).f1) != a2) = true := bne_iff_ne.mpr c13; have H' := Aside0.mk H; clear H; have hcz17_0 : w10.cell? ⟨gb593, 0, none⟩ = some (.int .i64 0) := (blk_cell BK593.out 0).trans rfl; have hcz17_1 : w10.cell? ⟨gb593, 1, none⟩ = some (.int .i64 0) := (blk_cell BK593.out 1).trans rfl; have hcz17_2 : w10.cell? ⟨gb593, 2, none⟩ = some (.int .i64 0) := (blk_cell BK593.out 2).trans rfl; have hcz17_3 : w10.cell? ⟨gb593, 3, none⟩ = some (.int .i64 0) := (blk_cell BK593.out 3).trans rfl; have hcz17_4 : w10.cell? ⟨gb593, 4, none⟩ = some (.int .i64 0) := (blk_cell BK593.out 4).trans rfl; have hcz17_5 : w10.cell? ⟨gb593, 5, none⟩ = some (.int .i64 0) := (blk_cell BK593.out 5).trans rfl; have hfz17_0 := blk_frozen BK593.out 0; have hfz17_1 := blk_frozen BK593.out 1; have hfz17_2 := blk_frozen BK593.out 2; have hfz17_3 := blk_frozen BK593.out 3; have hfz17_4 := blk_frozen BK593.out 4; have hfz17_5 := blk_frozen BK593.out 5; go_wp2; go_meet
     case rel => exact ⟨_, (false), zT, H', ⟨by have := HK1.out; first | omega | exact Nat.le_refl _⟩, ⟨zP⟩, ⟨zB⟩⟩
    have c13b0 : (((rd_T136 l0 x16_1).f1) == a2) = true := beq_iff_eq.mpr c13; have c13b1 : (((rd_T136 l0 x16_1).f1) != a2) = false := bne_eq_false_iff_eq.mpr c13; clear c13; replace H := obs H; obtain ⟨t594, A140, H⟩ := H; (try dsimp only at H); have A14 := Aside0.mk A140; clear A140; have H' := Aside0.mk H; clear H; have hcz15_0 : w10.cell? ⟨gb593, 0, none⟩ = some (.int .i64 0) := (blk_cell BK593.out 0).trans rfl; have hcz15_1 : w10.cell? ⟨gb593, 1, none⟩ = some (.int .i64 0) := (blk_cell BK593.out 1).trans rfl; have hcz15_2 : w10.cell? ⟨gb593, 2, none⟩ = some (.int .i64 0) := (blk_cell BK593.out 2).trans rfl; have hcz15_3 : w10.cell? ⟨gb593, 3, none⟩ = some (.int .i64 0) := (blk_cell BK593.out 3).trans rfl; have hcz15_4 : w10.cell? ⟨gb593, 4, none⟩ = some (.int .i64 0) := (blk_cell BK593.out 4).trans rfl; have hcz15_5 : w10.cell? ⟨gb593, 5, none⟩ = some (.int .i64 0) := (blk_cell BK593.out 5).trans rfl; have hfz15_0 := blk_frozen BK593.out 0; have hfz15_1 := blk_frozen BK593.out 1; have hfz15_2 := blk_frozen BK593.out 2; have hfz15_3 := blk_frozen BK593.out 3; have hfz15_4 := blk_frozen BK593.out 4; have hfz15_5 := blk_frozen BK593.out 5; go_wp2_with (first | (go_at_call 392; (with_reducible refine (impl_HoldsAt.calls ((rd_T136 l0 x16_1).f0) ((rd_T136 l0 x16_1).f1) ((rd_T136 l0 x16_1).f2) ((rd_T136 l0 x16_1).f3) ((rd_T136 l0 x16_1).f4) ((rd_T136 l0 x16_1).f5) a3 a4 t594 _ A14.out).mono ?_); rintro e w16 ⟨rfl, hb⟩; have n0_ := Aside0.mk (blk_below (g := gb593) (o := .cells #[.int .i64 ((rd_T136 l0 x16_1).f0), .int .i64 ((rd_T136 l0 x16_1).f1), .int .i64 ((rd_T136 l0 x16_1).f2), .int .i64 ((rd_T136 l0 x16_1).f3), .int .i64 ((rd_T136 l0 x16_1).f4), .int .i64 ((rd_T136 l0 x16_1).f5)] 136 (0, 0)) (zP) hb); have n1_ := Aside0.mk (below_step zB hb); clear BK593; clear HB; have BK593 := n0_; have HB := n1_; clear n0_ n1_; (try clear hb); (try clear hb2); (try clear hk); (try clear hi)))
    go_meet
    case rel => exact ⟨_, (t594), zT, H', ⟨by have := HK1.out; first | omega | exact Nat.le_refl _⟩, ⟨zX BK593⟩, ⟨zB⟩⟩
   case rest =>
    clear HC9; (try clear c1); (try clear p2); (try clear c3); (try clear p5); (try clear q5); (try clear hx5); (try clear c6); (try clear c6b0); (try clear c7); (try clear c7b0); (try clear c8); (try clear c8b0); (try clear c12); (try clear c12b0); (try clear c12b1); (try clear c13); (try clear c13b0); (try clear c13b1); (try clear hcz11_0); (try clear hcz11_1); (try clear hcz11_2); (try clear hcz11_3); (try clear hcz11_4); (try clear hcz11_5); (try clear hcz15_0); (try clear hcz15_1); (try clear hcz15_2); (try clear hcz15_3); (try clear hcz15_4); (try clear hcz15_5); (try clear hcz17_0); (try clear hcz17_1); (try clear hcz17_2); (try clear hcz17_3); (try clear hcz17_4); (try clear hcz17_5); (try clear hcz18_0); (try clear hcz18_1); (try clear hcz18_2); (try clear hcz18_3); (try clear hcz18_4); (try clear hcz18_5); (try clear hfz11_0); (try clear hfz11_1); (try clear hfz11_2); (try clear hfz11_3); (try clear hfz11_4); (try clear hfz11_5); (try clear hfz15_0); (try clear hfz15_1); (try clear hfz15_2); (try clear hfz15_3); (try clear hfz15_4); (try clear hfz15_5); (try clear hfz17_0); (try clear hfz17_1); (try clear hfz17_2); (try clear hfz17_3); (try clear hfz17_4); (try clear hfz17_5); (try clear hfz18_0); (try clear hfz18_1); (try clear hfz18_2); (try clear hfz18_3); (try clear hfz18_4); (try clear hfz18_5); (try clear hx592_0); (try clear hx592_1); (try clear hx592_2); (try clear hx592_3); (try clear hx592_4); (try clear hx592_5); (try clear p2); (try clear p592); (try clear q592); obtain ⟨kq, x35_8, rfl, HA, HJ8, BK593, HB⟩ := hcut; cases kq with
    | zero => exact absurd HA.out (by simp [impl_BestValue.j1])
    | succ kj8 =>
     have H := HA.out; clear HA; simp only [impl_BestValue.j1] at H; by_cases c19 : x35_8 = true
     rotate_left
     ·replace c19 := Bool.eq_false_iff.mpr c19; subst c19; have H1 : (impl_BestValue.l0 kj8 a1 a2 a3 a4 x11_1 l0 (l0.length : Int) (wrap64 (x16_1 + 1))) = some r := by rw [if_neg (show ¬ (false = true) by decide)] at H; exact H
      clear H; have H := H1; clear H1; have H' := Aside0.mk H; clear H; go_wp2; go_roundg kj8
      case measure => have := HK1.out; have := HJ8.out; omega
      case rel => exact ⟨(x11_1), (wrap64 (x16_1 + 1)), zT, zT, H', ⟨by have := HK1.out; have := HJ8.out; omega⟩, ⟨zB⟩⟩
     subst c19; have H1 : (impl_BestValue.l0 kj8 a1 a2 a3 a4 (mx x11_1 ((rd_T136 l0 x16_1).f2)) l0 (l0.length : Int) (wrap64 (x16_1 + 1))) = some r := by rw [if_pos rfl] at H; exact H
     clear H; have H := H1; clear H1; obtain ⟨ji20, hji20⟩ : ∃ j_ : Int, (mx x11_1 ((rd_T136 l0 x16_1).f2)) = j_ := ⟨_, rfl⟩; replace H : (impl_BestValue.l0 kj8 a1 a2 a3 a4 ji20 l0 (l0.length : Int) (wrap64 (x16_1 + 1))) = some r := by first | (rw [hji20] at H; exact H) | (simp only [hji20] at H ⊢; exact H)
     have hji20_ : (if x11_1 < ((rd_T136 l0 x16_1).f2) then ((rd_T136 l0 x16_1).f2) else x11_1) = ji20 := hji20; have H' := Aside0.mk H; clear H; have hcz21_0 : wc.cell? ⟨gb593, 0, none⟩ = some (.int .i64 ((rd_T136 l0 x16_1).f0)) := (blk_cell BK593.out 0).trans rfl; have hcz21_1 : wc.cell? ⟨gb593, 1, none⟩ = some (.int .i64 ((rd_T136 l0 x16_1).f1)) := (blk_cell BK593.out 1).trans rfl; have hcz21_2 : wc.cell? ⟨gb593, 2, none⟩ = some (.int .i64 ((rd_T136 l0 x16_1).f2)) := (blk_cell BK593.out 2).trans rfl; have hcz21_3 : wc.cell? ⟨gb593, 3, none⟩ = some (.int .i64 ((rd_T136 l0 x16_1).f3)) := (blk_cell BK593.out 3).trans rfl; have hcz21_4 : wc.cell? ⟨gb593, 4, none⟩ = some (.int .i64 ((rd_T136 l0 x16_1).f4)) := (blk_cell BK593.out 4).trans rfl; have hcz21_5 : wc.cell? ⟨gb593, 5, none⟩ = some (.int .i64 ((rd_T136 l0 x16_1).f5)) := (blk_cell BK593.out 5).trans rfl; have hfz21_0 := blk_frozen BK593.out 0; have hfz21_1 := blk_frozen BK593.out 1; have hfz21_2 := blk_frozen BK593.out 2; have hfz21_3 := blk_frozen BK593.out 3; have hfz21_4 := blk_frozen BK593.out 4; have hfz21_5 := blk_frozen BK593.out 5; go_wp2; go_roundg kj8
     case measure => have := HK1.out; have := HJ8.out; omega
     case rel => exact ⟨(ji20), (wrap64 (x16_1 + 1)), (by first | rfl | (simp; done) | (simp only [← hji20] <;> (first | rfl | simp)) | (simp [*]; done)), zT, H', ⟨by have := HK1.out; have := HJ8.out; omega⟩, ⟨zB⟩⟩
def impl_LeafHolds.f (k : Nat) (l0 : List (S154)) (l1 : List (S136)) (a2_0 : Int) (a2_1 : Int) (a2_2 : Int) (l2_3 : List (S172)) (a3_0 : Int) (a3_1 : Int) (a3_2 : Int) (a3_3 : Int) (a3_4 : Int) (a3_5 : Int) : Option (Bool) := if a2_0 = 1 then (some true) else (if a2_0 = 2 then ((impl_HasRole.f k l0 l1 a3_0 a2_1 a3_5 a2_2).bind fun t597 => (some t597)) else (if a2_0 = 3 then ((impl_FindFact.f l1 2 a3_0 a3_1 a3_5 a2_2).bind fun t598 => (some (t598 != (-1)))) else (if a2_0 = 4 then ((impl_BestValue.f k l1 3 a3_1 a3_5 a2_2).bind fun t599 => (some (decide (t599 ≥ a2_1)))) else (if a2_0 = 5 then ((impl_BestValue.f k l1 4 a3_2 a3_5 a2_2).bind fun t600 => (some (decide (t600 ≥ a2_1)))) else (if a2_0 = 6 then (some (decide (a3_5 ≤ a2_1))) else (some false))))))
theorem impl_LeafHolds.calls (k : Nat) (A0 : Option Addr) (c0 : Nat) (l0 : List (S154)) (A1 : Option Addr) (c1 : Nat) (l1 : List (S136)) (a2_0 : Int) (a2_1 : Int) (a2_2 : Int) (A2_3 : Option Addr) (c2_3 : Nat) (l2_3 : List (S172)) (a3_0 : Int) (a3_1 : Int) (a3_2 : Int) (a3_3 : Int) (a3_4 : Int) (a3_5 : Int) (r : Bool) (w : World) (hr0 : Kd.C k154 w A0 l0.length l0) (hc0 : l0.length ≤ c0) (hr1 : Kd.C k136 w A1 l1.length l1) (hc1 : l1.length ≤ c1) (hr2_3 : Kd.C k172 w A2_3 l2_3.length l2_3) (hc2_3 : l2_3.length ≤ c2_3) (h : impl_LeafHolds.f k l0 l1 a2_0 a2_1 a2_2 l2_3 a3_0 a3_1 a3_2 a3_3 a3_4 a3_5 = some r) :
  Calls Tryz.prog 328 #[.slice A0 l0.length c0, .slice A1 l1.length c1, .agg #[.int .i64 a2_0, .int .i64 a2_1, .int .i64 a2_2, .slice A2_3 l2_3.length c2_3], .agg #[.int .i64 a3_0, .int .i64 a3_1, .int .i64 a3_2, .int .i64 a3_3, .int .i64 a3_4, .int .i64 a3_5]] w fun e w' => e = .returned (.bool r) ∧ Below w.heap.size w w' := by
 have HR0 := Aside0.mk hr0
 have HC0 := Aside0.mk hc0
 clear hr0 hc0
 have HR1 := Aside0.mk hr1
 have HC1 := Aside0.mk hc1
 clear hr1 hc1
 have HR2_3 := Aside0.mk hr2_3
 have HC2_3 := Aside0.mk hc2_3
 clear hr2_3 hc2_3
 have HB := Aside0.mk (Below.refl w.heap.size w)
 have H := h
 clear h
 unfold impl_LeafHolds.f at H
 have hu41 := Tryz.underlying41
 have hu172 := Tryz.underlying172
 go_enter Tryz.func328, Tryz.ntmps328
 replace H := Aside0.mk H
 go_upto_region 1 with (first | ((with_reducible refine gate_dst (N := 6) rfl ?_); refine box_event ?hg (N := 6) ?hd (cs := #[.int .i64 a2_0, .int .i64 a2_1, .int .i64 a2_2, .slice A2_3 l2_3.length c2_3]) (t := 172) ?hr ?_; (case hd => rfl); (case hg => rfl); (case hr => first | (go_simp; done) | (go_simp; rfl)); intro gb1 hg W1 hbox hb; replace HB := bH HB hb; clear hb; have BK1 := Aside0.mk hbox; have c_BK1 := blk_cell hbox; have z_BK1 := blk_frozen hbox; clear hg hbox) | ((with_reducible refine gate_dst (N := 7) rfl ?_); refine box_event ?hg (N := 7) ?hd (cs := #[.int .i64 a3_0, .int .i64 a3_1, .int .i64 a3_2, .int .i64 a3_3, .int .i64 a3_4, .int .i64 a3_5]) (t := 41) ?hr ?_; (case hd => rfl); (case hg => rfl); (case hr => first | (go_simp; done) | (go_simp; rfl)); intro gb2 hg W2 hbox hb; replace BK1 := bK BK1 hb; replace c_BK1 := bcl BK1; replace z_BK1 := bfr BK1; replace HB := bH HB hb; clear hb; have BK2 := Aside0.mk hbox; have c_BK2 := blk_cell hbox; have z_BK2 := blk_frozen hbox; clear hg hbox))
 replace H := ifD H.out; rcases H with ⟨c3, H⟩ | ⟨c3, H⟩
 ·obtain ⟨c3_0, c3_1, c3_2⟩ := d3T c3
  clear c3
  (first | rw [c3_1] | rw [c3_2] | skip)
  cases H
  go_wp2
  go_ret
  exact ⟨rfl, HB.out⟩
 obtain ⟨c3_0, c3_1, c3_2⟩ := d3F c3
 clear c3
 (first | rw [c3_1] | rw [c3_2] | skip)
 replace H := ifD H; rcases H with ⟨c4, H⟩ | ⟨c4, H⟩
 ·obtain ⟨c4_0, c4_1, c4_2⟩ := d3T c4
  clear c4
  (first | rw [c4_1] | rw [c4_2] | skip)
  replace H := obs H
  obtain ⟨t597, hm, H⟩ := H
  (try dsimp only at H)
  replace H := Aside0.mk H
  have hcall := impl_HasRole.calls k _ _ _ _ _ _ _ _ _ _ _ W2 (Kd.C_below HR0.out HB.out) HC0.out (Kd.C_below HR1.out HB.out) HC1.out hm
  clear hm
  (go_wp2_with fail)
  refine hcall.mono ?_
  rintro e W5 ⟨rfl, hb⟩
  clear hcall
  replace BK1 := bK BK1 hb; replace c_BK1 := bcl BK1; replace z_BK1 := bfr BK1
  replace BK2 := bK BK2 hb; replace c_BK2 := bcl BK2; replace z_BK2 := bfr BK2
  replace HB := bH HB hb; clear hb
  replace H := H.out
  cases H
  go_wp2
  go_ret
  exact ⟨rfl, HB.out⟩
 obtain ⟨c4_0, c4_1, c4_2⟩ := d3F c4
 clear c4
 (first | rw [c4_1] | rw [c4_2] | skip)
 replace H := ifD H; rcases H with ⟨c6, H⟩ | ⟨c6, H⟩
 ·obtain ⟨c6_0, c6_1, c6_2⟩ := d3T c6
  clear c6
  (first | rw [c6_1] | rw [c6_2] | skip)
  replace H := obs H
  obtain ⟨t598, hm, H⟩ := H
  (try dsimp only at H)
  replace H := Aside0.mk H
  have hcall := impl_FindFact.calls _ _ _ _ _ _ _ _ _ W2 (Kd.C_below HR1.out HB.out) HC1.out hm
  clear hm
  (go_wp2_with fail)
  refine hcall.mono ?_
  rintro e W7 ⟨rfl, hb⟩
  clear hcall
  replace BK1 := bK BK1 hb; replace c_BK1 := bcl BK1; replace z_BK1 := bfr BK1
  replace BK2 := bK BK2 hb; replace c_BK2 := bcl BK2; replace z_BK2 := bfr BK2
  replace HB := bH HB hb; clear hb
  replace H := H.out
  cases H
  go_wp2
  go_ret
  exact ⟨rfl, HB.out⟩
 obtain ⟨c6_0, c6_1, c6_2⟩ := d3F c6
 clear c6
 (first | rw [c6_1] | rw [c6_2] | skip)
 replace H := ifD H; rcases H with ⟨c8, H⟩ | ⟨c8, H⟩
 ·obtain ⟨c8_0, c8_1, c8_2⟩ := d3T c8
  clear c8
  (first | rw [c8_1] | rw [c8_2] | skip)
  replace H := Aside0.mk H
  try go_wp2
  clear c_BK1 z_BK1; have rBK1 := BK1; replace BK1 := dK BK1
  clear c_BK2 z_BK2; have rBK2 := BK2; replace BK2 := dK BK2
  have HBr := HB; replace HB := dH HB
  refine stA (n := 12) (S := fun w' => Below W2.heap.size W2 w') (by kernel_rfl) rfl (below_drew1 (Below.refl _ W2)) (by kernel_rfl) (fun hHeld => ?_)
  generalize W2.drew = W9 at HB BK1 BK2 hHeld ⊢
  replace H := H.out
  replace H := obs H
  obtain ⟨t599, hm, H⟩ := H
  (try dsimp only at H)
  replace hm := Aside0.mk hm
  replace H := Aside0.mk H
  refine pu 0 (some 41) 1 ?_; refine pu 1 (some 42) 3 ?_; refine pu 3 (some 44) 11 ?_; refine pu 5 (some 46) 43 ?_; refine ld 2 (some 43) 47 hHeld ?_ (hr := by (intro w' h_; have y_ := kD rBK2 h_; go_simp; with_reducible rfl)); refine ld 4 (some 45) 63 hHeld ?_ (hr := by (intro w' h_; have y_ := kD rBK2 h_; go_simp; with_reducible rfl)); refine ld 6 (some 47) 127 hHeld ?_ (hr := by (intro w' h_; have y_ := kD rBK1 h_; go_simp; with_reducible rfl))
  refine pu 8 (some 49) 383 ?_; refine ld 9 (some 50) 895 hHeld ?_ (hr := by (intro w' h_; have y_ := kD rBK1 h_; go_simp; with_reducible rfl))
  refine on 7 (some 48) 1023 (fun K hK => ?_)
  have hcall := impl_BestValue.calls k _ _ _ _ _ _ _ _ W9 (Kd.C_below HR1.out HB.out) HC1.out hm.out
  refine goes_ Tryz.func374 (by kernel_rfl) rfl #[.slice A1 l1.length c1, .int .i64 3, .int .i64 a3_1, .int .i64 a3_5, .int .i64 a2_2] (by rfl) rfl rfl zM ?_
  refine hcall.mono ?_
  rintro e W11 ⟨rfl, hb⟩
  refine ⟨_, rfl, ?_⟩
  clear hcall hm
  replace hHeld := below_step hHeld hb
  replace BK1 := bK BK1 hb
  replace BK2 := bK BK2 hb
  replace HB := bH HB hb; clear hb
  refine hK.out _ _ hHeld (fun hHeld => ?_)
  clear hK K
  refine nr 48 ?_
  refine pu 10 (some 51) 2047 ?_; refine pu 11 (some 8) 4095 ?_
  refine dn (by kernel_rfl) ?_
  clear hHeld HBr rBK1 rBK2
  have c_BK1 := bcl BK1; have z_BK1 := bfr BK1
  have c_BK2 := bcl BK2; have z_BK2 := bfr BK2
  replace H := H.out
  cases H
  go_wp2
  go_ret
  exact ⟨rfl, HB.out⟩
 obtain ⟨c8_0, c8_1, c8_2⟩ := d3F c8
 clear c8
 (first | rw [c8_1] | rw [c8_2] | skip)
 replace H := ifD H; rcases H with ⟨c12, H⟩ | ⟨c12, H⟩
 rotate_left
 ·obtain ⟨c12_0, c12_1, c12_2⟩ := d3F c12
  clear c12
  (first | rw [c12_1] | rw [c12_2] | skip)
  replace H := ifD H; rcases H with ⟨c16, H⟩ | ⟨c16, H⟩
  ·obtain ⟨c16_0, c16_1, c16_2⟩ := d3T c16; clear c16; (first | rw [c16_1] | rw [c16_2] | skip); cases H; go_wp2; go_ret; exact ⟨rfl, HB.out⟩
  obtain ⟨c16_0, c16_1, c16_2⟩ := d3F c16
  clear c16
  (first | rw [c16_1] | rw [c16_2] | skip)
  cases H
  go_wp2
  go_ret
  exact ⟨rfl, HB.out⟩
 obtain ⟨c12_0, c12_1, c12_2⟩ := d3T c12
 clear c12
 (first | rw [c12_1] | rw [c12_2] | skip)
 replace H := Aside0.mk H
 try go_wp2
 clear c_BK1 z_BK1; have rBK1 := BK1; replace BK1 := dK BK1
 clear c_BK2 z_BK2; have rBK2 := BK2; replace BK2 := dK BK2
 have HBr := HB; replace HB := dH HB
 refine stA (n := 12) (S := fun w' => Below W2.heap.size W2 w') (by kernel_rfl) rfl (below_drew1 (Below.refl _ W2)) (by kernel_rfl) (fun hHeld => ?_)
 generalize W2.drew = W13 at HB BK1 BK2 hHeld ⊢
 replace H := H.out
 replace H := obs H
 obtain ⟨t600, hm, H⟩ := H
 (try dsimp only at H)
 replace hm := Aside0.mk hm
 replace H := Aside0.mk H
 refine pu 0 (some 54) 1 ?_; refine pu 1 (some 55) 3 ?_; refine pu 3 (some 57) 11 ?_; refine pu 5 (some 59) 43 ?_; refine ld 2 (some 56) 47 hHeld ?_ (hr := by (intro w' h_; have y_ := kD rBK2 h_; go_simp; with_reducible rfl)); refine ld 4 (some 58) 63 hHeld ?_ (hr := by (intro w' h_; have y_ := kD rBK2 h_; go_simp; with_reducible rfl)); refine ld 6 (some 60) 127 hHeld ?_ (hr := by (intro w' h_; have y_ := kD rBK1 h_; go_simp; with_reducible rfl))
 refine pu 8 (some 62) 383 ?_; refine ld 9 (some 63) 895 hHeld ?_ (hr := by (intro w' h_; have y_ := kD rBK1 h_; go_simp; with_reducible rfl))
 refine on 7 (some 61) 1023 (fun K hK => ?_)
 have hcall := impl_BestValue.calls k _ _ _ _ _ _ _ _ W13 (Kd.C_below HR1.out HB.out) HC1.out hm.out
 refine goes_ Tryz.func374 (by kernel_rfl) rfl #[.slice A1 l1.length c1, .int .i64 4, .int .i64 a3_2, .int .i64 a3_5, .int .i64 a2_2] (by rfl) rfl rfl zM ?_
 refine hcall.mono ?_
 rintro e W15 ⟨rfl, hb⟩
 refine ⟨_, rfl, ?_⟩
 clear hcall hm
 replace hHeld := below_step hHeld hb
 replace BK1 := bK BK1 hb
 replace BK2 := bK BK2 hb
 replace HB := bH HB hb; clear hb
 refine hK.out _ _ hHeld (fun hHeld => ?_)
 clear hK K
 refine nr 61 ?_
 refine pu 10 (some 64) 2047 ?_; refine pu 11 (some 8) 4095 ?_
 refine dn (by kernel_rfl) ?_
 clear hHeld HBr rBK1 rBK2
 have c_BK1 := bcl BK1; have z_BK1 := bfr BK1
 have c_BK2 := bcl BK2; have z_BK2 := bfr BK2
 replace H := H.out
 cases H
 go_wp2
 go_ret
 exact ⟨rfl, HB.out⟩
theorem cl327.calls (k : Nat) (a0 a1 a2 : Int) (A3 : Option Addr) (c3 : Nat) (l3 : List S172) (AP : Option Addr) (cP : Nat) (lP : List S154) (AF : Option Addr) (cF : Nat) (lF : List S136) (q0 q1 q2 q3 q4 q5 : Int) (B1 B2 B3 : Nat) (b : Bool) (w0 W : World) (hB1 : w0.heap[B1]? = some (.cells #[.slice AP lP.length cP] 33 (0, 0))) (hB2 : w0.heap[B2]? = some (.cells #[.slice AF lF.length cF] 35 (0, 0))) (hB3 : w0.heap[B3]? = some (.cells #[.int .i64 q0, .int .i64 q1, .int .i64 q2, .int .i64 q3, .int .i64 q4, .int .i64 q5] 41 (0, 0))) (hp : Kd.C k154 w0 AP lP.length lP) (hpc : lP.length ≤ cP) (hf : Kd.C k136 w0 AF lF.length lF) (hfc : lF.length ≤ cF) (hr : Kd.C k172 W A3 l3.length l3) (hc : l3.length ≤ c3) (hb : Below w0.heap.size w0 W) (h : impl_LeafHolds.f k lP lF a0 a1 a2 l3 q0 q1 q2 q3 q4 q5 = some b) :
  Calls Tryz.prog 327 #[.agg #[.int .i64 a0, .int .i64 a1, .int .i64 a2, .slice A3 l3.length c3], .pointer (some ⟨B1, 0, none⟩), .pointer (some ⟨B2, 0, none⟩), .pointer (some ⟨B3, 0, none⟩)] W fun e w' => e = .returned (.bool b) ∧ Below W.heap.size W w' := by
 replace hB1 := blk_below hB1 hb; have c1_ := blk_cell hB1; have n1 : B1 ≠ W.heap.size := by have := blk_lt hB1; omega
 replace hB2 := blk_below hB2 hb; have c2_ := blk_cell hB2; have n2 : B2 ≠ W.heap.size := by have := blk_lt hB2; omega
 replace hB3 := blk_below hB3 hb; have c3_ := blk_cell hB3; have n3 : B3 ≠ W.heap.size := by have := blk_lt hB3; omega
 have hp2 := Aside0.mk (Kd.C_alloc (Kd.C_below hp hb) (.cells #[.int .i64 a0, .int .i64 a1, .int .i64 a2, .slice A3 l3.length c3] 172)); have hf2 := Aside0.mk (Kd.C_alloc (Kd.C_below hf hb) (.cells #[.int .i64 a0, .int .i64 a1, .int .i64 a2, .slice A3 l3.length c3] 172)); have hr2 := Aside0.mk (Kd.C_alloc hr (.cells #[.int .i64 a0, .int .i64 a1, .int .i64 a2, .slice A3 l3.length c3] 172)); replace hpc := Aside0.mk hpc; replace hfc := Aside0.mk hfc; replace hc := Aside0.mk hc; replace h := Aside0.mk h; have HB := Aside0.mk (below_alloc (Below.refl W.heap.size W) (.cells #[.int .i64 a0, .int .i64 a1, .int .i64 a2, .slice A3 l3.length c3] 172))
 have B41 := blk_alloc hB1 (.cells #[.int .i64 a0, .int .i64 a1, .int .i64 a2, .slice A3 l3.length c3] 172); have B42 := blk_alloc hB2 (.cells #[.int .i64 a0, .int .i64 a1, .int .i64 a2, .slice A3 l3.length c3] 172); have B43 := blk_alloc hB3 (.cells #[.int .i64 a0, .int .i64 a1, .int .i64 a2, .slice A3 l3.length c3] 172); have B44 := heap_alloc_new W (.cells #[.int .i64 a0, .int .i64 a1, .int .i64 a2, .slice A3 l3.length c3] 172)
 clear hp hf hr hb hB1 hB2 hB3
 have hu1 := Tryz.underlying172; have hu2 := Tryz.underlying41
 go_enter Tryz.func327, Tryz.ntmps327
 go_upto_region 1 with (fail)
 generalize W.alloc (.cells #[.int .i64 a0, .int .i64 a1, .int .i64 a2, .slice A3 l3.length c3] 172) = W1 at B41 B42 B43 B44 hp2 hf2 hr2 HB ⊢
 have d1 := blk_cell B41; have d2 := blk_cell B42; have d3 := blk_cell B43; have d4 := blk_cell B44
 clear c1_ c2_ c3_ B41 B42 B43 B44
 go_wp2_with (go_at_call 328; refine (impl_LeafHolds.calls k _ _ lP _ _ lF _ _ _ _ _ l3 _ _ _ _ _ _ b _ hp2.out hpc.out hf2.out hfc.out hr2.out hc.out h.out).mono ?_; rintro e w' ⟨rfl, h2⟩)
 go_ret
 exact ⟨rfl, below_step HB.out h2⟩
def impl_EvalCond.f (k : Nat) (l0 : List (S154)) (l1 : List (S136)) (a2_0 : Int) (a2_1 : Int) (a2_2 : Int) (l2_3 : List (S172)) (a3_0 : Int) (a3_1 : Int) (a3_2 : Int) (a3_3 : Int) (a3_4 : Int) (a3_5 : Int) : Option Bool := (impl_IsCond.f k a2_0 a2_1 a2_2 l2_3).bind fun t => if t = true then impl_evalWith.x (fun b0 b1 b2 bl => impl_LeafHolds.f k l0 l1 b0 b1 b2 bl a3_0 a3_1 a3_2 a3_3 a3_4 a3_5) k a2_0 a2_1 a2_2 l2_3 else some false
theorem impl_EvalCond.calls (k : Nat) (A0 : Option Addr) (c0 : Nat) (l0 : List (S154)) (A1 : Option Addr) (c1 : Nat) (l1 : List (S136)) (a2_0 : Int) (a2_1 : Int) (a2_2 : Int) (A2_3 : Option Addr) (c2_3 : Nat) (l2_3 : List (S172)) (a3_0 : Int) (a3_1 : Int) (a3_2 : Int) (a3_3 : Int) (a3_4 : Int) (a3_5 : Int) (r : Bool) (w : World) (hr0 : Kd.C k154 w A0 l0.length l0) (hc0 : l0.length ≤ c0) (hr1 : Kd.C k136 w A1 l1.length l1) (hc1 : l1.length ≤ c1) (hr2_3 : Kd.C k172 w A2_3 l2_3.length l2_3) (hc2_3 : l2_3.length ≤ c2_3) (h : impl_EvalCond.f k l0 l1 a2_0 a2_1 a2_2 l2_3 a3_0 a3_1 a3_2 a3_3 a3_4 a3_5 = some r) :
  Calls Tryz.prog 235 #[.slice A0 l0.length c0, .slice A1 l1.length c1, .agg #[.int .i64 a2_0, .int .i64 a2_1, .int .i64 a2_2, .slice A2_3 l2_3.length c2_3], .agg #[.int .i64 a3_0, .int .i64 a3_1, .int .i64 a3_2, .int .i64 a3_3, .int .i64 a3_4, .int .i64 a3_5]] w fun e w' => e = .returned (.bool r) ∧ Below w.heap.size w w' := by
 have EG := Aside0.mk (show ∀ args w, (callFunc 327 args).run Tryz.prog w = .ok (.enter 327 args) w from Go.Proofs.YtmgfklmhelabcaaGreatH.enters Tryz.func327 (by kernel_rfl) rfl)
 unfold impl_EvalCond.f at h
 obtain ⟨t, m, h⟩ := Option.bind_eq_some_iff.mp h
 try dsimp only at h
 have M := Aside0.mk m; clear m; have H := Aside0.mk h; clear h
 have HR0 := Aside0.mk (Kd.C_alloc (Kd.C_alloc (Kd.C_alloc (Kd.C_alloc hr0 (.cells #[.slice A0 l0.length c0] 33)) (.cells #[.slice A1 l1.length c1] 35)) (.cells #[.int .i64 a2_0, .int .i64 a2_1, .int .i64 a2_2, .slice A2_3 l2_3.length c2_3] 172)) (.cells #[.int .i64 a3_0, .int .i64 a3_1, .int .i64 a3_2, .int .i64 a3_3, .int .i64 a3_4, .int .i64 a3_5] 41)); have HC0 := Aside0.mk hc0; clear hr0 hc0
 have HR1 := Aside0.mk (Kd.C_alloc (Kd.C_alloc (Kd.C_alloc (Kd.C_alloc hr1 (.cells #[.slice A0 l0.length c0] 33)) (.cells #[.slice A1 l1.length c1] 35)) (.cells #[.int .i64 a2_0, .int .i64 a2_1, .int .i64 a2_2, .slice A2_3 l2_3.length c2_3] 172)) (.cells #[.int .i64 a3_0, .int .i64 a3_1, .int .i64 a3_2, .int .i64 a3_3, .int .i64 a3_4, .int .i64 a3_5] 41)); have HC1 := Aside0.mk hc1; clear hr1 hc1
 have HR2_3 := Aside0.mk (Kd.C_alloc (Kd.C_alloc (Kd.C_alloc (Kd.C_alloc hr2_3 (.cells #[.slice A0 l0.length c0] 33)) (.cells #[.slice A1 l1.length c1] 35)) (.cells #[.int .i64 a2_0, .int .i64 a2_1, .int .i64 a2_2, .slice A2_3 l2_3.length c2_3] 172)) (.cells #[.int .i64 a3_0, .int .i64 a3_1, .int .i64 a3_2, .int .i64 a3_3, .int .i64 a3_4, .int .i64 a3_5] 41)); have HC2_3 := Aside0.mk hc2_3; clear hr2_3 hc2_3
 have B0 := (blk_alloc (blk_alloc (blk_alloc (show (w.alloc (.cells #[.slice A0 l0.length c0] 33)).heap[w.heap.size]? = some (.cells #[.slice A0 l0.length c0] 33 (0, 0)) from by have h_ := heap_alloc_new w (.cells #[.slice A0 l0.length c0] 33 : Obj); simpa using h_) (.cells #[.slice A1 l1.length c1] 35)) (.cells #[.int .i64 a2_0, .int .i64 a2_1, .int .i64 a2_2, .slice A2_3 l2_3.length c2_3] 172)) (.cells #[.int .i64 a3_0, .int .i64 a3_1, .int .i64 a3_2, .int .i64 a3_3, .int .i64 a3_4, .int .i64 a3_5] 41))
 have B1 := (blk_alloc (blk_alloc (show ((w.alloc (.cells #[.slice A0 l0.length c0] 33)).alloc (.cells #[.slice A1 l1.length c1] 35)).heap[w.heap.size + 1]? = some (.cells #[.slice A1 l1.length c1] 35 (0, 0)) from by have h_ := heap_alloc_new (w.alloc (.cells #[.slice A0 l0.length c0] 33)) (.cells #[.slice A1 l1.length c1] 35 : Obj); simpa using h_) (.cells #[.int .i64 a2_0, .int .i64 a2_1, .int .i64 a2_2, .slice A2_3 l2_3.length c2_3] 172)) (.cells #[.int .i64 a3_0, .int .i64 a3_1, .int .i64 a3_2, .int .i64 a3_3, .int .i64 a3_4, .int .i64 a3_5] 41))
 have B2 := (blk_alloc (show (((w.alloc (.cells #[.slice A0 l0.length c0] 33)).alloc (.cells #[.slice A1 l1.length c1] 35)).alloc (.cells #[.int .i64 a2_0, .int .i64 a2_1, .int .i64 a2_2, .slice A2_3 l2_3.length c2_3] 172)).heap[w.heap.size + 1 + 1]? = some (.cells #[.int .i64 a2_0, .int .i64 a2_1, .int .i64 a2_2, .slice A2_3 l2_3.length c2_3] 172 (0, 0)) from by have h_ := heap_alloc_new ((w.alloc (.cells #[.slice A0 l0.length c0] 33)).alloc (.cells #[.slice A1 l1.length c1] 35)) (.cells #[.int .i64 a2_0, .int .i64 a2_1, .int .i64 a2_2, .slice A2_3 l2_3.length c2_3] 172 : Obj); simpa using h_) (.cells #[.int .i64 a3_0, .int .i64 a3_1, .int .i64 a3_2, .int .i64 a3_3, .int .i64 a3_4, .int .i64 a3_5] 41))
 have B3 := (show ((((w.alloc (.cells #[.slice A0 l0.length c0] 33)).alloc (.cells #[.slice A1 l1.length c1] 35)).alloc (.cells #[.int .i64 a2_0, .int .i64 a2_1, .int .i64 a2_2, .slice A2_3 l2_3.length c2_3] 172)).alloc (.cells #[.int .i64 a3_0, .int .i64 a3_1, .int .i64 a3_2, .int .i64 a3_3, .int .i64 a3_4, .int .i64 a3_5] 41)).heap[w.heap.size + 1 + 1 + 1]? = some (.cells #[.int .i64 a3_0, .int .i64 a3_1, .int .i64 a3_2, .int .i64 a3_3, .int .i64 a3_4, .int .i64 a3_5] 41 (0, 0)) from by have h_ := heap_alloc_new (((w.alloc (.cells #[.slice A0 l0.length c0] 33)).alloc (.cells #[.slice A1 l1.length c1] 35)).alloc (.cells #[.int .i64 a2_0, .int .i64 a2_1, .int .i64 a2_2, .slice A2_3 l2_3.length c2_3] 172)) (.cells #[.int .i64 a3_0, .int .i64 a3_1, .int .i64 a3_2, .int .i64 a3_3, .int .i64 a3_4, .int .i64 a3_5] 41 : Obj); simpa using h_)
 have HB := Aside0.mk (below_alloc (below_alloc (below_alloc (below_alloc (Below.refl w.heap.size w) (.cells #[.slice A0 l0.length c0] 33)) (.cells #[.slice A1 l1.length c1] 35)) (.cells #[.int .i64 a2_0, .int .i64 a2_1, .int .i64 a2_2, .slice A2_3 l2_3.length c2_3] 172)) (.cells #[.int .i64 a3_0, .int .i64 a3_1, .int .i64 a3_2, .int .i64 a3_3, .int .i64 a3_4, .int .i64 a3_5] 41))
 have hu1 := Tryz.underlying172; have hu2 := Tryz.underlying41
 go_enter Tryz.func235, Tryz.ntmps235
 go_upto_region 1 with (fail)
 generalize ((((w.alloc (.cells #[.slice A0 l0.length c0] 33)).alloc (.cells #[.slice A1 l1.length c1] 35)).alloc (.cells #[.int .i64 a2_0, .int .i64 a2_1, .int .i64 a2_2, .slice A2_3 l2_3.length c2_3] 172)).alloc (.cells #[.int .i64 a3_0, .int .i64 a3_1, .int .i64 a3_2, .int .i64 a3_3, .int .i64 a3_4, .int .i64 a3_5] 41)) = W4 at HR0 HR1 HR2_3 B0 B1 B2 B3 HB ⊢
 have c2 := blk_cell B2
 replace B0 := Aside0.mk B0; replace B1 := Aside0.mk B1; replace B2 := Aside0.mk B2; replace B3 := Aside0.mk B3
 cases t with
 | false =>
  have h := H.out
  replace h := (if_neg (by decide)).symm.trans h
  obtain rfl := Option.some.inj h; clear h H
  go_wp2_with (go_at_call 233; refine (impl_IsCond.calls k _ _ _ _ _ l2_3 _ _ HR2_3.out HC2_3.out M.out).mono ?_; rintro e W5 ⟨rfl, hb⟩; have HB5 := Aside0.mk (below_step HB.out hb); have R0 := Aside0.mk (Kd.C_below HR0.out hb); have R1 := Aside0.mk (Kd.C_below HR1.out hb); have R2 := Aside0.mk (Kd.C_below HR2_3.out hb); have D0 := Aside0.mk (blk_below B0.out hb); have D1 := Aside0.mk (blk_below B1.out hb); have D2 := blk_below B2.out hb; have D3 := Aside0.mk (blk_below B3.out hb); clear hb c2; have c2 := blk_cell D2; replace D2 := Aside0.mk D2)
  go_ret
  exact ⟨rfl, HB5.out⟩
 | true =>
  have h := H.out; clear H
  replace h := (if_pos rfl).symm.trans h
  have H2 := Aside0.mk h; clear h
  go_wp2_with (first | (go_at_call 233; refine (impl_IsCond.calls k _ _ _ _ _ l2_3 _ _ HR2_3.out HC2_3.out M.out).mono ?_; rintro e W5 ⟨rfl, hb⟩; have HB5 := Aside0.mk (below_step HB.out hb); have R0 := Aside0.mk (Kd.C_below HR0.out hb); have R1 := Aside0.mk (Kd.C_below HR1.out hb); have R2 := Aside0.mk (Kd.C_below HR2_3.out hb); have D0 := Aside0.mk (blk_below B0.out hb); have D1 := Aside0.mk (blk_below B1.out hb); have D2 := blk_below B2.out hb; have D3 := Aside0.mk (blk_below B3.out hb); clear hb c2; have c2 := blk_cell D2; replace D2 := Aside0.mk D2) | (go_at_call 326; refine (impl_evalWith.calls 327 #[.pointer (some ⟨w.heap.size, 0, none⟩), .pointer (some ⟨w.heap.size + 1, 0, none⟩), .pointer (some ⟨w.heap.size + 1 + 1 + 1, 0, none⟩)] EG.out (fun b0 b1 b2 bl => impl_LeafHolds.f k l0 l1 b0 b1 b2 bl a3_0 a3_1 a3_2 a3_3 a3_4 a3_5) W5 (fun W b0 b1 b2 A_ c_ l_ b hW hr hc hh => cl327.calls k b0 b1 b2 A_ c_ l_ _ c0 l0 _ c1 l1 a3_0 a3_1 a3_2 a3_3 a3_4 a3_5 (w.heap.size) (w.heap.size + 1) (w.heap.size + 1 + 1 + 1) b W5 W D0.out D1.out D3.out R0.out HC0.out R1.out HC1.out hr hc hW hh) k _ _ _ _ _ l2_3 r _ (Below.refl _ W5) R2.out HC2_3.out H2.out).mono ?_; rintro e W6 ⟨rfl, hb⟩; have HB6 := Aside0.mk (below_step HB5.out hb); clear hb))
  go_ret
  exact ⟨rfl, HB6.out⟩
end Go.Proofs.YtmgfklmhelabcaaGreat.QFnExactSaveDecision
