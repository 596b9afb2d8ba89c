/- The machine side of FnExactSaveDecision: what each function that it reaches computes, and that the machine's call gives just that. -/
import Derived.Test.YtmgfklmhelabcaaGreatQFnExactSaveDecisionx0
import Derived.Test.YtmgfklmhelabcaaGreatQFnExactSaveDecisionx5
import Derived.Test.YtmgfklmhelabcaaGreatQFnExactSaveDecisionx6
import Derived.Test.YtmgfklmhelabcaaGreatQFnExactSaveDecisionx7
namespace Go.Proofs.YtmgfklmhelabcaaGreat.QFnExactSaveDecision
open Go.RowKit Go.Proofs.YtmgfklmhelabcaaGreatW.PrintWords Go.Proofs.YtmgfklmhelabcaaGreatW.PrintLast Go.Proofs.YtmgfklmhelabcaaGreatW.PrintMore
attribute [local go_sem] max2_int min2_int max_two min_two max_three min_three max_four min_four
set_option maxHeartbeats 8000000
set_option maxRecDepth 100000
open Go.Proofs.YtmgfklmhelabcaaGreatM
set_option linter.unusedVariables false
set_option linter.unusedSimpArgs false
mutual
def spec_RolesOf.l0 : Nat → List (S154) → List (S136) → Int → Int → Int → List Bool → Int → Option (List Int)
 | 0, _, _, _, _, _, _, _ => none
 | k + 1, x0, x1, x2, x3, x4, x11, x12 => if x12 < (x1.length : Int) then (if 0 ≤ x12 then (if ((rd_T136 x1 x12).f0) = 1 then (if ((rd_T136 x1 x12).f1) = x2 then ((spec_HoldsAt.f ((rd_T136 x1 x12).f0) ((rd_T136 x1 x12).f1) ((rd_T136 x1 x12).f2) ((rd_T136 x1 x12).f3) ((rd_T136 x1 x12).f4) ((rd_T136 x1 x12).f5) x3 x4).bind fun t379 => (spec_RolesOf.j1 k x0 x1 x2 x3 x4 x11 x12 (!t379))) else (spec_RolesOf.j1 k x0 x1 x2 x3 x4 x11 x12 true)) else (spec_RolesOf.j1 k x0 x1 x2 x3 x4 x11 x12 true)) else (none)) else (spec_RolesOf.l2 k x11 (([] : List Int)) 0)
def spec_RolesOf.j1 : Nat → List (S154) → List (S136) → Int → Int → Int → List Bool → Int → Bool → Option (List Int)
 | 0, _, _, _, _, _, _, _, _ => none
 | k + 1, x0, x1, x2, x3, x4, x11, x12, x48 => if x48 = true then (spec_RolesOf.l0 k x0 x1 x2 x3 x4 x11 (wrap64 (x12 + 1))) else (if 0 ≤ x12 then (if x12 < (x1.length : Int) then ((spec_RolesUnder.f k x0 ((rd_T136 x1 x12).f2)).bind fun t381 => (spec_RolesOf.l1 k x0 x1 x2 x3 x4 x11 x12 t381 0)) else (none)) else (none))
def spec_RolesOf.l1 : Nat → List (S154) → List (S136) → Int → Int → Int → List Bool → Int → List Int → Int → Option (List Int)
 | 0, _, _, _, _, _, _, _, _, _ => none
 | k + 1, x0, x1, x2, x3, x4, x11, x12, x13, x14 => if x14 < (x13.length : Int) then (if 0 ≤ x14 then (if 0 ≤ (rd x13 x14) then (if (rd x13 x14) < (x11.length : Int) then (spec_RolesOf.l1 k x0 x1 x2 x3 x4 (x11.set ((rd x13 x14) : Int).toNat true) x12 x13 (wrap64 (x14 + 1))) else (none)) else (none)) else (none)) else (spec_RolesOf.l0 k x0 x1 x2 x3 x4 x11 (wrap64 (x12 + 1)))
def spec_RolesOf.l2 : Nat → List Bool → List Int → Int → Option (List Int)
 | 0, _, _, _ => none
 | k + 1, x11, x15, x16 => if x16 ≤ 5 then (if 0 ≤ x16 then (if x16 < (x11.length : Int) then (if rdOf false x11 x16 = true then (if x15.length < 17592186044416 then (spec_RolesOf.l2 k x11 (x15 ++ [x16]) (wrap64 (x16 + 1))) else (none)) else (spec_RolesOf.l2 k x11 x15 (wrap64 (x16 + 1)))) else (none)) else (none)) else (some x15)
end
def spec_RolesOf.f (k : Nat) (l0 : List (S154)) (l1 : List (S136)) (a2 : Int) (a3 : Int) (a4 : Int) : Option (List Int) := if 6 ≤ 281474976710656 then (spec_RolesOf.l0 k l0 l1 a2 a3 a4 (List.replicate 6 false) 0) else (none)
theorem spec_RolesOf.calls (k : Nat) (A0 : Option Addr) (c0 : Nat) (l0 : List (S154)) (A1 : Option Addr) (c1 : Nat) (l1 : List (S136)) (a2 : Int) (a3 : Int) (a4 : Int) (r : List Int) (w : World) (hr0 : Kd.C k154 w A0 l0.length l0) (hc0 : l0.length ≤ c0) (hr1 : Kd.C k136 w A1 l1.length l1) (hc1 : l1.length ≤ c1) (h : spec_RolesOf.f k l0 l1 a2 a3 a4 = some r) :
  Calls Tryz.prog 407 #[.slice A0 l0.length c0, .slice A1 l1.length c1, .int .i64 a2, .int .i64 a3, .int .i64 a4] w fun e w' => ∃ v0_ : Value, e = .returned (v0_) ∧ Kd.R (Kd.int .i64) 3 w' w.heap.size (fun _ => True) v0_ r ∧ Below w.heap.size w w' := by
 have hu136 := Tryz.underlying136
 have HR0 := Aside0.mk hr0
 have HC0 := Aside0.mk hc0
 clear hr0 hc0
 have HR1 := Aside0.mk hr1
 have HC1 := Aside0.mk hc1
 clear hr1 hc1
 have HB := Aside0.mk (Below.refl w.heap.size w)
 (try unfold spec_RolesOf.f at h)
 have H := h
 clear h
 replace H := ifN H; obtain ⟨c6, H⟩ := H
 have c6b0 := eq_true c6
 have c6b1 := decT c6
 clear c6
 obtain ⟨y373, hy373⟩ : ∃ y_ : List Bool, y_ = (List.replicate 6 false) := ⟨_, rfl⟩
 replace H : (spec_RolesOf.l0 k l0 l1 a2 a3 a4 y373 0) = some r := by first | (rw [hy373]; with_reducible exact H) | (have H2_ := (Option.bind_some _ _).symm.trans H; rw [hy373]; with_reducible exact H2_) | (have H2_ := (Option.bind_some _ _).symm.trans H; with_reducible exact H2_) | with_reducible exact H | (rw [hy373]; exact H) | exact H
 have Ny373 := Aside0.mk hy373
 clear hy373
 have H' := Aside0.mk H
 clear H
 go_enter Tryz.func407, Tryz.ntmps407
 go_wp2_with (first | ((with_reducible refine gate_dst (N := 17) rfl ?_); refine Kd.R_make Kd.bool _ 4 rfl (N := 17) rfl 339 _ _ rfl 6 rfl rfl Tryz.underlying339 (.bool false) 1 info4 rfl (by decide) (by omega) false (ok := fun _ => True) (okp := fun _ => True) rfl (fun _ hk => hk) trivial (by omega) (by omega) (Below.refl _ _) (Nat.le_refl _) ?_; intro v374 w7 ho8 hb hg_ hnew_; clear hg_ hnew_; (first | rw [← Ny373.out] at ho8 | (simp only [Int.reduceToNat] at ho8; rw [← Ny373.out] at ho8)); have n0_ := Aside0.mk (Kd.R_lower ho8 (below_size zB)); have n1_ := Aside0.mk (below_step zB hb); clear HB; have HO375 := n0_; have HB := n1_; clear n0_ n1_; clear hb ho8))
 go_loopg [12] k (fun kq v12 w' => ∃ (x11_1 : List Bool) (x12_1 : Int), v12 = .int .i64 x12_1 ∧ Aside0 (spec_RolesOf.l0 kq l0 l1 a2 a3 a4 x11_1 x12_1 = some r) ∧ Aside0 (kq ≤ k) ∧ Aside0 (Kd.R Kd.bool 4 w' w.heap.size (fun _ => True) v374 x11_1) ∧ Aside0 (Below w.heap.size w w'))
 case atStart => exact ⟨(y373), (0), zT, H', ⟨Nat.le_refl _⟩, ⟨zR HO375⟩, ⟨zB⟩⟩
 case round =>
  clear H'
  (try clear c1)
  (try clear p2)
  (try clear c4)
  (try clear c6)
  (try clear c6b0)
  (try clear c6b1)
  obtain ⟨x11_1, x12_1, rfl, HA, HK1, HO_11, HB⟩ := hrel
  cases gk with
  | zero => exact absurd HA.out (by simp [spec_RolesOf.l0])
  | succ k1 =>
   have H := HA.out; clear HA; simp only [spec_RolesOf.l0] at H; replace H := ifD H; rcases H with ⟨c9, H⟩ | ⟨c9, H⟩; rotate_left
   ·have c9b0 := decF c9; clear c9; obtain ⟨y386, hy386⟩ : ∃ y_ : List Int, y_ = (([] : List Int)) := ⟨_, rfl⟩; replace H : (spec_RolesOf.l2 k1 x11_1 y386 0) = some r := by first | (rw [hy386]; with_reducible exact H) | (have H2_ := (Option.bind_some _ _).symm.trans H; rw [hy386]; with_reducible exact H2_) | (have H2_ := (Option.bind_some _ _).symm.trans H; with_reducible exact H2_) | with_reducible exact H | (rw [hy386]; exact H) | exact H
    have Ny386 := Aside0.mk hy386; clear hy386; have H' := Aside0.mk H; clear H; go_wp2_with (first | ((with_reducible refine gate_dst (N := 68) rfl ?_); refine Kd.R_lit (Kd.int .i64) _ 3 ?hg (N := 68) ?hd (xs := ([] : List Int)) (inner := []) (ok := fun _ => True) (okp := fun _ => True) ?hr ?hp (fun _ hk => hk) trivial (Below.refl _ _) (Nat.le_refl _) (by simp) ?_; (case hd => rfl); (case hg => rfl); (case hr => first | (go_simp; done) | (go_simp; rfl)); (case hp => exact (Reps.none _ _)); intro v387 w30 ho31 hb hg_ hnew_; clear hg_ hnew_; (first | rw [← Ny386.out] at ho31 | (simp only [Int.reduceToNat] at ho31; rw [← Ny386.out] at ho31)); have n0_ := Aside0.mk (Kd.R_below (zR HO_11) hb); have n1_ := Aside0.mk (Kd.R_lower ho31 (below_size zB)); have n2_ := Aside0.mk (below_step zB hb); clear HO_11; clear HB; have HO_11 := n0_; have HO388 := n1_; have HB := n2_; clear n0_ n1_ n2_; clear hb ho31))
    go_loopg [15, 16] k1 (fun kq v15 v16 w' => ∃ (x15_2 : List Int) (x16_2 : Int), v16 = .int .i64 x16_2 ∧ Aside0 (spec_RolesOf.l2 kq x11_1 x15_2 x16_2 = some r) ∧ Aside0 (kq ≤ k1) ∧ Aside0 (Kd.R Kd.bool 4 w' w.heap.size (fun _ => True) v374 x11_1) ∧ Aside0 (Kd.R (Kd.int .i64) 3 w' w.heap.size (fun _ => True) v15 x15_2) ∧ Aside0 (Below w.heap.size w w'))
    case atStart => exact ⟨(y386), (0), zT, H', ⟨Nat.le_refl _⟩, ⟨zR HO_11⟩, ⟨zR HO388⟩, ⟨zB⟩⟩
    case round =>
     clear H'; (try clear c1); (try clear c2); (try clear p2); (try clear q2); (try clear hx2); (try clear c3); (try clear p3); (try clear q3); (try clear hx3); (try clear c4); (try clear c6); (try clear c6b0); (try clear c6b1); (try clear p6); (try clear c9); (try clear c9b0); (try clear c11); (try clear c11b0); (try clear c12); (try clear c12b0); (try clear c12b1); (try clear c13); (try clear c13b0); (try clear c13b1); (try clear c16); (try clear c17); (try clear c17b0); (try clear c18); (try clear c18b0); (try clear c21); (try clear c21b0); (try clear c22); (try clear c22b0); (try clear c23); (try clear c23b0); (try clear c24); (try clear c24b0); (try clear p25); (try clear q25); (try clear hx25); (try clear hf25); (try clear hx25_0); (try clear hx376_0); (try clear hx376_1); (try clear hx376_2); (try clear hx376_3); (try clear hx376_4); (try clear hx376_5); (try clear hx377_0); (try clear hx377_1); (try clear hx377_2); (try clear hx377_3); (try clear hx377_4); (try clear hx377_5); (try clear hx378_0); (try clear hx378_1); (try clear hx378_2); (try clear hx378_3); (try clear hx378_4); (try clear hx378_5); (try clear hx380_0); (try clear hx380_1); (try clear hx380_2); (try clear hx380_3); (try clear hx380_4); (try clear hx380_5); (try clear hx384_0); (try clear p2); (try clear p25); (try clear p3); (try clear p376); (try clear p377); (try clear p378); (try clear p380); (try clear p384); (try clear p6); (try clear q25); (try clear q3); (try clear q376); (try clear q377); (try clear q378); (try clear q380); (try clear q384); obtain ⟨x15_2, x16_2, rfl, HA, HK2, HO_11, HO_15, HB⟩ := hrel; cases gk with
     | zero => exact absurd HA.out (by simp [spec_RolesOf.l2])
     | succ k2 =>
      have H := HA.out; clear HA; simp only [spec_RolesOf.l2] at H; replace H := ifD H; rcases H with ⟨c32, H⟩ | ⟨c32, H⟩; rotate_left
      ·have c32b0 := decF c32; clear c32; obtain rfl := Option.some.inj H; go_wp2; go_ret; exact ⟨_, zE, zR HO_15, zB⟩
      have c32b0 := decT c32; clear c32; replace H := ifN H; obtain ⟨c33, H⟩ := H; have c33b0 := decT c33; clear c33; replace H := ifN H; obtain ⟨c34, H⟩ := H; have c34b0 := decT c34; clear c34; obtain ⟨bq35, hbq35⟩ : ∃ b_ : Bool, b_ = (rdOf false x11_1 x16_2) := ⟨_, rfl⟩; replace H : (if bq35 = true then (if x15_2.length < 17592186044416 then (spec_RolesOf.l2 k2 x11_1 (x15_2 ++ [x16_2]) (wrap64 (x16_2 + 1))) else (none)) else (spec_RolesOf.l2 k2 x11_1 x15_2 (wrap64 (x16_2 + 1)))) = some r := by rw [← hbq35] at H; exact H
      have Nbq35 := Aside0.mk hbq35; clear hbq35; by_cases c36 : bq35 = true
      rotate_left
      ·replace c36 := Bool.eq_false_iff.mpr c36; subst c36; have H1 : (spec_RolesOf.l2 k2 x11_1 x15_2 (wrap64 (x16_2 + 1))) = some r := by rw [if_neg (show ¬ (false = true) by decide)] at H; exact H
       clear H; have H := H1; clear H1; have H' := Aside0.mk H; clear H; obtain ⟨Ao40, co40, eo40⟩ := Kd.R_slice HO_11.out; subst eo40; have p389 : 0 ≤ (x16_2 : Int) := of_decide_eq_true zA; have q389 : x16_2 < (x11_1.length : Int) := of_decide_eq_true zA; obtain ⟨ad389, e389, hx389_0⟩ := Kd.at_bool (Kd.R_reads' HO_11.out).2.2 x16_2 p389 q389; (try rw [← Nbq35.out] at hx389_0); cases e389; replace p389 := eq_true p389; replace q389 := eq_true q389; go_wp2; go_roundg k2
       case measure => have := HK1.out; have := HK2.out; omega
       case rel => exact ⟨(x15_2), (wrap64 (x16_2 + 1)), zT, H', ⟨by have := HK1.out; have := HK2.out; omega⟩, ⟨zR HO_11⟩, ⟨zR HO_15⟩, ⟨zB⟩⟩
      subst c36; have H1 : (if x15_2.length < 17592186044416 then (spec_RolesOf.l2 k2 x11_1 (x15_2 ++ [x16_2]) (wrap64 (x16_2 + 1))) else (none)) = some r := by rw [if_pos rfl] at H; exact H
      clear H; have H := H1; clear H1; replace H := ifN H; obtain ⟨c37, H⟩ := H; have LMc37 := Aside0.mk c37; clear c37; obtain ⟨y390, hy390⟩ : ∃ y_ : List Int, y_ = (x15_2 ++ [x16_2]) := ⟨_, rfl⟩; replace H : (spec_RolesOf.l2 k2 x11_1 y390 (wrap64 (x16_2 + 1))) = some r := by first | (rw [hy390]; with_reducible exact H) | (have H2_ := (Option.bind_some _ _).symm.trans H; rw [hy390]; with_reducible exact H2_) | (have H2_ := (Option.bind_some _ _).symm.trans H; with_reducible exact H2_) | with_reducible exact H | (rw [hy390]; exact H) | exact H
      have Ny390 := Aside0.mk hy390; clear hy390; have H' := Aside0.mk H; clear H; obtain ⟨Ao38, co38, eo38⟩ := Kd.R_slice HO_11.out; subst eo38; have p389 : 0 ≤ (x16_2 : Int) := of_decide_eq_true zA; have q389 : x16_2 < (x11_1.length : Int) := of_decide_eq_true zA; obtain ⟨ad389, e389, hx389_0⟩ := Kd.at_bool (Kd.R_reads' HO_11.out).2.2 x16_2 p389 q389; (try rw [← Nbq35.out] at hx389_0); cases e389; replace p389 := eq_true p389; replace q389 := eq_true q389; go_wp2_with (first | ((with_reducible refine gate_builtin (b := .append) (xs := #[.tmp 77, .tmp 79]) rfl ?_); at_builtin; refine Kd.R_append (Kd.int .i64) (w0 := w) w.heap.size rfl (.tmp 77) (.tmp 79) 177 3 (.int .i64 0) 8 rfl Tryz.underlying177 info3 rfl (by decide) (by omega) u15 x15_2 x16_2 [.int .i64 x16_2] (fun _ => True) (fun _ => False) rfl rfl ?aP (fun _ hk => hk.elim) ?aF ?aO ?aB ?aS ?aL ?_; (case aP => exact rfl); (case aB => exact zB); (case aF => exact (fun _ _ => trivial)); (case aO => exact (zR HO_15)); (case aS => exact (below_size zB)); (case aL => have := LMc37.out; omega); intro v391 w39 ho hb hg hat; rw [← Ny390.out] at ho; have n0_ := Aside0.mk (Kd.R_over' (zR HO_11) (Kd.R_typed (zR HO_15)) (by decide) hg); have n1_ := Aside0.mk (hb); have n2_ := Aside0.mk (ho); clear HO_11; clear HB; clear HO_15; have HO_11 := n0_; have HB := n1_; have HO392 := n2_; clear n0_ n1_ n2_; clear ho hb hg hat))
      go_roundg k2
      case measure => have := HK1.out; have := HK2.out; omega
      case rel => exact ⟨(y390), (wrap64 (x16_2 + 1)), zT, H', ⟨by have := HK1.out; have := HK2.out; omega⟩, ⟨zR HO_11⟩, ⟨zR HO392⟩, ⟨zB⟩⟩
   have c9b0 := decT c9; clear c9; have HC10 := Aside0.mk H; clear H; go_upto_region 5 with (fail)
   go_cut [48] (fun v48 wc => ∃ (kq : Nat) (x48_9 : Bool), v48 = .bool x48_9 ∧ Aside0 (spec_RolesOf.j1 kq l0 l1 a2 a3 a4 x11_1 x12_1 x48_9 = some r) ∧ Aside0 (kq ≤ k1) ∧ Aside0 (Kd.R Kd.bool 4 wc w.heap.size (fun _ => True) v374 x11_1) ∧ Aside0 (Below w.heap.size w wc))
   case first =>
    have H := HC10.out; clear HC10; replace H := ifN H; obtain ⟨c11, H⟩ := H; have c11b0 := decT c11; clear c11; (first | rw [c11b0] | (simp only [i64_w, i32_w]; rw [c11b0]) | skip); replace H := ifD H; rcases H with ⟨c12, H⟩ | ⟨c12, H⟩; rotate_left
    ·have c12b0 : (((rd_T136 l1 x12_1).f0) == 1) = false := beq_eq_false_iff_ne.mpr c12; have c12b1 : (((rd_T136 l1 x12_1).f0) != 1) = true := bne_iff_ne.mpr c12; have H' := Aside0.mk H; clear H; have p376 : 0 ≤ (x12_1 : Int) := of_decide_eq_true zA; have q376 : x12_1 < (l1.length : Int) := of_decide_eq_true zA; obtain ⟨ad376, e376, hx376_0, hx376_1, hx376_2, hx376_3, hx376_4, hx376_5⟩ := at_T136 HR1.out x12_1 p376 q376; cases e376; replace hx376_0 := (HB.out.cell (World.block_lt_of_cell? w _ hx376_0)).trans hx376_0; replace hx376_1 := (HB.out.cell (World.block_lt_of_cell? w _ hx376_1)).trans hx376_1; replace hx376_2 := (HB.out.cell (World.block_lt_of_cell? w _ hx376_2)).trans hx376_2; replace hx376_3 := (HB.out.cell (World.block_lt_of_cell? w _ hx376_3)).trans hx376_3; replace hx376_4 := (HB.out.cell (World.block_lt_of_cell? w _ hx376_4)).trans hx376_4; replace hx376_5 := (HB.out.cell (World.block_lt_of_cell? w _ hx376_5)).trans hx376_5; replace p376 := eq_true p376; replace q376 := eq_true q376; go_wp2; go_meet
     case rel => exact ⟨_, (true), zT, H', ⟨by have := HK1.out; first | omega | exact Nat.le_refl _⟩, ⟨zR HO_11⟩, ⟨zB⟩⟩
    have c12b0 : (((rd_T136 l1 x12_1).f0) == 1) = true := beq_iff_eq.mpr c12; have c12b1 : (((rd_T136 l1 x12_1).f0) != 1) = false := bne_eq_false_iff_eq.mpr c12; clear c12; replace H := ifD H; rcases H with ⟨c13, H⟩ | ⟨c13, H⟩; rotate_left
    ·have c13b0 : (((rd_T136 l1 x12_1).f1) == a2) = false := beq_eq_false_iff_ne.mpr c13; have c13b1 : (((rd_T136 l1 x12_1).f1) != a2) = true := bne_iff_ne.mpr c13; have H' := Aside0.mk H; clear H; have p376 : 0 ≤ (x12_1 : Int) := of_decide_eq_true zA; have q376 : x12_1 < (l1.length : Int) := of_decide_eq_true zA; obtain ⟨ad376, e376, hx376_0, hx376_1, hx376_2, hx376_3, hx376_4, hx376_5⟩ := at_T136 HR1.out x12_1 p376 q376; cases e376; replace hx376_0 := (HB.out.cell (World.block_lt_of_cell? w _ hx376_0)).trans hx376_0; replace hx376_1 := (HB.out.cell (World.block_lt_of_cell? w _ hx376_1)).trans hx376_1; replace hx376_2 := (HB.out.cell (World.block_lt_of_cell? w _ hx376_2)).trans hx376_2; replace hx376_3 := (HB.out.cell (World.block_lt_of_cell? w _ hx376_3)).trans hx376_3; replace hx376_4 := (HB.out.cell (World.block_lt_of_cell? w _ hx376_4)).trans hx376_4; replace hx376_5 := (HB.out.cell (World.block_lt_of_cell? w _ hx376_5)).trans hx376_5; replace p376 := eq_true p376; replace q376 := eq_true q376; have p377 : 0 ≤ (x12_1 : Int) := of_decide_eq_true zA; have q377 : x12_1 < (l1.length : Int) := of_decide_eq_true zA; obtain ⟨ad377, e377, hx377_0, hx377_1, hx377_2, hx377_3, hx377_4, hx377_5⟩ := at_T136 HR1.out x12_1 p377 q377; obtain rfl : ad376 = ad377 := (by injection e377); replace hx377_0 := (HB.out.cell (World.block_lt_of_cell? w _ hx377_0)).trans hx377_0; replace hx377_1 := (HB.out.cell (World.block_lt_of_cell? w _ hx377_1)).trans hx377_1; replace hx377_2 := (HB.out.cell (World.block_lt_of_cell? w _ hx377_2)).trans hx377_2; replace hx377_3 := (HB.out.cell (World.block_lt_of_cell? w _ hx377_3)).trans hx377_3; replace hx377_4 := (HB.out.cell (World.block_lt_of_cell? w _ hx377_4)).trans hx377_4; replace hx377_5 := (HB.out.cell (World.block_lt_of_cell? w _ hx377_5)).trans hx377_5; replace p377 := eq_true p377; replace q377 := eq_true q377; go_wp2; go_meet
     case rel => exact ⟨_, (true), zT, H', ⟨by have := HK1.out; first | omega | exact Nat.le_refl _⟩, ⟨zR HO_11⟩, ⟨zB⟩⟩
    have c13b0 : (((rd_T136 l1 x12_1).f1) == a2) = true := beq_iff_eq.mpr c13; have c13b1 : (((rd_T136 l1 x12_1).f1) != a2) = false := bne_eq_false_iff_eq.mpr c13; clear c13; replace H := obs H; obtain ⟨t379, A140, H⟩ := H; (try dsimp only at H); have A14 := Aside0.mk A140; clear A140; have H' := Aside0.mk H; clear H; have p376 : 0 ≤ (x12_1 : Int) := of_decide_eq_true zA; have q376 : x12_1 < (l1.length : Int) := of_decide_eq_true zA; obtain ⟨ad376, e376, hx376_0, hx376_1, hx376_2, hx376_3, hx376_4, hx376_5⟩ := at_T136 HR1.out x12_1 p376 q376; cases e376; replace hx376_0 := (HB.out.cell (World.block_lt_of_cell? w _ hx376_0)).trans hx376_0; replace hx376_1 := (HB.out.cell (World.block_lt_of_cell? w _ hx376_1)).trans hx376_1; replace hx376_2 := (HB.out.cell (World.block_lt_of_cell? w _ hx376_2)).trans hx376_2; replace hx376_3 := (HB.out.cell (World.block_lt_of_cell? w _ hx376_3)).trans hx376_3; replace hx376_4 := (HB.out.cell (World.block_lt_of_cell? w _ hx376_4)).trans hx376_4; replace hx376_5 := (HB.out.cell (World.block_lt_of_cell? w _ hx376_5)).trans hx376_5; replace p376 := eq_true p376; replace q376 := eq_true q376; have p377 : 0 ≤ (x12_1 : Int) := of_decide_eq_true zA; have q377 : x12_1 < (l1.length : Int) := of_decide_eq_true zA; obtain ⟨ad377, e377, hx377_0, hx377_1, hx377_2, hx377_3, hx377_4, hx377_5⟩ := at_T136 HR1.out x12_1 p377 q377; obtain rfl : ad376 = ad377 := (by injection e377); replace hx377_0 := (HB.out.cell (World.block_lt_of_cell? w _ hx377_0)).trans hx377_0; replace hx377_1 := (HB.out.cell (World.block_lt_of_cell? w _ hx377_1)).trans hx377_1; replace hx377_2 := (HB.out.cell (World.block_lt_of_cell? w _ hx377_2)).trans hx377_2; replace hx377_3 := (HB.out.cell (World.block_lt_of_cell? w _ hx377_3)).trans hx377_3; replace hx377_4 := (HB.out.cell (World.block_lt_of_cell? w _ hx377_4)).trans hx377_4; replace hx377_5 := (HB.out.cell (World.block_lt_of_cell? w _ hx377_5)).trans hx377_5; replace p377 := eq_true p377; replace q377 := eq_true q377; have p378 : 0 ≤ (x12_1 : Int) := of_decide_eq_true zA; have q378 : x12_1 < (l1.length : Int) := of_decide_eq_true zA; obtain ⟨ad378, e378, hx378_0, hx378_1, hx378_2, hx378_3, hx378_4, hx378_5⟩ := at_T136 HR1.out x12_1 p378 q378; obtain rfl : ad376 = ad378 := (by injection e378); replace hx378_0 := (HB.out.cell (World.block_lt_of_cell? w _ hx378_0)).trans hx378_0; replace hx378_1 := (HB.out.cell (World.block_lt_of_cell? w _ hx378_1)).trans hx378_1; replace hx378_2 := (HB.out.cell (World.block_lt_of_cell? w _ hx378_2)).trans hx378_2; replace hx378_3 := (HB.out.cell (World.block_lt_of_cell? w _ hx378_3)).trans hx378_3; replace hx378_4 := (HB.out.cell (World.block_lt_of_cell? w _ hx378_4)).trans hx378_4; replace hx378_5 := (HB.out.cell (World.block_lt_of_cell? w _ hx378_5)).trans hx378_5; replace p378 := eq_true p378; replace q378 := eq_true q378; go_wp2_with (first | (go_at_call 408; (with_reducible refine (spec_HoldsAt.calls ((rd_T136 l1 x12_1).f0) ((rd_T136 l1 x12_1).f1) ((rd_T136 l1 x12_1).f2) ((rd_T136 l1 x12_1).f3) ((rd_T136 l1 x12_1).f4) ((rd_T136 l1 x12_1).f5) a3 a4 t379 _ A14.out).mono ?_); rintro e w15 ⟨rfl, hb⟩; have n0_ := Aside0.mk (Kd.R_below (zR HO_11) hb); have n1_ := Aside0.mk (below_step zB hb); clear HO_11; clear HB; have HO_11 := n0_; have HB := n1_; clear n0_ n1_; (try clear hb); (try clear hb2); (try clear hk); (try clear hi)))
    go_meet
    case rel => exact ⟨_, (!t379), zT, H', ⟨by have := HK1.out; first | omega | exact Nat.le_refl _⟩, ⟨zR HO_11⟩, ⟨zB⟩⟩
   case rest =>
    clear HC10; (try clear c1); (try clear p2); (try clear p3); (try clear q3); (try clear hx3); (try clear c4); (try clear c6); (try clear c6b0); (try clear c6b1); (try clear c9); (try clear c9b0); (try clear c11); (try clear c11b0); (try clear c12); (try clear c12b0); (try clear c12b1); (try clear c13); (try clear c13b0); (try clear c13b1); (try clear hx376_0); (try clear hx376_1); (try clear hx376_2); (try clear hx376_3); (try clear hx376_4); (try clear hx376_5); (try clear hx377_0); (try clear hx377_1); (try clear hx377_2); (try clear hx377_3); (try clear hx377_4); (try clear hx377_5); (try clear hx378_0); (try clear hx378_1); (try clear hx378_2); (try clear hx378_3); (try clear hx378_4); (try clear hx378_5); (try clear p2); (try clear p376); (try clear p377); (try clear p378); (try clear q376); (try clear q377); (try clear q378); obtain ⟨kq, x48_9, rfl, HA, HJ9, HO_11, HB⟩ := hcut; cases kq with
    | zero => exact absurd HA.out (by simp [spec_RolesOf.j1])
    | succ kj9 =>
     have H := HA.out; clear HA; simp only [spec_RolesOf.j1] at H; by_cases c16 : x48_9 = true
     ·subst c16; have H1 : (spec_RolesOf.l0 kj9 l0 l1 a2 a3 a4 x11_1 (wrap64 (x12_1 + 1))) = some r := by rw [if_pos rfl] at H; exact H
      clear H; have H := H1; clear H1; have H' := Aside0.mk H; clear H; go_wp2; go_roundg kj9
      case measure => have := HK1.out; have := HJ9.out; omega
      case rel => exact ⟨(x11_1), (wrap64 (x12_1 + 1)), zT, H', ⟨by have := HK1.out; have := HJ9.out; omega⟩, ⟨zR HO_11⟩, ⟨zB⟩⟩
     replace c16 := Bool.eq_false_iff.mpr c16; subst c16; have H1 : (if 0 ≤ x12_1 then (if x12_1 < (l1.length : Int) then ((spec_RolesUnder.f kj9 l0 ((rd_T136 l1 x12_1).f2)).bind fun t381 => (spec_RolesOf.l1 kj9 l0 l1 a2 a3 a4 x11_1 x12_1 t381 0)) else (none)) else (none)) = some r := by rw [if_neg (show ¬ (false = true) by decide)] at H; exact H
     clear H; have H := H1; clear H1; replace H := ifN H; obtain ⟨c17, H⟩ := H; have c17b0 := decT c17; clear c17; replace H := ifN H; obtain ⟨c18, H⟩ := H; have c18b0 := decT c18; clear c18; replace H := obs H; obtain ⟨t381, A190, H⟩ := H; (try dsimp only at H); have A19 := Aside0.mk A190; clear A190; have H' := Aside0.mk H; clear H; have p380 : 0 ≤ (x12_1 : Int) := of_decide_eq_true zA; have q380 : x12_1 < (l1.length : Int) := of_decide_eq_true zA; obtain ⟨ad380, e380, hx380_0, hx380_1, hx380_2, hx380_3, hx380_4, hx380_5⟩ := at_T136 HR1.out x12_1 p380 q380; cases e380; replace hx380_0 := (HB.out.cell (World.block_lt_of_cell? w _ hx380_0)).trans hx380_0; replace hx380_1 := (HB.out.cell (World.block_lt_of_cell? w _ hx380_1)).trans hx380_1; replace hx380_2 := (HB.out.cell (World.block_lt_of_cell? w _ hx380_2)).trans hx380_2; replace hx380_3 := (HB.out.cell (World.block_lt_of_cell? w _ hx380_3)).trans hx380_3; replace hx380_4 := (HB.out.cell (World.block_lt_of_cell? w _ hx380_4)).trans hx380_4; replace hx380_5 := (HB.out.cell (World.block_lt_of_cell? w _ hx380_5)).trans hx380_5; replace p380 := eq_true p380; replace q380 := eq_true q380; go_wp2_with (first | ((with_reducible refine gate_callee (f := 338) rfl ?_); refine goesL_ (some 55) rfl rfl Tryz.func338 (by kernel_rfl) rfl #[.slice A0 l0.length c0, .int .i64 ((rd_T136 l1 x12_1).f2)] rfl zM ?_; (with_reducible refine (spec_RolesUnder.calls kj9 _ _ l0 ((rd_T136 l1 x12_1).f2) t381 _ ?side1 ?side2 A19.out).mono ?_); (case side1 => repeat (first | exact (Kd.C_below HR0.out HB.out) | (with_reducible refine Kd.C_alloc ?_ _) | (with_reducible refine Kd.C_drewN ?_ _) | (with_reducible refine Kd.C_drew ?_))); (case side2 => exact HC0.out); rintro e w20 ⟨v382, rfl, ho0, hb⟩; refine ⟨_, rfl, ?_⟩; have n0_ := Aside0.mk (Kd.R_below (zR HO_11) hb); have n1_ := Aside0.mk (Kd.R_lower ho0 (below_size zB)); have n2_ := Aside0.mk (below_step zB hb); clear HO_11; clear HB; have HO_11 := n0_; have HO383 := n1_; have HB := n2_; clear n0_ n1_ n2_; (try clear hb); (try clear hb2); (try clear hk); (try clear hi); (try clear ho0)))
     go_loopg [14] kj9 (fun kq v14 w' => ∃ (x11_3 : List Bool) (x14_3 : Int), v14 = .int .i64 x14_3 ∧ Aside0 (spec_RolesOf.l1 kq l0 l1 a2 a3 a4 x11_3 x12_1 t381 x14_3 = some r) ∧ Aside0 (kq ≤ kj9) ∧ Aside0 (Kd.R Kd.bool 4 w' w.heap.size (fun _ => True) v374 x11_3) ∧ Aside0 (Kd.R (Kd.int .i64) 3 w' w.heap.size (fun _ => True) v382 t381) ∧ Aside0 (Below w.heap.size w w'))
     case atStart => exact ⟨(x11_1), (0), zT, H', ⟨Nat.le_refl _⟩, ⟨zR HO_11⟩, ⟨zR HO383⟩, ⟨zB⟩⟩
     case round =>
      clear H'; (try clear c1); (try clear p2); (try clear c3); (try clear p3); (try clear q3); (try clear hx3); (try clear c4); (try clear c6); (try clear c6b0); (try clear c6b1); (try clear p6); (try clear c9); (try clear c9b0); (try clear c11); (try clear c11b0); (try clear c12); (try clear c12b0); (try clear c12b1); (try clear c13); (try clear c13b0); (try clear c13b1); (try clear c16); (try clear c17); (try clear c17b0); (try clear c18); (try clear c18b0); (try clear hx376_0); (try clear hx376_1); (try clear hx376_2); (try clear hx376_3); (try clear hx376_4); (try clear hx376_5); (try clear hx377_0); (try clear hx377_1); (try clear hx377_2); (try clear hx377_3); (try clear hx377_4); (try clear hx377_5); (try clear hx378_0); (try clear hx378_1); (try clear hx378_2); (try clear hx378_3); (try clear hx378_4); (try clear hx378_5); (try clear hx380_0); (try clear hx380_1); (try clear hx380_2); (try clear hx380_3); (try clear hx380_4); (try clear hx380_5); (try clear p2); (try clear p3); (try clear p376); (try clear p377); (try clear p378); (try clear p380); (try clear q3); (try clear q376); (try clear q377); (try clear q378); (try clear q380); obtain ⟨x11_3, x14_3, rfl, HA, HK3, HO_11, HO_13, HB⟩ := hrel; cases gk with
      | zero => exact absurd HA.out (by simp [spec_RolesOf.l1])
      | succ k3 =>
       have H := HA.out; clear HA; simp only [spec_RolesOf.l1] at H; replace H := ifD H; rcases H with ⟨c21, H⟩ | ⟨c21, H⟩; rotate_left
       ·have c21b0 := decF c21; clear c21; have H' := Aside0.mk H; clear H; obtain ⟨Ao29, co29, eo29⟩ := Kd.R_slice HO_13.out; subst eo29; go_wp2; go_roundg k3
        case measure => have := HK1.out; have := HJ9.out; have := HK3.out; omega
        case rel => exact ⟨(x11_3), (wrap64 (x12_1 + 1)), zT, H', ⟨by have := HK1.out; have := HJ9.out; have := HK3.out; omega⟩, ⟨zR HO_11⟩, ⟨zB⟩⟩
       have c21b0 := decT c21; clear c21; replace H := ifN H; obtain ⟨c22, H⟩ := H; have c22b0 := decT c22; clear c22; replace H := ifN H; obtain ⟨c23, H⟩ := H; have c23b0 := decT c23; clear c23; replace H := ifN H; obtain ⟨c24, H⟩ := H; have c24b0 := decT c24; clear c24; obtain ⟨y385, hy385⟩ : ∃ y_ : List Bool, y_ = (x11_3.set ((rd t381 x14_3) : Int).toNat true) := ⟨_, rfl⟩; replace H : (spec_RolesOf.l1 k3 l0 l1 a2 a3 a4 y385 x12_1 t381 (wrap64 (x14_3 + 1))) = some r := by first | (rw [hy385]; with_reducible exact H) | (have H2_ := (Option.bind_some _ _).symm.trans H; rw [hy385]; with_reducible exact H2_) | (have H2_ := (Option.bind_some _ _).symm.trans H; with_reducible exact H2_) | with_reducible exact H | (rw [hy385]; exact H) | exact H
       have Ny385 := Aside0.mk hy385; clear hy385; have H' := Aside0.mk H; clear H; obtain ⟨Ao26, co26, eo26⟩ := Kd.R_slice HO_13.out; subst eo26; have p384 : 0 ≤ (x14_3 : Int) := of_decide_eq_true zA; have q384 : x14_3 < (t381.length : Int) := of_decide_eq_true zA; obtain ⟨ad384, e384, hx384_0⟩ := Kd.at_int (Kd.R_reads' HO_13.out).2.2 x14_3 p384 q384; cases e384; replace p384 := eq_true p384; replace q384 := eq_true q384; have p25 : 0 ≤ ((rd t381 x14_3) : Int) := of_decide_eq_true zA; have q25 : ((rd t381 x14_3) : Int) < ((x11_3.length : Int) : Int) := of_decide_eq_true zA; obtain ⟨go25, co25, eo25, gb25, gl25, cl25, HG25⟩ := Kd.R_form HO_11.out (by omega); (first | cases eo25 | (injection eo25 with ea_ en_ ec_; (first | subst ea_ | (injection ea_ with ea_; subst ea_)); subst ec_; clear en_)); have GB25 := Aside0.mk gb25; have GG25 := Aside0.mk HG25; clear gb25 gl25 HG25; obtain ⟨hx25_0, hf25_0⟩ := Kd.R_celln false HO_11.out ((rd t381 x14_3) : Int) p25 q25; replace p25 := eq_true p25; replace q25 := eq_true q25; have HP27 := Kd.R_putg HO_11.out ((rd t381 x14_3) : Int) true; go_wp2_with (first | ((with_reducible refine gate_store (t := 4) (p := 67) rfl ?_); refine store_event (t := 4) (p := 67) (v := ?vo_w28) (w1 := (wr.setCell ⟨go25, ((rd t381 x14_3) : Int).toNat, none⟩ (.bool true))) ?hg ?ho ?hn ?hr ?_; (case ho => rfl); (case hg => rfl); (case hn => rfl); (case hr => first | (go_simp; done) | (go_simp; rfl)); intro w28 hw; have hg : wr.grownBy w28 (some go25) := (by rw [hw]; exact HP27.2); have hp_ : Kd.R Kd.bool 4 w28 w.heap.size (fun _ => True) (.slice (some ⟨go25, 0, none⟩) x11_3.length co25) y385 := (by rw [hw, Ny385.out]; exact HP27.1); clear HP27; have n0_ := Aside0.mk (hp_); have n1_ := Aside0.mk (Kd.R_over' (v := (.slice (some ⟨go25, 0, none⟩) x11_3.length co25)) (zR HO_13) (Kd.R_typed HO_11.out) (by decide) hg); have n2_ := Aside0.mk ((by rw [hw]; exact below_set (HB.out) GB25.out : Below w.heap.size w w28)); clear HO_11; clear HO_13; clear HB; have HO_11 := n0_; have HO_13 := n1_; have HB := n2_; clear n0_ n1_ n2_; clear hg hw hp_))
       go_roundg k3
       case measure => have := HK1.out; have := HJ9.out; have := HK3.out; omega
       case rel => exact ⟨(y385), (wrap64 (x14_3 + 1)), zT, H', ⟨by have := HK1.out; have := HJ9.out; have := HK3.out; omega⟩, ⟨zR HO_11⟩, ⟨zR HO_13⟩, ⟨zB⟩⟩
def spec_HasRole.f (k : Nat) (l0 : List (S154)) (l1 : List (S136)) (a2 : Int) (a3 : Int) (a4 : Int) (a5 : Int) : Option (Bool) := (spec_RolesOf.f k l0 l1 a2 a4 a5).bind fun t393 => ((spec_l13Has.f k t393 a3).bind fun t396 => (some t396))
theorem spec_HasRole.calls (k : Nat) (A0 : Option Addr) (c0 : Nat) (l0 : List (S154)) (A1 : Option Addr) (c1 : Nat) (l1 : List (S136)) (a2 : Int) (a3 : Int) (a4 : Int) (a5 : Int) (r : Bool) (w : World) (hr0 : Kd.C k154 w A0 l0.length l0) (hc0 : l0.length ≤ c0) (hr1 : Kd.C k136 w A1 l1.length l1) (hc1 : l1.length ≤ c1) (h : spec_HasRole.f k l0 l1 a2 a3 a4 a5 = some r) :
  Calls Tryz.prog 398 #[.slice A0 l0.length c0, .slice A1 l1.length c1, .int .i64 a2, .int .i64 a3, .int .i64 a4, .int .i64 a5] w fun e w' => e = .returned (.bool r) ∧ Below w.heap.size w w' := by
 have HR0 := Aside0.mk hr0
 have HC0 := Aside0.mk hc0
 clear hr0 hc0
 have HR1 := Aside0.mk hr1
 have HC1 := Aside0.mk hc1
 clear hr1 hc1
 have HB := Aside0.mk (Below.refl w.heap.size w)
 have H := h
 clear h
 unfold spec_HasRole.f at H
 go_enter Tryz.func398, Tryz.ntmps398
 replace H := obs H
 obtain ⟨t393, hm, H⟩ := H
 (try dsimp only at H)
 replace H := Aside0.mk H
 have hcall := spec_RolesOf.calls k _ _ _ _ _ _ _ _ _ _ w (Kd.C_below HR0.out HB.out) HC0.out (Kd.C_below HR1.out HB.out) HC1.out hm
 clear hm
 (go_wp2_with fail)
 refine hcall.mono ?_
 rintro e W1 ⟨v394, rfl, ho0, hb⟩
 clear hcall
 obtain ⟨A1_0, _, c1_0, rfl, rfl, hr_⟩ := R_made ho0 HB.out.size; clear ho0; have HO1_0 := Aside0.mk hr_; clear hr_
 replace HB := bH HB hb; clear hb
 replace H := H.out
 replace H := obs H
 obtain ⟨t396, hm, H⟩ := H
 (try dsimp only at H)
 replace H := Aside0.mk H
 have hcall := spec_l13Has.calls k _ _ _ _ _ W1 (R_C HO1_0.out) (R_len HO1_0.out) hm
 clear hm
 (go_wp2_with fail)
 refine hcall.mono ?_
 rintro e W2 ⟨rfl, hb⟩
 clear hcall
 replace HO1_0 := bR HO1_0 hb
 replace HB := bH HB hb; clear hb
 replace H := H.out
 cases H
 go_wp2
 go_ret
 exact ⟨rfl, HB.out⟩
def spec_FindFact.l0 : Nat → List (S136) → Int → Int → Int → Int → Int → Int → Option (Int)
 | 0, _, _, _, _, _, _, _ => none
 | k + 1, x0, x1, x2, x3, x4, x5, x13 => if x13 < (x0.length : Int) then (if 0 ≤ x13 then (if ((rd_T136 x0 x13).f0) = x1 then (if ((rd_T136 x0 x13).f1) = x2 then (if ((rd_T136 x0 x13).f2) = x3 then ((spec_HoldsAt.f ((rd_T136 x0 x13).f0) ((rd_T136 x0 x13).f1) ((rd_T136 x0 x13).f2) ((rd_T136 x0 x13).f3) ((rd_T136 x0 x13).f4) ((rd_T136 x0 x13).f5) x4 x5).bind fun t401 => (if t401 = true then (some x13) else (spec_FindFact.l0 k x0 x1 x2 x3 x4 x5 (wrap64 (x13 + 1))))) else (spec_FindFact.l0 k x0 x1 x2 x3 x4 x5 (wrap64 (x13 + 1)))) else (spec_FindFact.l0 k x0 x1 x2 x3 x4 x5 (wrap64 (x13 + 1)))) else (spec_FindFact.l0 k x0 x1 x2 x3 x4 x5 (wrap64 (x13 + 1)))) else (none)) else (some (-1))
def spec_FindFact.f (k : Nat) (l0 : List (S136)) (a1 : Int) (a2 : Int) (a3 : Int) (a4 : Int) (a5 : Int) : Option (Int) := spec_FindFact.l0 k l0 a1 a2 a3 a4 a5 0
theorem spec_FindFact.calls (k : Nat) (A0 : Option Addr) (c0 : Nat) (l0 : List (S136)) (a1 : Int) (a2 : Int) (a3 : Int) (a4 : Int) (a5 : Int) (r : Int) (w : World) (hr0 : Kd.C k136 w A0 l0.length l0) (hc0 : l0.length ≤ c0) (h : spec_FindFact.f k l0 a1 a2 a3 a4 a5 = some r) :
  Calls Tryz.prog 399 #[.slice A0 l0.length c0, .int .i64 a1, .int .i64 a2, .int .i64 a3, .int .i64 a4, .int .i64 a5] w fun e w' => e = .returned (.int .i64 r) ∧ Below w.heap.size w w' := by
 have HR0 := Aside0.mk hr0
 have HC0 := Aside0.mk hc0
 clear hr0 hc0
 have HB := Aside0.mk (Below.refl w.heap.size w)
 have H := h
 clear h
 unfold spec_FindFact.f at H
 have hu136 := Tryz.underlying136
 go_enter Tryz.func399, Tryz.ntmps399
 replace H := Aside0.mk H
 go_wp2
 go_loopg [13] k (fun kq v13 w' => ∃ (x13_1 : Int), v13 = .int .i64 x13_1 ∧ Aside0 (spec_FindFact.l0 kq l0 a1 a2 a3 a4 a5 x13_1 = some r) ∧ Aside0 (kq ≤ k) ∧ Aside0 (Below w.heap.size w w'))
 case atStart => exact ⟨(0), zT, H, ⟨Nat.le_refl _⟩, HB⟩
 case round =>
  clear H HB 
  obtain ⟨x13_1, rfl, HA, Hk1, HB⟩ := hrel
  cases gk with
  | zero => exact absurd HA.out (by simp [spec_FindFact.l0])
  | succ k1 =>
   have H := HA.out; clear HA; simp only [spec_FindFact.l0] at H; replace H := ifD H; rcases H with ⟨c2, H⟩ | ⟨c2, H⟩; rotate_left
   ·have c2_0 := decF c2; replace c2 := Aside0.mk c2; (try rw [c2_0]); cases H; go_wp2; go_ret; exact ⟨rfl, HB.out⟩
   have c2_0 := decT c2; replace c2 := Aside0.mk c2; (try rw [c2_0]); replace H := ifN H; obtain ⟨c3, H⟩ := H; have c3_0 := decT c3; replace c3 := Aside0.mk c3; (try rw [c3_0]); have p397 : 0 ≤ (x13_1 : Int) := (of_decide_eq_true (by assumption)); have q397 : x13_1 < (l0.length : Int) := (of_decide_eq_true (by assumption)); obtain ⟨ad397, e397, hx397_0, hx397_1, hx397_2, hx397_3, hx397_4, hx397_5⟩ := at_T136 HR0.out x13_1 p397 q397; cases e397; replace hx397_0 := Aside0.mk hx397_0; have y397_0 := xC HB hx397_0; replace hx397_1 := Aside0.mk hx397_1; have y397_1 := xC HB hx397_1; replace hx397_2 := Aside0.mk hx397_2; have y397_2 := xC HB hx397_2; replace hx397_3 := Aside0.mk hx397_3; have y397_3 := xC HB hx397_3; replace hx397_4 := Aside0.mk hx397_4; have y397_4 := xC HB hx397_4; replace hx397_5 := Aside0.mk hx397_5; have y397_5 := xC HB hx397_5; have r397 := eq_true p397; have s397 := eq_true q397; replace p397 := Aside0.mk p397; replace q397 := Aside0.mk q397; replace H := ifD H; rcases H with ⟨c4, H⟩ | ⟨c4, H⟩; rotate_left
   ·obtain ⟨c4_0, c4_1, c4_2⟩ := d3F c4; clear c4; (first | rw [c4_1] | rw [c4_2] | skip); replace H := Aside0.mk H; go_wp2; go_roundg k1
    case measure => have := Hk1.out; omega
    case rel => exact ⟨(wrap64 (x13_1 + 1)), zT, H, ⟨by have := Hk1.out; omega⟩, HB⟩
   obtain ⟨c4_0, c4_1, c4_2⟩ := d3T c4; clear c4; (first | rw [c4_1] | rw [c4_2] | skip); replace H := ifD H; rcases H with ⟨c5, H⟩ | ⟨c5, H⟩; rotate_left
   ·obtain ⟨c5_0, c5_1, c5_2⟩ := d3F c5; clear c5; (first | rw [c5_1] | rw [c5_2] | skip); replace H := Aside0.mk H; go_wp2; go_roundg k1
    case measure => have := Hk1.out; omega
    case rel => exact ⟨(wrap64 (x13_1 + 1)), zT, H, ⟨by have := Hk1.out; omega⟩, HB⟩
   obtain ⟨c5_0, c5_1, c5_2⟩ := d3T c5; clear c5; (first | rw [c5_1] | rw [c5_2] | skip); replace H := ifD H; rcases H with ⟨c6, H⟩ | ⟨c6, H⟩; rotate_left
   ·obtain ⟨c6_0, c6_1, c6_2⟩ := d3F c6; clear c6; (first | rw [c6_1] | rw [c6_2] | skip); replace H := Aside0.mk H; go_wp2; go_roundg k1
    case measure => have := Hk1.out; omega
    case rel => exact ⟨(wrap64 (x13_1 + 1)), zT, H, ⟨by have := Hk1.out; omega⟩, HB⟩
   obtain ⟨c6_0, c6_1, c6_2⟩ := d3T c6; clear c6; (first | rw [c6_1] | rw [c6_2] | skip); replace H := obs H; obtain ⟨t401, hm, H⟩ := H; (try dsimp only at H); replace H := Aside0.mk H; have hcall := spec_HoldsAt.calls _ _ _ _ _ _ _ _ _ wr  hm; clear hm; (go_wp2_with fail)
   refine hcall.mono ?_; rintro e W7 ⟨rfl, hb⟩; clear hcall; (try clear y397_0 y397_1 y397_2 y397_3 y397_4 y397_5); replace HB := bH HB hb; clear hb; replace H := ifD H.out; rcases H with ⟨c8, H⟩ | ⟨c8, H⟩
   ·subst c8; cases H; go_wp2; go_ret; exact ⟨rfl, HB.out⟩
   replace c8 := nT c8; subst c8; replace H := Aside0.mk H; go_wp2; go_roundg k1
   case measure => have := Hk1.out; omega
   case rel => exact ⟨(wrap64 (x13_1 + 1)), zT, H, ⟨by have := Hk1.out; omega⟩, HB⟩
def spec_Max.f (a0 : Int) (a1 : Int) : Option (Int) := if a1 > a0 then (some a1) else (some a0)
theorem spec_Max.calls (a0 : Int) (a1 : Int) (r : Int) (w : World) (h : spec_Max.f a0 a1 = some r) :
  Calls Tryz.prog 274 #[.int .i64 a0, .int .i64 a1] w fun e w' => e = .returned (.int .i64 r) ∧ Below w.heap.size w w' := by
 have HB := Aside0.mk (Below.refl w.heap.size w)
 have H := h
 clear h
 unfold spec_Max.f at H
 go_enter Tryz.func274, Tryz.ntmps274
 replace H := ifD H; rcases H with ⟨c1, H⟩ | ⟨c1, H⟩
 ·replace c1 : a0 < a1 := c1
  have c1_0 := decT c1
  replace c1 := Aside0.mk c1
  (try rw [c1_0])
  cases H
  go_wp2
  go_ret
  exact ⟨rfl, HB.out⟩
 replace c1 : ¬ (a0 < a1) := c1
 have c1_0 := decF c1
 replace c1 := Aside0.mk c1
 (try rw [c1_0])
 cases H
 go_wp2
 go_ret
 exact ⟨rfl, HB.out⟩
def spec_BestValue.l0 : Nat → List (S136) → Int → Int → Int → Int → Int → Int → Option (Int)
 | 0, _, _, _, _, _, _, _ => none
 | k + 1, x0, x1, x2, x3, x4, x11, x12 => if x12 < (x0.length : Int) then (if 0 ≤ x12 then (if ((rd_T136 x0 x12).f0) = x1 then (if ((rd_T136 x0 x12).f1) = x2 then ((spec_HoldsAt.f ((rd_T136 x0 x12).f0) ((rd_T136 x0 x12).f1) ((rd_T136 x0 x12).f2) ((rd_T136 x0 x12).f3) ((rd_T136 x0 x12).f4) ((rd_T136 x0 x12).f5) x3 x4).bind fun t405 => (if t405 = true then ((spec_Max.f x11 ((rd_T136 x0 x12).f2)).bind fun t407 => (spec_BestValue.l0 k x0 x1 x2 x3 x4 t407 (wrap64 (x12 + 1)))) else (spec_BestValue.l0 k x0 x1 x2 x3 x4 x11 (wrap64 (x12 + 1))))) else (spec_BestValue.l0 k x0 x1 x2 x3 x4 x11 (wrap64 (x12 + 1)))) else (spec_BestValue.l0 k x0 x1 x2 x3 x4 x11 (wrap64 (x12 + 1)))) else (none)) else (some x11)
def spec_BestValue.f (k : Nat) (l0 : List (S136)) (a1 : Int) (a2 : Int) (a3 : Int) (a4 : Int) : Option (Int) := spec_BestValue.l0 k l0 a1 a2 a3 a4 (-1) 0
theorem spec_BestValue.calls (k : Nat) (A0 : Option Addr) (c0 : Nat) (l0 : List (S136)) (a1 : Int) (a2 : Int) (a3 : Int) (a4 : Int) (r : Int) (w : World) (hr0 : Kd.C k136 w A0 l0.length l0) (hc0 : l0.length ≤ c0) (h : spec_BestValue.f k l0 a1 a2 a3 a4 = some r) :
  Calls Tryz.prog 400 #[.slice A0 l0.length c0, .int .i64 a1, .int .i64 a2, .int .i64 a3, .int .i64 a4] w fun e w' => e = .returned (.int .i64 r) ∧ Below w.heap.size w w' := by
 have HR0 := Aside0.mk hr0
 have HC0 := Aside0.mk hc0
 clear hr0 hc0
 have HB := Aside0.mk (Below.refl w.heap.size w)
 have H := h
 clear h
 unfold spec_BestValue.f at H
 have hu136 := Tryz.underlying136
 go_enter Tryz.func400, Tryz.ntmps400
 replace H := Aside0.mk H
 go_wp2
 go_loopg [11, 12] k (fun kq v11 v12 w' => ∃ (x11_1 : Int) (x12_1 : Int), v11 = .int .i64 x11_1 ∧ v12 = .int .i64 x12_1 ∧ Aside0 (spec_BestValue.l0 kq l0 a1 a2 a3 a4 x11_1 x12_1 = some r) ∧ Aside0 (kq ≤ k) ∧ Aside0 (Below w.heap.size w w'))
 case atStart => exact ⟨((-1)), (0), zT, zT, H, ⟨Nat.le_refl _⟩, HB⟩
 case round =>
  clear H HB 
  obtain ⟨x11_1, x12_1, rfl, rfl, HA, Hk1, HB⟩ := hrel
  cases gk with
  | zero => exact absurd HA.out (by simp [spec_BestValue.l0])
  | succ k1 =>
   have H := HA.out; clear HA; simp only [spec_BestValue.l0] at H; replace H := ifD H; rcases H with ⟨c2, H⟩ | ⟨c2, H⟩; rotate_left
   ·have c2_0 := decF c2; replace c2 := Aside0.mk c2; (try rw [c2_0]); cases H; go_wp2; go_ret; exact ⟨rfl, HB.out⟩
   have c2_0 := decT c2; replace c2 := Aside0.mk c2; (try rw [c2_0]); replace H := ifN H; obtain ⟨c3, H⟩ := H; have c3_0 := decT c3; replace c3 := Aside0.mk c3; (try rw [c3_0]); have p402 : 0 ≤ (x12_1 : Int) := (of_decide_eq_true (by assumption)); have q402 : x12_1 < (l0.length : Int) := (of_decide_eq_true (by assumption)); obtain ⟨ad402, e402, hx402_0, hx402_1, hx402_2, hx402_3, hx402_4, hx402_5⟩ := at_T136 HR0.out x12_1 p402 q402; cases e402; replace hx402_0 := Aside0.mk hx402_0; have y402_0 := xC HB hx402_0; replace hx402_1 := Aside0.mk hx402_1; have y402_1 := xC HB hx402_1; replace hx402_2 := Aside0.mk hx402_2; have y402_2 := xC HB hx402_2; replace hx402_3 := Aside0.mk hx402_3; have y402_3 := xC HB hx402_3; replace hx402_4 := Aside0.mk hx402_4; have y402_4 := xC HB hx402_4; replace hx402_5 := Aside0.mk hx402_5; have y402_5 := xC HB hx402_5; have r402 := eq_true p402; have s402 := eq_true q402; replace p402 := Aside0.mk p402; replace q402 := Aside0.mk q402; replace H := ifD H; rcases H with ⟨c4, H⟩ | ⟨c4, H⟩; rotate_left
   ·obtain ⟨c4_0, c4_1, c4_2⟩ := d3F c4; clear c4; (first | rw [c4_1] | rw [c4_2] | skip); replace H := Aside0.mk H; go_wp2; go_roundg k1
    case measure => have := Hk1.out; omega
    case rel => exact ⟨(x11_1), (wrap64 (x12_1 + 1)), zT, zT, H, ⟨by have := Hk1.out; omega⟩, HB⟩
   obtain ⟨c4_0, c4_1, c4_2⟩ := d3T c4; clear c4; (first | rw [c4_1] | rw [c4_2] | skip); replace H := ifD H; rcases H with ⟨c5, H⟩ | ⟨c5, H⟩; rotate_left
   ·obtain ⟨c5_0, c5_1, c5_2⟩ := d3F c5; clear c5; (first | rw [c5_1] | rw [c5_2] | skip); replace H := Aside0.mk H; go_wp2; go_roundg k1
    case measure => have := Hk1.out; omega
    case rel => exact ⟨(x11_1), (wrap64 (x12_1 + 1)), zT, zT, H, ⟨by have := Hk1.out; omega⟩, HB⟩
   obtain ⟨c5_0, c5_1, c5_2⟩ := d3T c5; clear c5; (first | rw [c5_1] | rw [c5_2] | skip); replace H := obs H; obtain ⟨t405, hm, H⟩ := H; (try dsimp only at H); replace H := Aside0.mk H; have hcall := spec_HoldsAt.calls _ _ _ _ _ _ _ _ _ wr  hm; clear hm; (go_wp2_with fail)
   refine hcall.mono ?_; rintro e W6 ⟨rfl, hb⟩; clear hcall; (try clear y402_0 y402_1 y402_2 y402_3 y402_4 y402_5); replace HB := bH HB hb; clear hb; replace H := ifD H.out; rcases H with ⟨c7, H⟩ | ⟨c7, H⟩; rotate_left
   ·replace c7 := nT c7; subst c7; replace H := Aside0.mk H; go_wp2; go_roundg k1
    case measure => have := Hk1.out; omega
    case rel => exact ⟨(x11_1), (wrap64 (x12_1 + 1)), zT, zT, H, ⟨by have := Hk1.out; omega⟩, HB⟩
   subst c7; have y402_0 := xC HB hx402_0; have y402_1 := xC HB hx402_1; have y402_2 := xC HB hx402_2; have y402_3 := xC HB hx402_3; have y402_4 := xC HB hx402_4; have y402_5 := xC HB hx402_5; replace H := obs H; obtain ⟨t407, hm, H⟩ := H; (try dsimp only at H); replace H := Aside0.mk H; have hcall := spec_Max.calls _ _ _ W6  hm; clear hm; (go_wp2_with fail)
   refine hcall.mono ?_; rintro e W8 ⟨rfl, hb⟩; clear hcall; (try clear y402_0 y402_1 y402_2 y402_3 y402_4 y402_5); replace HB := bH HB hb; clear hb; go_wp2; go_roundg k1
   case measure => have := Hk1.out; omega
   case rel => exact ⟨(t407), (wrap64 (x12_1 + 1)), zT, zT, H, ⟨by have := Hk1.out; omega⟩, HB⟩
end Go.Proofs.YtmgfklmhelabcaaGreat.QFnExactSaveDecision
