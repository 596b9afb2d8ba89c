/- The machine side of FnExactSaveDecision: what each function that it reaches computes, and that the machine's call gives just that. -/
import Derived.Test.YtmgfklmhelabcaaGreatQFnExactSaveDecisionx0
import Derived.Test.YtmgfklmhelabcaaGreatQFnExactSaveDecisionx2
namespace Go.Proofs.YtmgfklmhelabcaaGreat.QFnExactSaveDecision
open Go.RowKit Go.Proofs.YtmgfklmhelabcaaGreatW.PrintWords Go.Proofs.YtmgfklmhelabcaaGreatW.PrintLast Go.Proofs.YtmgfklmhelabcaaGreatW.PrintMore
attribute [local go_sem] max2_int min2_int max_two min_two max_three min_three max_four min_four
set_option maxHeartbeats 8000000
set_option maxRecDepth 100000
open Go.Proofs.YtmgfklmhelabcaaGreatM
set_option linter.unusedVariables false
set_option linter.unusedSimpArgs false
mutual
def spec_RolesUnder.l0 : Nat → List (S154) → List Int → List Bool → Int → Option (List Int)
 | 0, _, _, _, _ => none
 | k + 1, x0, x5, x6, x7 => if x7 ≤ 5 then (spec_RolesUnder.l1 k x0 x5 x6 x7 0) else (spec_RolesUnder.l2 k x5 x6 0)
def spec_RolesUnder.l1 : Nat → List (S154) → List Int → List Bool → Int → Int → Option (List Int)
 | 0, _, _, _, _, _ => none
 | k + 1, x0, x5, x6, x7, x8 => if x8 < (x0.length : Int) then (if 0 ≤ x8 then ((spec_l1In.f ((rd_T154 x0 x8).f0) 0 5).bind fun t331 => (if t331 = true then ((spec_l1In.f ((rd_T154 x0 x8).f1) 0 5).bind fun t333 => (if t333 = true then (if 0 ≤ ((rd_T154 x0 x8).f0) then (if ((rd_T154 x0 x8).f0) < (x6.length : Int) then (spec_RolesUnder.j2 k x0 x5 x6 x7 x8 (rdOf false x6 ((rd_T154 x0 x8).f0))) else (none)) else (none)) else (spec_RolesUnder.j2 k x0 x5 x6 x7 x8 false))) else (spec_RolesUnder.j2 k x0 x5 x6 x7 x8 false))) else (none)) else (spec_RolesUnder.l0 k x0 x5 x6 (wrap64 (x7 + 1)))
def spec_RolesUnder.j2 : Nat → List (S154) → List Int → List Bool → Int → Int → Bool → Option (List Int)
 | 0, _, _, _, _, _, _ => none
 | k + 1, x0, x5, x6, x7, x8, x52 => if x52 = true then (if 0 ≤ x8 then (if x8 < (x0.length : Int) then (if 0 ≤ ((rd_T154 x0 x8).f1) then (if ((rd_T154 x0 x8).f1) < (x6.length : Int) then (spec_RolesUnder.l1 k x0 x5 (x6.set (((rd_T154 x0 x8).f1) : Int).toNat true) x7 (wrap64 (x8 + 1))) else (none)) else (none)) else (none)) else (none)) else (spec_RolesUnder.l1 k x0 x5 x6 x7 (wrap64 (x8 + 1)))
def spec_RolesUnder.l2 : Nat → List Int → List Bool → Int → Option (List Int)
 | 0, _, _, _ => none
 | k + 1, x5, x6, x9 => if x9 ≤ 5 then (if 0 ≤ x9 then (if x9 < (x6.length : Int) then (if rdOf false x6 x9 = true then (if x5.length < 17592186044416 then (spec_RolesUnder.l2 k (x5 ++ [x9]) x6 (wrap64 (x9 + 1))) else (none)) else (spec_RolesUnder.l2 k x5 x6 (wrap64 (x9 + 1)))) else (none)) else (none)) else (some x5)
end
def spec_RolesUnder.f (k : Nat) (l0 : List (S154)) (a1 : Int) : Option (List Int) := (some (([] : List Int) : List Int)).bind fun y322 => ((spec_l1In.f a1 0 5).bind fun t325 => (if t325 = true then (if 6 ≤ 281474976710656 then ((some (List.replicate 6 false : List Bool)).bind fun y326 => (if 0 ≤ a1 then (if a1 < (y326.length : Int) then (spec_RolesUnder.l0 k l0 y322 (y326.set (a1 : Int).toNat true) 0) else (none)) else (none))) else (none)) else (some y322)))
theorem spec_RolesUnder.calls (k : Nat) (A0 : Option Addr) (c0 : Nat) (l0 : List (S154)) (a1 : Int) (r : List Int) (w : World) (hr0 : Kd.C k154 w A0 l0.length l0) (hc0 : l0.length ≤ c0) (h : spec_RolesUnder.f k l0 a1 = some r) :
  Calls Tryz.prog 338 #[.slice A0 l0.length c0, .int .i64 a1] w fun e w' => ∃ v0_ : Value, e = .returned (v0_) ∧ Kd.R (Kd.int .i64) 3 w' w.heap.size (fun _ => True) v0_ r ∧ Below w.heap.size w w' := by
 have HR0 := Aside0.mk hr0
 have HC0 := Aside0.mk hc0
 clear hr0 hc0
 have HB := Aside0.mk (Below.refl w.heap.size w)
 (try unfold spec_RolesUnder.f at h)
 have H := h
 clear h
 obtain ⟨y322, hy322⟩ : ∃ y_ : List Int, y_ = (([] : List Int)) := ⟨_, rfl⟩
 replace H : ((spec_l1In.f a1 0 5).bind fun t325 => (if t325 = true then (if 6 ≤ 281474976710656 then ((some (List.replicate 6 false : List Bool)).bind fun y326 => (if 0 ≤ a1 then (if a1 < (y326.length : Int) then (spec_RolesUnder.l0 k l0 y322 (y326.set (a1 : Int).toNat true) 0) else (none)) else (none))) else (none)) else (some y322))) = some r := by first | (rw [hy322]; with_reducible exact H) | (have H2_ := (Option.bind_some _ _).symm.trans H; rw [hy322]; with_reducible exact H2_) | (have H2_ := (Option.bind_some _ _).symm.trans H; with_reducible exact H2_) | with_reducible exact H | (rw [hy322]; exact H) | exact H
 have Ny322 := Aside0.mk hy322
 clear hy322
 replace H := obs H
 obtain ⟨t325, A30, H⟩ := H
 (try dsimp only at H)
 have A3 := Aside0.mk A30
 clear A30
 by_cases c4 : t325 = true
 rotate_left
 ·replace c4 := Bool.eq_false_iff.mpr c4
  subst c4
  have H1 : (some y322) = some r := by rw [if_neg (show ¬ (false = true) by decide)] at H; exact H
  clear H
  have H := H1
  clear H1
  obtain rfl := Option.some.inj H
  go_enter Tryz.func338, Tryz.ntmps338
  go_wp2_with (first | ((with_reducible refine gate_dst (N := 10) rfl ?_); refine Kd.R_lit (Kd.int .i64) _ 3 ?hg (N := 10) ?hd (xs := ([] : List Int)) (inner := []) (ok := fun _ => True) (okp := fun _ => True) ?hr ?hp (fun _ hk => hk) trivial (Below.refl _ _) (Nat.le_refl _) (by simp) ?_; (case hd => rfl); (case hg => rfl); (case hr => first | (go_simp; done) | (go_simp; rfl)); (case hp => exact (Reps.none _ _)); intro v323 w46 ho47 hb hg_ hnew_; clear hg_ hnew_; (first | rw [← Ny322.out] at ho47 | (simp only [Int.reduceToNat] at ho47; rw [← Ny322.out] at ho47)); have n0_ := Aside0.mk (Kd.R_lower ho47 (below_size zB)); have n1_ := Aside0.mk (below_step zB hb); clear HB; have HO324 := n0_; have HB := n1_; clear n0_ n1_; clear hb ho47) | ((with_reducible refine gate_callee (f := 93) rfl ?_); refine goesL_ (some 12) rfl rfl Tryz.func93 (by kernel_rfl) rfl #[.int .i64 a1, .int .i64 0, .int .i64 5] rfl zM ?_; (with_reducible refine (spec_l1In.calls a1 0 5 false _ A3.out).mono ?_); rintro e w48 ⟨rfl, hb⟩; refine ⟨_, rfl, ?_⟩; have n0_ := Aside0.mk (Kd.R_below (zR HO324) hb); have n1_ := Aside0.mk (below_step zB hb); clear HO324; clear HB; have HO324 := n0_; have HB := n1_; clear n0_ n1_; (try clear hb); (try clear hb2); (try clear hk); (try clear hi)))
  go_ret
  exact ⟨_, zE, zR HO324, zB⟩
 subst c4
 have H1 : (if 6 ≤ 281474976710656 then ((some (List.replicate 6 false : List Bool)).bind fun y326 => (if 0 ≤ a1 then (if a1 < (y326.length : Int) then (spec_RolesUnder.l0 k l0 y322 (y326.set (a1 : Int).toNat true) 0) else (none)) else (none))) else (none)) = some r := by rw [if_pos rfl] at H; exact H
 clear H
 have H := H1
 clear H1
 replace H := ifN H; obtain ⟨c5, H⟩ := H
 have c5b0 := eq_true c5
 have c5b1 := decT c5
 clear c5
 obtain ⟨y326, hy326⟩ : ∃ y_ : List Bool, y_ = (List.replicate 6 false) := ⟨_, rfl⟩
 replace H : (if 0 ≤ a1 then (if a1 < (y326.length : Int) then (spec_RolesUnder.l0 k l0 y322 (y326.set (a1 : Int).toNat true) 0) else (none)) else (none)) = some r := by first | (rw [hy326]; with_reducible exact H) | (have H2_ := (Option.bind_some _ _).symm.trans H; rw [hy326]; with_reducible exact H2_) | (have H2_ := (Option.bind_some _ _).symm.trans H; with_reducible exact H2_) | with_reducible exact H | (rw [hy326]; exact H) | exact H
 have Ny326 := Aside0.mk hy326
 clear hy326
 replace H := ifN H; obtain ⟨c6, H⟩ := H
 have c6b0 := decT c6
 clear c6
 replace H := ifN H; obtain ⟨c7, H⟩ := H
 have c7b0 := decT c7
 clear c7
 obtain ⟨y329, hy329⟩ : ∃ y_ : List Bool, y_ = (y326.set (a1 : Int).toNat true) := ⟨_, rfl⟩
 replace H : (spec_RolesUnder.l0 k l0 y322 y329 0) = some r := by first | (rw [hy329]; with_reducible exact H) | (have H2_ := (Option.bind_some _ _).symm.trans H; rw [hy329]; with_reducible exact H2_) | (have H2_ := (Option.bind_some _ _).symm.trans H; with_reducible exact H2_) | with_reducible exact H | (rw [hy329]; exact H) | exact H
 have Ny329 := Aside0.mk hy329
 clear hy329
 have H' := Aside0.mk H
 clear H
 go_enter Tryz.func338, Tryz.ntmps338
 go_wp2_with (first | ((with_reducible refine gate_dst (N := 10) rfl ?_); refine Kd.R_lit (Kd.int .i64) _ 3 ?hg (N := 10) ?hd (xs := ([] : List Int)) (inner := []) (ok := fun _ => True) (okp := fun _ => True) ?hr ?hp (fun _ hk => hk) trivial (Below.refl _ _) (Nat.le_refl _) (by simp) ?_; (case hd => rfl); (case hg => rfl); (case hr => first | (go_simp; done) | (go_simp; rfl)); (case hp => exact (Reps.none _ _)); intro v323 w9 ho10 hb hg_ hnew_; clear hg_ hnew_; (first | rw [← Ny322.out] at ho10 | (simp only [Int.reduceToNat] at ho10; rw [← Ny322.out] at ho10)); have n0_ := Aside0.mk (Kd.R_lower ho10 (below_size zB)); have n1_ := Aside0.mk (below_step zB hb); clear HB; have HO324 := n0_; have HB := n1_; clear n0_ n1_; clear hb ho10) | ((with_reducible refine gate_callee (f := 93) rfl ?_); refine goesL_ (some 12) rfl rfl Tryz.func93 (by kernel_rfl) rfl #[.int .i64 a1, .int .i64 0, .int .i64 5] rfl zM ?_; (with_reducible refine (spec_l1In.calls a1 0 5 true _ A3.out).mono ?_); rintro e w11 ⟨rfl, hb⟩; refine ⟨_, rfl, ?_⟩; have n0_ := Aside0.mk (Kd.R_below (zR HO324) hb); have n1_ := Aside0.mk (below_step zB hb); clear HO324; clear HB; have HO324 := n0_; have HB := n1_; clear n0_ n1_; (try clear hb); (try clear hb2); (try clear hk); (try clear hi)) | ((with_reducible refine gate_dst (N := 15) rfl ?_); refine Kd.R_make Kd.bool _ 4 rfl (N := 15) rfl 339 _ _ rfl 6 rfl rfl Tryz.underlying339 (.bool false) 1 info4 rfl (by decide) (by omega) false (ok := fun _ => True) (okp := fun _ => True) rfl (fun _ hk => hk) trivial (by omega) (by omega) (Below.refl _ _) (Nat.le_refl _) ?_; intro v327 w12 ho13 hb hg_ hnew_; clear hg_ hnew_; (first | rw [← Ny326.out] at ho13 | (simp only [Int.reduceToNat] at ho13; rw [← Ny326.out] at ho13)); have n0_ := Aside0.mk (Kd.R_below (zR HO324) hb); have n1_ := Aside0.mk (Kd.R_lower ho13 (below_size zB)); have n2_ := Aside0.mk (below_step zB hb); clear HO324; clear HB; have HO324 := n0_; have HO328 := n1_; have HB := n2_; clear n0_ n1_ n2_; clear hb ho13; have p8 : 0 ≤ (a1 : Int) := of_decide_eq_true zA; have q8 : (a1 : Int) < ((y326.length : Int) : Int) := of_decide_eq_true zA; obtain ⟨go8, co8, eo8, gb8, gl8, cl8, HG8⟩ := Kd.R_form HO328.out (by omega); (first | cases eo8 | (injection eo8 with ea_ en_ ec_; (first | subst ea_ | (injection ea_ with ea_; subst ea_)); subst ec_; clear en_)); have GB8 := Aside0.mk gb8; have GG8 := Aside0.mk HG8; clear gb8 gl8 HG8; obtain ⟨hx8_0, hf8_0⟩ := Kd.R_celln false HO328.out (a1 : Int) p8 q8; replace p8 := eq_true p8; replace q8 := eq_true q8; obtain ⟨hy14_, hz14_⟩ := Kd.R_celln false HO328.out (a1 : Int) (of_decide_eq_true zA) (of_decide_eq_true zA); have HP14 := Kd.R_putg HO328.out (a1 : Int) true) | ((with_reducible refine gate_store (t := 4) (p := 18) rfl ?_); refine store_event (t := 4) (p := 18) (v := ?vo_w15) (w1 := (w12.setCell ⟨go8, (a1 : Int).toNat, none⟩ (.bool true))) ?hg ?ho ?hn ?hr ?_; (case ho => rfl); (case hg => rfl); (case hn => rfl); (case hr => first | (go_simp; done) | (go_simp; rfl)); intro w15 hw; have hg : w12.grownBy w15 (some go8) := (by rw [hw]; exact HP14.2); have hp_ : Kd.R Kd.bool 4 w15 w.heap.size (fun _ => True) (.slice (some ⟨go8, 0, none⟩) y326.length co8) y329 := (by rw [hw, Ny329.out]; exact HP14.1); clear HP14; have n0_ := Aside0.mk (Kd.R_over' (v := (.slice (some ⟨go8, 0, none⟩) y326.length co8)) (zR HO324) (Kd.R_typed HO328.out) (by decide) hg); have n1_ := Aside0.mk (hp_); have n2_ := Aside0.mk ((by rw [hw]; exact below_set (HB.out) GB8.out : Below w.heap.size w w15)); clear HO324; clear HO328; clear HB; have HO324 := n0_; have HO328 := n1_; have HB := n2_; clear n0_ n1_ n2_; clear hg hw hp_))
 go_loopg [7] k (fun kq v7 w' => ∃ (x6_1 : List Bool) (x7_1 : Int), v7 = .int .i64 x7_1 ∧ Aside0 (spec_RolesUnder.l0 kq l0 y322 x6_1 x7_1 = some r) ∧ Aside0 (kq ≤ k) ∧ Aside0 (Kd.R (Kd.int .i64) 3 w' w.heap.size (fun _ => True) v323 y322) ∧ Aside0 (Kd.R Kd.bool 4 w' w.heap.size (fun _ => True) (.slice (some ⟨go8, 0, none⟩) y326.length co8) x6_1) ∧ Aside0 (Below w.heap.size w w'))
 case atStart => exact ⟨(y329), (0), zT, H', ⟨Nat.le_refl _⟩, ⟨zR HO324⟩, ⟨zR HO328⟩, ⟨zB⟩⟩
 case round =>
  clear H'
  (try clear p2)
  (try clear c3)
  (try clear c4)
  (try clear c5)
  (try clear c5b0)
  (try clear c5b1)
  (try clear c6)
  (try clear c6b0)
  (try clear c7)
  (try clear c7b0)
  (try clear p8)
  (try clear q8)
  (try clear hx8)
  (try clear hf8)
  (try clear c9)
  (try clear hx8_0)
  (try clear p8)
  (try clear q8)
  obtain ⟨x6_1, x7_1, rfl, HA, HK1, HO_5, HO_6, HB⟩ := hrel
  have hl6_1 := (Kd.R_reads' HO_6.out).1
  rw [hl6_1] at HO_6
  (try simp only [hl6_1])
  (try simp only [hl6_1] at HO_5)
  cases gk with
  | zero => exact absurd HA.out (by simp [spec_RolesUnder.l0])
  | succ k1 =>
   have H := HA.out; clear HA; simp only [spec_RolesUnder.l0] at H; replace H := ifD H; rcases H with ⟨c16, H⟩ | ⟨c16, H⟩; rotate_left
   ·have c16b0 := decF c16; clear c16; have H' := Aside0.mk H; clear H; go_wp2; go_loopg [5, 9] k1 (fun kq v5 v9 w' => ∃ (x5_2 : List Int) (x9_2 : Int), v9 = .int .i64 x9_2 ∧ Aside0 (spec_RolesUnder.l2 kq x5_2 x6_1 x9_2 = some r) ∧ Aside0 (kq ≤ k1) ∧ Aside0 (Kd.R (Kd.int .i64) 3 w' w.heap.size (fun _ => True) v5 x5_2) ∧ Aside0 (Kd.R Kd.bool 4 w' w.heap.size (fun _ => True) (.slice (some ⟨go8, 0, none⟩) x6_1.length co8) x6_1) ∧ Aside0 (Below w.heap.size w w'))
    case atStart => exact ⟨(y322), (0), zT, H', ⟨Nat.le_refl _⟩, ⟨by (try simp only [hl6_1]); (with_reducible repeat (first | apply Kd.R_alloc | apply Kd.R_drewN | apply Kd.R_drew)); exact HO_5.out⟩, ⟨by (try simp only [hl6_1]); (with_reducible repeat (first | apply Kd.R_alloc | apply Kd.R_drewN | apply Kd.R_drew)); exact HO_6.out⟩, ⟨zB⟩⟩
    case round =>
     clear H'; (try clear c1); (try clear c2); (try clear p2); (try clear c3); (try clear p3); (try clear q3); (try clear hx3); (try clear hf3); (try clear c4); (try clear c5); (try clear c5b0); (try clear c5b1); (try clear c6); (try clear c6b0); (try clear p6); (try clear c7); (try clear c7b0); (try clear p8); (try clear q8); (try clear hx8); (try clear hf8); (try clear c9); (try clear c16); (try clear c16b0); (try clear c17); (try clear c17b0); (try clear c19); (try clear c19b0); (try clear c21); (try clear c23); (try clear c24); (try clear c24b0); (try clear c25); (try clear c25b0); (try clear c31); (try clear c32); (try clear c32b0); (try clear c33); (try clear c33b0); (try clear p33); (try clear q33); (try clear hx33); (try clear c34); (try clear c34b0); (try clear c35); (try clear c35b0); (try clear p36); (try clear q36); (try clear hx36); (try clear hf36); (try clear hx330_0); (try clear hx330_1); (try clear hx332_0); (try clear hx332_1); (try clear hx334_0); (try clear hx334_1); (try clear hx335_0); (try clear hx336_0); (try clear hx336_1); (try clear hx36_0); (try clear hx8_0); (try clear p2); (try clear p3); (try clear p330); (try clear p332); (try clear p334); (try clear p335); (try clear p336); (try clear p36); (try clear p8); (try clear q3); (try clear q330); (try clear q332); (try clear q334); (try clear q335); (try clear q336); (try clear q36); (try clear q8); obtain ⟨x5_2, x9_2, rfl, HA, HK2, HO_5, HO_6, HB⟩ := hrel; cases gk with
     | zero => exact absurd HA.out (by simp [spec_RolesUnder.l2])
     | succ k2 =>
      have H := HA.out; clear HA; simp only [spec_RolesUnder.l2] at H; replace H := ifD H; rcases H with ⟨c39, H⟩ | ⟨c39, H⟩; rotate_left
      ·have c39b0 := decF c39; clear c39; obtain rfl := Option.some.inj H; go_wp2; go_ret; exact ⟨_, zE, zR HO_5, zB⟩
      have c39b0 := decT c39; clear c39; replace H := ifN H; obtain ⟨c40, H⟩ := H; have c40b0 := decT c40; clear c40; replace H := ifN H; obtain ⟨c41, H⟩ := H; have c41b0 := decT c41; clear c41; obtain ⟨bq42, hbq42⟩ : ∃ b_ : Bool, b_ = (rdOf false x6_1 x9_2) := ⟨_, rfl⟩; replace H : (if bq42 = true then (if x5_2.length < 17592186044416 then (spec_RolesUnder.l2 k2 (x5_2 ++ [x9_2]) x6_1 (wrap64 (x9_2 + 1))) else (none)) else (spec_RolesUnder.l2 k2 x5_2 x6_1 (wrap64 (x9_2 + 1)))) = some r := by rw [← hbq42] at H; exact H
      have Nbq42 := Aside0.mk hbq42; clear hbq42; by_cases c43 : bq42 = true
      rotate_left
      ·replace c43 := Bool.eq_false_iff.mpr c43; subst c43; have H1 : (spec_RolesUnder.l2 k2 x5_2 x6_1 (wrap64 (x9_2 + 1))) = some r := by rw [if_neg (show ¬ (false = true) by decide)] at H; exact H
       clear H; have H := H1; clear H1; have H' := Aside0.mk H; clear H; have p338 : 0 ≤ (x9_2 : Int) := of_decide_eq_true zA; have q338 : x9_2 < (x6_1.length : Int) := of_decide_eq_true zA; obtain ⟨ad338, e338, hx338_0⟩ := Kd.at_bool (Kd.R_reads' HO_6.out).2.2 x9_2 p338 q338; (try rw [← Nbq42.out] at hx338_0); obtain rfl : (⟨go8, 0, none⟩ : Addr) = ad338 := (by injection e338); (first | simp only [add_plain] at hx338_0 | simp only [add_at] at hx338_0 | simp only [Addr.add, Nat.zero_add] at hx338_0 | skip); replace p338 := eq_true p338; replace q338 := eq_true q338; go_wp2; go_roundg k2
       case measure => have := HK1.out; have := HK2.out; omega
       case rel => exact ⟨(x5_2), (wrap64 (x9_2 + 1)), zT, H', ⟨by have := HK1.out; have := HK2.out; omega⟩, ⟨by (try simp only [hl6_1]); (with_reducible repeat (first | apply Kd.R_alloc | apply Kd.R_drewN | apply Kd.R_drew)); exact HO_5.out⟩, ⟨by (try simp only [hl6_1]); (with_reducible repeat (first | apply Kd.R_alloc | apply Kd.R_drewN | apply Kd.R_drew)); exact HO_6.out⟩, ⟨zB⟩⟩
      subst c43; have H1 : (if x5_2.length < 17592186044416 then (spec_RolesUnder.l2 k2 (x5_2 ++ [x9_2]) x6_1 (wrap64 (x9_2 + 1))) else (none)) = some r := by rw [if_pos rfl] at H; exact H
      clear H; have H := H1; clear H1; replace H := ifN H; obtain ⟨c44, H⟩ := H; have LMc44 := Aside0.mk c44; clear c44; obtain ⟨y339, hy339⟩ : ∃ y_ : List Int, y_ = (x5_2 ++ [x9_2]) := ⟨_, rfl⟩; replace H : (spec_RolesUnder.l2 k2 y339 x6_1 (wrap64 (x9_2 + 1))) = some r := by first | (rw [hy339]; with_reducible exact H) | (have H2_ := (Option.bind_some _ _).symm.trans H; rw [hy339]; with_reducible exact H2_) | (have H2_ := (Option.bind_some _ _).symm.trans H; with_reducible exact H2_) | with_reducible exact H | (rw [hy339]; exact H) | exact H
      have Ny339 := Aside0.mk hy339; clear hy339; have H' := Aside0.mk H; clear H; have p338 : 0 ≤ (x9_2 : Int) := of_decide_eq_true zA; have q338 : x9_2 < (x6_1.length : Int) := of_decide_eq_true zA; obtain ⟨ad338, e338, hx338_0⟩ := Kd.at_bool (Kd.R_reads' HO_6.out).2.2 x9_2 p338 q338; (try rw [← Nbq42.out] at hx338_0); obtain rfl : (⟨go8, 0, none⟩ : Addr) = ad338 := (by injection e338); (first | simp only [add_plain] at hx338_0 | simp only [add_at] at hx338_0 | simp only [Addr.add, Nat.zero_add] at hx338_0 | skip); replace p338 := eq_true p338; replace q338 := eq_true q338; go_wp2_with (first | ((with_reducible refine gate_builtin (b := .append) (xs := #[.tmp 68, .tmp 70]) rfl ?_); at_builtin; refine Kd.R_append (Kd.int .i64) (w0 := w) w.heap.size rfl (.tmp 68) (.tmp 70) 177 3 (.int .i64 0) 8 rfl Tryz.underlying177 info3 rfl (by decide) (by omega) u5 x5_2 x9_2 [.int .i64 x9_2] (fun _ => True) (fun _ => False) rfl rfl ?aP (fun _ hk => hk.elim) ?aF ?aO ?aB ?aS ?aL ?_; (case aP => exact rfl); (case aB => exact zB); (case aF => exact (fun _ _ => trivial)); (case aO => exact (zR HO_5)); (case aS => exact (below_size zB)); (case aL => have := LMc44.out; omega); intro v340 w45 ho hb hg hat; rw [← Ny339.out] at ho; have n0_ := Aside0.mk (Kd.R_over' (zR HO_6) (Kd.R_typed (zR HO_5)) (by decide) hg); have n1_ := Aside0.mk (hb); have n2_ := Aside0.mk (ho); clear HO_6; clear HB; clear HO_5; have HO_6 := n0_; have HB := n1_; have HO341 := n2_; clear n0_ n1_ n2_; clear ho hb hg hat))
      go_roundg k2
      case measure => have := HK1.out; have := HK2.out; omega
      case rel => exact ⟨(y339), (wrap64 (x9_2 + 1)), zT, H', ⟨by have := HK1.out; have := HK2.out; omega⟩, ⟨by (try simp only [hl6_1]); (with_reducible repeat (first | apply Kd.R_alloc | apply Kd.R_drewN | apply Kd.R_drew)); exact HO341.out⟩, ⟨by (try simp only [hl6_1]); (with_reducible repeat (first | apply Kd.R_alloc | apply Kd.R_drewN | apply Kd.R_drew)); exact HO_6.out⟩, ⟨zB⟩⟩
   have c16b0 := decT c16; clear c16; have H' := Aside0.mk H; clear H; go_wp2; go_loopg [8] k1 (fun kq v8 w' => ∃ (x6_2 : List Bool) (x8_2 : Int), v8 = .int .i64 x8_2 ∧ Aside0 (spec_RolesUnder.l1 kq l0 y322 x6_2 x7_1 x8_2 = some r) ∧ Aside0 (kq ≤ k1) ∧ Aside0 (Kd.R (Kd.int .i64) 3 w' w.heap.size (fun _ => True) v323 y322) ∧ Aside0 (Kd.R Kd.bool 4 w' w.heap.size (fun _ => True) (.slice (some ⟨go8, 0, none⟩) x6_1.length co8) x6_2) ∧ Aside0 (Below w.heap.size w w'))
   case atStart => exact ⟨(x6_1), (0), zT, H', ⟨Nat.le_refl _⟩, ⟨by (try simp only [hl6_1]); (with_reducible repeat (first | apply Kd.R_alloc | apply Kd.R_drewN | apply Kd.R_drew)); exact HO_5.out⟩, ⟨by (try simp only [hl6_1]); (with_reducible repeat (first | apply Kd.R_alloc | apply Kd.R_drewN | apply Kd.R_drew)); exact HO_6.out⟩, ⟨zB⟩⟩
   case round =>
    clear H'; (try clear c1); (try clear p2); (try clear c3); (try clear c4); (try clear c5); (try clear c5b0); (try clear c5b1); (try clear c6); (try clear c6b0); (try clear c7); (try clear c7b0); (try clear p8); (try clear q8); (try clear hx8); (try clear hf8); (try clear c9); (try clear c16); (try clear c16b0); (try clear hx8_0); (try clear p2); (try clear p8); (try clear q8); obtain ⟨x6_2, x8_2, rfl, HA, HK2, HO_5, HO_6, HB⟩ := hrel; have hl6_2 := (Kd.R_reads' HO_6.out).1; rw [hl6_2] at HO_6; (try simp only [hl6_2]); (try simp only [hl6_2] at HO_5); cases gk with
    | zero => exact absurd HA.out (by simp [spec_RolesUnder.l1])
    | succ k2 =>
     have H := HA.out; clear HA; simp only [spec_RolesUnder.l1] at H; replace H := ifD H; rcases H with ⟨c17, H⟩ | ⟨c17, H⟩; rotate_left
     ·have c17b0 := decF c17; clear c17; have H' := Aside0.mk H; clear H; go_wp2; (try simp only [← hl6_1, ← hl6_2]); go_roundg k2
      case measure => have := HK1.out; have := HK2.out; omega
      case rel => exact ⟨(x6_2), (wrap64 (x7_1 + 1)), zT, H', ⟨by have := HK1.out; have := HK2.out; omega⟩, ⟨by (try simp only [hl6_1]); (try simp only [hl6_2]); (with_reducible repeat (first | apply Kd.R_alloc | apply Kd.R_drewN | apply Kd.R_drew)); exact HO_5.out⟩, ⟨by (try simp only [hl6_1]); (try simp only [hl6_2]); (with_reducible repeat (first | apply Kd.R_alloc | apply Kd.R_drewN | apply Kd.R_drew)); exact HO_6.out⟩, ⟨zB⟩⟩
     have c17b0 := decT c17; clear c17; have HC18 := Aside0.mk H; clear H; go_upto_region 12 with (fail)
     go_cut [52] (fun v52 wc => ∃ (kq : Nat) (x52_17 : Bool), v52 = .bool x52_17 ∧ Aside0 (spec_RolesUnder.j2 kq l0 y322 x6_2 x7_1 x8_2 x52_17 = some r) ∧ Aside0 (kq ≤ k2) ∧ Aside0 (Kd.R (Kd.int .i64) 3 wc w.heap.size (fun _ => True) v323 y322) ∧ Aside0 (Kd.R Kd.bool 4 wc w.heap.size (fun _ => True) (.slice (some ⟨go8, 0, none⟩) x6_2.length co8) x6_2) ∧ Aside0 (Below w.heap.size w wc))
     case first =>
      have H := HC18.out; clear HC18; replace H := ifN H; obtain ⟨c19, H⟩ := H; have c19b0 := decT c19; clear c19; (first | rw [c19b0] | (simp only [i64_w, i32_w]; rw [c19b0]) | skip); replace H := obs H; obtain ⟨t331, A200, H⟩ := H; (try dsimp only at H); have A20 := Aside0.mk A200; clear A200; by_cases c21 : t331 = true
      rotate_left
      ·replace c21 := Bool.eq_false_iff.mpr c21; subst c21; have H1 : (spec_RolesUnder.j2 k2 l0 y322 x6_2 x7_1 x8_2 false) = some r := by rw [if_neg (show ¬ (false = true) by decide)] at H; exact H
       clear H; have H := H1; clear H1; have H' := Aside0.mk H; clear H; have p330 : 0 ≤ (x8_2 : Int) := of_decide_eq_true zA; have q330 : x8_2 < (l0.length : Int) := of_decide_eq_true zA; obtain ⟨ad330, e330, hx330_0, hx330_1⟩ := at_T154 HR0.out x8_2 p330 q330; cases e330; replace hx330_0 := (HB.out.cell (World.block_lt_of_cell? w _ hx330_0)).trans hx330_0; replace hx330_1 := (HB.out.cell (World.block_lt_of_cell? w _ hx330_1)).trans hx330_1; replace p330 := eq_true p330; replace q330 := eq_true q330; go_wp2_with (first | ((with_reducible refine gate_callee (f := 93) rfl ?_); refine goesL_ (some 34) rfl rfl Tryz.func93 (by kernel_rfl) rfl #[.int .i64 ((rd_T154 l0 x8_2).f0), .int .i64 0, .int .i64 5] rfl zM ?_; (with_reducible refine (spec_l1In.calls ((rd_T154 l0 x8_2).f0) 0 5 false _ A20.out).mono ?_); rintro e w30 ⟨rfl, hb⟩; refine ⟨_, rfl, ?_⟩; have n0_ := Aside0.mk (Kd.R_below (zR HO_5) hb); have n1_ := Aside0.mk (Kd.R_below (zR HO_6) hb); have n2_ := Aside0.mk (below_step zB hb); clear HO_5; clear HO_6; clear HB; have HO_5 := n0_; have HO_6 := n1_; have HB := n2_; clear n0_ n1_ n2_; (try clear hb); (try clear hb2); (try clear hk); (try clear hi)))
       go_meet
       case rel => exact ⟨_, (false), zT, H', ⟨by have := HK1.out; have := HK2.out; first | omega | exact Nat.le_refl _⟩, ⟨by (try simp only [hl6_1]); (try simp only [hl6_2]); (with_reducible repeat (first | apply Kd.R_alloc | apply Kd.R_drewN | apply Kd.R_drew)); exact HO_5.out⟩, ⟨by (try simp only [hl6_1]); (try simp only [hl6_2]); (with_reducible repeat (first | apply Kd.R_alloc | apply Kd.R_drewN | apply Kd.R_drew)); exact HO_6.out⟩, ⟨zB⟩⟩
      subst c21; have H1 : ((spec_l1In.f ((rd_T154 l0 x8_2).f1) 0 5).bind fun t333 => (if t333 = true then (if 0 ≤ ((rd_T154 l0 x8_2).f0) then (if ((rd_T154 l0 x8_2).f0) < (x6_2.length : Int) then (spec_RolesUnder.j2 k2 l0 y322 x6_2 x7_1 x8_2 (rdOf false x6_2 ((rd_T154 l0 x8_2).f0))) else (none)) else (none)) else (spec_RolesUnder.j2 k2 l0 y322 x6_2 x7_1 x8_2 false))) = some r := by rw [if_pos rfl] at H; exact H
      clear H; have H := H1; clear H1; replace H := obs H; obtain ⟨t333, A220, H⟩ := H; (try dsimp only at H); have A22 := Aside0.mk A220; clear A220; by_cases c23 : t333 = true
      rotate_left
      ·replace c23 := Bool.eq_false_iff.mpr c23; subst c23; have H1 : (spec_RolesUnder.j2 k2 l0 y322 x6_2 x7_1 x8_2 false) = some r := by rw [if_neg (show ¬ (false = true) by decide)] at H; exact H
       clear H; have H := H1; clear H1; have H' := Aside0.mk H; clear H; have p330 : 0 ≤ (x8_2 : Int) := of_decide_eq_true zA; have q330 : x8_2 < (l0.length : Int) := of_decide_eq_true zA; obtain ⟨ad330, e330, hx330_0, hx330_1⟩ := at_T154 HR0.out x8_2 p330 q330; cases e330; replace hx330_0 := (HB.out.cell (World.block_lt_of_cell? w _ hx330_0)).trans hx330_0; replace hx330_1 := (HB.out.cell (World.block_lt_of_cell? w _ hx330_1)).trans hx330_1; replace p330 := eq_true p330; replace q330 := eq_true q330; go_wp2_with (first | ((with_reducible refine gate_callee (f := 93) rfl ?_); refine goesL_ (some 34) rfl rfl Tryz.func93 (by kernel_rfl) rfl #[.int .i64 ((rd_T154 l0 x8_2).f0), .int .i64 0, .int .i64 5] rfl zM ?_; (with_reducible refine (spec_l1In.calls ((rd_T154 l0 x8_2).f0) 0 5 true _ A20.out).mono ?_); rintro e w28 ⟨rfl, hb⟩; refine ⟨_, rfl, ?_⟩; have n0_ := Aside0.mk (Kd.R_below (zR HO_5) hb); have n1_ := Aside0.mk (Kd.R_below (zR HO_6) hb); have n2_ := Aside0.mk (below_step zB hb); clear HO_5; clear HO_6; clear HB; have HO_5 := n0_; have HO_6 := n1_; have HB := n2_; clear n0_ n1_ n2_; (try clear hb); (try clear hb2); (try clear hk); (try clear hi); have p332 : 0 ≤ (x8_2 : Int) := of_decide_eq_true zA; have q332 : x8_2 < (l0.length : Int) := of_decide_eq_true zA; obtain ⟨ad332, e332, hx332_0, hx332_1⟩ := at_T154 HR0.out x8_2 p332 q332; obtain rfl : ad330 = ad332 := (by injection e332); replace hx332_0 := (HB.out.cell (World.block_lt_of_cell? w _ hx332_0)).trans hx332_0; replace hx332_1 := (HB.out.cell (World.block_lt_of_cell? w _ hx332_1)).trans hx332_1; replace p332 := eq_true p332; replace q332 := eq_true q332) | (go_at_call 93; (with_reducible refine (spec_l1In.calls ((rd_T154 l0 x8_2).f1) 0 5 false _ A22.out).mono ?_); rintro e w29 ⟨rfl, hb⟩; have n0_ := Aside0.mk (Kd.R_below (zR HO_5) hb); have n1_ := Aside0.mk (Kd.R_below (zR HO_6) hb); have n2_ := Aside0.mk (below_step zB hb); clear HO_5; clear HO_6; clear HB; have HO_5 := n0_; have HO_6 := n1_; have HB := n2_; clear n0_ n1_ n2_; (try clear hb); (try clear hb2); (try clear hk); (try clear hi)))
       go_meet
       case rel => exact ⟨_, (false), zT, H', ⟨by have := HK1.out; have := HK2.out; first | omega | exact Nat.le_refl _⟩, ⟨by (try simp only [hl6_1]); (try simp only [hl6_2]); (with_reducible repeat (first | apply Kd.R_alloc | apply Kd.R_drewN | apply Kd.R_drew)); exact HO_5.out⟩, ⟨by (try simp only [hl6_1]); (try simp only [hl6_2]); (with_reducible repeat (first | apply Kd.R_alloc | apply Kd.R_drewN | apply Kd.R_drew)); exact HO_6.out⟩, ⟨zB⟩⟩
      subst c23; have H1 : (if 0 ≤ ((rd_T154 l0 x8_2).f0) then (if ((rd_T154 l0 x8_2).f0) < (x6_2.length : Int) then (spec_RolesUnder.j2 k2 l0 y322 x6_2 x7_1 x8_2 (rdOf false x6_2 ((rd_T154 l0 x8_2).f0))) else (none)) else (none)) = some r := by rw [if_pos rfl] at H; exact H
      clear H; have H := H1; clear H1; replace H := ifN H; obtain ⟨c24, H⟩ := H; have c24b0 := decT c24; clear c24; replace H := ifN H; obtain ⟨c25, H⟩ := H; have c25b0 := decT c25; clear c25; have H' := Aside0.mk H; clear H; have p330 : 0 ≤ (x8_2 : Int) := of_decide_eq_true zA; have q330 : x8_2 < (l0.length : Int) := of_decide_eq_true zA; obtain ⟨ad330, e330, hx330_0, hx330_1⟩ := at_T154 HR0.out x8_2 p330 q330; cases e330; replace hx330_0 := (HB.out.cell (World.block_lt_of_cell? w _ hx330_0)).trans hx330_0; replace hx330_1 := (HB.out.cell (World.block_lt_of_cell? w _ hx330_1)).trans hx330_1; replace p330 := eq_true p330; replace q330 := eq_true q330; go_wp2_with (first | ((with_reducible refine gate_callee (f := 93) rfl ?_); refine goesL_ (some 34) rfl rfl Tryz.func93 (by kernel_rfl) rfl #[.int .i64 ((rd_T154 l0 x8_2).f0), .int .i64 0, .int .i64 5] rfl zM ?_; (with_reducible refine (spec_l1In.calls ((rd_T154 l0 x8_2).f0) 0 5 true _ A20.out).mono ?_); rintro e w26 ⟨rfl, hb⟩; refine ⟨_, rfl, ?_⟩; have n0_ := Aside0.mk (Kd.R_below (zR HO_5) hb); have n1_ := Aside0.mk (Kd.R_below (zR HO_6) hb); have n2_ := Aside0.mk (below_step zB hb); clear HO_5; clear HO_6; clear HB; have HO_5 := n0_; have HO_6 := n1_; have HB := n2_; clear n0_ n1_ n2_; (try clear hb); (try clear hb2); (try clear hk); (try clear hi); have p332 : 0 ≤ (x8_2 : Int) := of_decide_eq_true zA; have q332 : x8_2 < (l0.length : Int) := of_decide_eq_true zA; obtain ⟨ad332, e332, hx332_0, hx332_1⟩ := at_T154 HR0.out x8_2 p332 q332; obtain rfl : ad330 = ad332 := (by injection e332); replace hx332_0 := (HB.out.cell (World.block_lt_of_cell? w _ hx332_0)).trans hx332_0; replace hx332_1 := (HB.out.cell (World.block_lt_of_cell? w _ hx332_1)).trans hx332_1; replace p332 := eq_true p332; replace q332 := eq_true q332) | (go_at_call 93; (with_reducible refine (spec_l1In.calls ((rd_T154 l0 x8_2).f1) 0 5 true _ A22.out).mono ?_); rintro e w27 ⟨rfl, hb⟩; have n0_ := Aside0.mk (Kd.R_below (zR HO_5) hb); have n1_ := Aside0.mk (Kd.R_below (zR HO_6) hb); have n2_ := Aside0.mk (below_step zB hb); clear HO_5; clear HO_6; clear HB; have HO_5 := n0_; have HO_6 := n1_; have HB := n2_; clear n0_ n1_ n2_; (try clear hb); (try clear hb2); (try clear hk); (try clear hi); have p334 : 0 ≤ (x8_2 : Int) := of_decide_eq_true zA; have q334 : x8_2 < (l0.length : Int) := of_decide_eq_true zA; obtain ⟨ad334, e334, hx334_0, hx334_1⟩ := at_T154 HR0.out x8_2 p334 q334; obtain rfl : ad330 = ad334 := (by injection e334); replace hx334_0 := (HB.out.cell (World.block_lt_of_cell? w _ hx334_0)).trans hx334_0; replace hx334_1 := (HB.out.cell (World.block_lt_of_cell? w _ hx334_1)).trans hx334_1; replace p334 := eq_true p334; replace q334 := eq_true q334; have p335 : 0 ≤ (((rd_T154 l0 x8_2).f0) : Int) := of_decide_eq_true zA; have q335 : ((rd_T154 l0 x8_2).f0) < (x6_2.length : Int) := of_decide_eq_true zA; obtain ⟨ad335, e335, hx335_0⟩ := Kd.at_bool (Kd.R_reads' HO_6.out).2.2 ((rd_T154 l0 x8_2).f0) p335 q335; obtain rfl : (⟨go8, 0, none⟩ : Addr) = ad335 := (by injection e335); (first | simp only [add_plain] at hx335_0 | simp only [add_at] at hx335_0 | simp only [Addr.add, Nat.zero_add] at hx335_0 | skip); replace p335 := eq_true p335; replace q335 := eq_true q335))
      go_meet
      case rel => exact ⟨_, (rdOf false x6_2 ((rd_T154 l0 x8_2).f0)), zT, H', ⟨by have := HK1.out; have := HK2.out; first | omega | exact Nat.le_refl _⟩, ⟨by (try simp only [hl6_1]); (try simp only [hl6_2]); (with_reducible repeat (first | apply Kd.R_alloc | apply Kd.R_drewN | apply Kd.R_drew)); exact HO_5.out⟩, ⟨by (try simp only [hl6_1]); (try simp only [hl6_2]); (with_reducible repeat (first | apply Kd.R_alloc | apply Kd.R_drewN | apply Kd.R_drew)); exact HO_6.out⟩, ⟨zB⟩⟩
     case rest =>
      clear HC18; (try clear c1); (try clear c2); (try clear p2); (try clear c3); (try clear p3); (try clear q3); (try clear hx3); (try clear c4); (try clear c5); (try clear c5b0); (try clear c5b1); (try clear c6); (try clear c6b0); (try clear c7); (try clear c7b0); (try clear p8); (try clear q8); (try clear hx8); (try clear hf8); (try clear c9); (try clear c16); (try clear c16b0); (try clear c17); (try clear c17b0); (try clear c19); (try clear c19b0); (try clear c21); (try clear c23); (try clear c24); (try clear c24b0); (try clear c25); (try clear c25b0); (try clear hx330_0); (try clear hx330_1); (try clear hx332_0); (try clear hx332_1); (try clear hx334_0); (try clear hx334_1); (try clear hx335_0); (try clear hx8_0); (try clear p2); (try clear p330); (try clear p332); (try clear p334); (try clear p335); (try clear p8); (try clear q330); (try clear q332); (try clear q334); (try clear q335); (try clear q8); obtain ⟨kq, x52_17, rfl, HA, HJ17, HO_5, HO_6, HB⟩ := hcut; cases kq with
      | zero => exact absurd HA.out (by simp [spec_RolesUnder.j2])
      | succ kj17 =>
       have H := HA.out; clear HA; simp only [spec_RolesUnder.j2] at H; by_cases c31 : x52_17 = true
       rotate_left
       ·replace c31 := Bool.eq_false_iff.mpr c31; subst c31; have H1 : (spec_RolesUnder.l1 kj17 l0 y322 x6_2 x7_1 (wrap64 (x8_2 + 1))) = some r := by rw [if_neg (show ¬ (false = true) by decide)] at H; exact H
        clear H; have H := H1; clear H1; have H' := Aside0.mk H; clear H; go_wp2; (try simp only [← hl6_2]); go_roundg kj17
        case measure => have := HK1.out; have := HK2.out; have := HJ17.out; omega
        case rel => exact ⟨(x6_2), (wrap64 (x8_2 + 1)), zT, H', ⟨by have := HK1.out; have := HK2.out; have := HJ17.out; omega⟩, ⟨by (try simp only [hl6_1]); (try simp only [hl6_2]); (with_reducible repeat (first | apply Kd.R_alloc | apply Kd.R_drewN | apply Kd.R_drew)); exact HO_5.out⟩, ⟨by (try simp only [hl6_1]); (try simp only [hl6_2]); (with_reducible repeat (first | apply Kd.R_alloc | apply Kd.R_drewN | apply Kd.R_drew)); exact HO_6.out⟩, ⟨zB⟩⟩
       subst c31; have H1 : (if 0 ≤ x8_2 then (if x8_2 < (l0.length : Int) then (if 0 ≤ ((rd_T154 l0 x8_2).f1) then (if ((rd_T154 l0 x8_2).f1) < (x6_2.length : Int) then (spec_RolesUnder.l1 kj17 l0 y322 (x6_2.set (((rd_T154 l0 x8_2).f1) : Int).toNat true) x7_1 (wrap64 (x8_2 + 1))) else (none)) else (none)) else (none)) else (none)) = some r := by rw [if_pos rfl] at H; exact H
       clear H; have H := H1; clear H1; replace H := ifN H; obtain ⟨c32, H⟩ := H; have c32b0 := decT c32; clear c32; replace H := ifN H; obtain ⟨c33, H⟩ := H; have c33b0 := decT c33; clear c33; replace H := ifN H; obtain ⟨c34, H⟩ := H; have c34b0 := decT c34; clear c34; replace H := ifN H; obtain ⟨c35, H⟩ := H; have c35b0 := decT c35; clear c35; obtain ⟨y337, hy337⟩ : ∃ y_ : List Bool, y_ = (x6_2.set (((rd_T154 l0 x8_2).f1) : Int).toNat true) := ⟨_, rfl⟩; replace H : (spec_RolesUnder.l1 kj17 l0 y322 y337 x7_1 (wrap64 (x8_2 + 1))) = some r := by first | (rw [hy337]; with_reducible exact H) | (have H2_ := (Option.bind_some _ _).symm.trans H; rw [hy337]; with_reducible exact H2_) | (have H2_ := (Option.bind_some _ _).symm.trans H; with_reducible exact H2_) | with_reducible exact H | (rw [hy337]; exact H) | exact H
       have Ny337 := Aside0.mk hy337; clear hy337; have H' := Aside0.mk H; clear H; have p336 : 0 ≤ (x8_2 : Int) := of_decide_eq_true zA; have q336 : x8_2 < (l0.length : Int) := of_decide_eq_true zA; obtain ⟨ad336, e336, hx336_0, hx336_1⟩ := at_T154 HR0.out x8_2 p336 q336; cases e336; replace hx336_0 := (HB.out.cell (World.block_lt_of_cell? w _ hx336_0)).trans hx336_0; replace hx336_1 := (HB.out.cell (World.block_lt_of_cell? w _ hx336_1)).trans hx336_1; replace p336 := eq_true p336; replace q336 := eq_true q336; have p36 : 0 ≤ (((rd_T154 l0 x8_2).f1) : Int) := of_decide_eq_true zA; have q36 : (((rd_T154 l0 x8_2).f1) : Int) < ((x6_2.length : Int) : Int) := of_decide_eq_true zA; obtain ⟨hx36_0, hf36_0⟩ := Kd.R_celln false HO_6.out (((rd_T154 l0 x8_2).f1) : Int) p36 q36; replace p36 := eq_true p36; replace q36 := eq_true q36; have HP37 := Kd.R_putg HO_6.out (((rd_T154 l0 x8_2).f1) : Int) true; go_wp2_with (first | ((with_reducible refine gate_store (t := 4) (p := 59) rfl ?_); refine store_event (t := 4) (p := 59) (v := ?vo_w38) (w1 := (wc.setCell ⟨go8, (((rd_T154 l0 x8_2).f1) : Int).toNat, none⟩ (.bool true))) ?hg ?ho ?hn ?hr ?_; (case ho => rfl); (case hg => rfl); (case hn => rfl); (case hr => first | (go_simp; done) | (go_simp; rfl)); intro w38 hw; have hg : wc.grownBy w38 (some go8) := (by rw [hw]; exact HP37.2); have hp_ : Kd.R Kd.bool 4 w38 w.heap.size (fun _ => True) (.slice (some ⟨go8, 0, none⟩) x6_2.length co8) y337 := (by rw [hw, Ny337.out]; exact HP37.1); clear HP37; have n0_ := Aside0.mk (Kd.R_over' (v := (.slice (some ⟨go8, 0, none⟩) x6_2.length co8)) (zR HO_5) (Kd.R_typed HO_6.out) (by decide) hg); have n1_ := Aside0.mk (hp_); have n2_ := Aside0.mk ((by rw [hw]; exact below_set (HB.out) GB8.out : Below w.heap.size w w38)); clear HO_5; clear HO_6; clear HB; have HO_5 := n0_; have HO_6 := n1_; have HB := n2_; clear n0_ n1_ n2_; clear hg hw hp_))
       (try simp only [← hl6_2]); go_roundg kj17
       case measure => have := HK1.out; have := HK2.out; have := HJ17.out; omega
       case rel => exact ⟨(y337), (wrap64 (x8_2 + 1)), zT, H', ⟨by have := HK1.out; have := HK2.out; have := HJ17.out; omega⟩, ⟨by (try simp only [hl6_1]); (try simp only [hl6_2]); (with_reducible repeat (first | apply Kd.R_alloc | apply Kd.R_drewN | apply Kd.R_drew)); exact HO_5.out⟩, ⟨by (try simp only [hl6_1]); (try simp only [hl6_2]); (with_reducible repeat (first | apply Kd.R_alloc | apply Kd.R_drewN | apply Kd.R_drew)); exact HO_6.out⟩, ⟨zB⟩⟩
def spec_AgeOf.f (a0 : Int) (a1 : Int) : Option (Int) := (spec_IsTime.f a0).bind fun t342 => (if t342 = true then ((spec_IsTime.f a1).bind fun t343 => (if t343 = true then (if a0 > a1 then (some (-1)) else (some (wrap64 (a1 - a0)))) else (some (-1)))) else (some (-1)))
theorem spec_AgeOf.calls (a0 : Int) (a1 : Int) (r : Int) (w : World) (h : spec_AgeOf.f a0 a1 = some r) :
  Calls Tryz.prog 301 #[.int .i64 a0, .int .i64 a1] w fun e w' => e = .returned (.int .i64 r) ∧ Below w.heap.size w w' := by
 have HB := Aside0.mk (Below.refl w.heap.size w)
 have H := h
 clear h
 unfold spec_AgeOf.f at H
 go_enter Tryz.func301, Tryz.ntmps301
 replace H := obs H
 obtain ⟨t342, hm, H⟩ := H
 (try dsimp only at H)
 replace H := Aside0.mk H
 have hcall := spec_IsTime.calls _ _ w  hm
 clear hm
 (go_wp2_with fail)
 refine hcall.mono ?_
 rintro e W1 ⟨rfl, hb⟩
 clear hcall
 replace HB := bH HB hb; clear hb
 replace H := ifD H.out; rcases H with ⟨c2, H⟩ | ⟨c2, H⟩
 rotate_left
 ·replace c2 := nT c2
  subst c2
  cases H
  go_wp2
  go_ret
  exact ⟨rfl, HB.out⟩
 subst c2
 replace H := obs H
 obtain ⟨t343, hm, H⟩ := H
 (try dsimp only at H)
 replace H := Aside0.mk H
 have hcall := spec_IsTime.calls _ _ W1  hm
 clear hm
 (go_wp2_with fail)
 refine hcall.mono ?_
 rintro e W3 ⟨rfl, hb⟩
 clear hcall
 replace HB := bH HB hb; clear hb
 replace H := ifD H.out; rcases H with ⟨c4, H⟩ | ⟨c4, H⟩
 rotate_left
 ·replace c4 := nT c4
  subst c4
  cases H
  go_wp2
  go_ret
  exact ⟨rfl, HB.out⟩
 subst c4
 replace H := ifD H; rcases H with ⟨c5, H⟩ | ⟨c5, H⟩
 ·replace c5 : a1 < a0 := c5
  have c5_0 := decT c5
  replace c5 := Aside0.mk c5
  (try rw [c5_0])
  cases H
  go_wp2
  go_ret
  exact ⟨rfl, HB.out⟩
 replace c5 : ¬ (a1 < a0) := c5
 have c5_0 := decF c5
 replace c5 := Aside0.mk c5
 (try rw [c5_0])
 cases H
 go_wp2
 go_ret
 exact ⟨rfl, HB.out⟩
def spec_IsFresh.f (a0 : Int) (a1 : Int) (a2 : Int) : Option (Bool) := (spec_AgeOf.f a0 a1).bind fun t344 => (if t344 ≥ 0 then (some (decide (t344 ≤ a2))) else (some false))
theorem spec_IsFresh.calls (a0 : Int) (a1 : Int) (a2 : Int) (r : Bool) (w : World) (h : spec_IsFresh.f a0 a1 a2 = some r) :
  Calls Tryz.prog 208 #[.int .i64 a0, .int .i64 a1, .int .i64 a2] w fun e w' => e = .returned (.bool r) ∧ Below w.heap.size w w' := by
 have HB := Aside0.mk (Below.refl w.heap.size w)
 have H := h
 clear h
 unfold spec_IsFresh.f at H
 go_enter Tryz.func208, Tryz.ntmps208
 replace H := obs H
 obtain ⟨t344, hm, H⟩ := H
 (try dsimp only at H)
 replace H := Aside0.mk H
 have hcall := spec_AgeOf.calls _ _ _ w  hm
 clear hm
 (go_wp2_with fail)
 refine hcall.mono ?_
 rintro e W1 ⟨rfl, hb⟩
 clear hcall
 replace HB := bH HB hb; clear hb
 replace H := ifD H.out; rcases H with ⟨c2, H⟩ | ⟨c2, H⟩
 ·replace c2 : 0 ≤ t344 := c2
  have c2_0 := decT c2
  replace c2 := Aside0.mk c2
  (try rw [c2_0])
  cases H
  go_wp2
  go_ret
  exact ⟨rfl, HB.out⟩
 replace c2 : ¬ (0 ≤ t344) := c2
 have c2_0 := decF c2
 replace c2 := Aside0.mk c2
 (try rw [c2_0])
 cases H
 go_wp2
 go_ret
 exact ⟨rfl, HB.out⟩
end Go.Proofs.YtmgfklmhelabcaaGreat.QFnExactSaveDecision
