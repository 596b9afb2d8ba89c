/- The machine side of FnExactDecisionUntil: what each function that it reaches computes, and that the machine's call gives just that. -/
import Derived.Test.YtmgfklmhelabcaaGreatQFnExactDecisionUntilx0
import Derived.Test.YtmgfklmhelabcaaGreatQFnExactDecisionUntilx3
import Derived.Test.YtmgfklmhelabcaaGreatQFnExactDecisionUntilx4
import Derived.Test.YtmgfklmhelabcaaGreatQFnExactDecisionUntilx5
namespace Go.Proofs.YtmgfklmhelabcaaGreat.QFnExactDecisionUntil
open Go.RowKit Go.Proofs.YtmgfklmhelabcaaGreatW.PrintWords Go.Proofs.YtmgfklmhelabcaaGreatW.PrintLast Go.Proofs.YtmgfklmhelabcaaGreatW.PrintMore
attribute [local go_sem] max2_int min2_int max_two min_two max_three min_three max_four min_four
set_option maxHeartbeats 8000000
set_option maxRecDepth 100000
open Go.Proofs.YtmgfklmhelabcaaGreatM
set_option linter.unusedVariables false
set_option linter.unusedSimpArgs false
mutual
def spec_RolesOf.l0 : Nat → List (S154) → List (S136) → Int → Int → Int → List Bool → Int → Option (List Int)
 | 0, _, _, _, _, _, _, _ => none
 | k + 1, x0, x1, x2, x3, x4, x11, x12 => if x12 < (x1.length : Int) then (if 0 ≤ x12 then (if ((rd_T136 x1 x12).f0) = 1 then (if ((rd_T136 x1 x12).f1) = x2 then ((spec_HoldsAt.f ((rd_T136 x1 x12).f0) ((rd_T136 x1 x12).f1) ((rd_T136 x1 x12).f2) ((rd_T136 x1 x12).f3) ((rd_T136 x1 x12).f4) ((rd_T136 x1 x12).f5) x3 x4).bind fun t225 => (spec_RolesOf.j1 k x0 x1 x2 x3 x4 x11 x12 (!t225))) else (spec_RolesOf.j1 k x0 x1 x2 x3 x4 x11 x12 true)) else (spec_RolesOf.j1 k x0 x1 x2 x3 x4 x11 x12 true)) else (none)) else (spec_RolesOf.l2 k x11 (([] : List Int)) 0)
def spec_RolesOf.j1 : Nat → List (S154) → List (S136) → Int → Int → Int → List Bool → Int → Bool → Option (List Int)
 | 0, _, _, _, _, _, _, _, _ => none
 | k + 1, x0, x1, x2, x3, x4, x11, x12, x48 => if x48 = true then (spec_RolesOf.l0 k x0 x1 x2 x3 x4 x11 (wrap64 (x12 + 1))) else (if 0 ≤ x12 then (if x12 < (x1.length : Int) then ((spec_RolesUnder.f k x0 ((rd_T136 x1 x12).f2)).bind fun t227 => (spec_RolesOf.l1 k x0 x1 x2 x3 x4 x11 x12 t227 0)) else (none)) else (none))
def spec_RolesOf.l1 : Nat → List (S154) → List (S136) → Int → Int → Int → List Bool → Int → List Int → Int → Option (List Int)
 | 0, _, _, _, _, _, _, _, _, _ => none
 | k + 1, x0, x1, x2, x3, x4, x11, x12, x13, x14 => if x14 < (x13.length : Int) then (if 0 ≤ x14 then (if 0 ≤ (rd x13 x14) then (if (rd x13 x14) < (x11.length : Int) then (spec_RolesOf.l1 k x0 x1 x2 x3 x4 (x11.set ((rd x13 x14) : Int).toNat true) x12 x13 (wrap64 (x14 + 1))) else (none)) else (none)) else (none)) else (spec_RolesOf.l0 k x0 x1 x2 x3 x4 x11 (wrap64 (x12 + 1)))
def spec_RolesOf.l2 : Nat → List Bool → List Int → Int → Option (List Int)
 | 0, _, _, _ => none
 | k + 1, x11, x15, x16 => if x16 ≤ 5 then (if 0 ≤ x16 then (if x16 < (x11.length : Int) then (if rdOf false x11 x16 = true then (if x15.length < 17592186044416 then (spec_RolesOf.l2 k x11 (x15 ++ [x16]) (wrap64 (x16 + 1))) else (none)) else (spec_RolesOf.l2 k x11 x15 (wrap64 (x16 + 1)))) else (none)) else (none)) else (some x15)
end
def spec_RolesOf.f (k : Nat) (l0 : List (S154)) (l1 : List (S136)) (a2 : Int) (a3 : Int) (a4 : Int) : Option (List Int) := if 6 ≤ 281474976710656 then (spec_RolesOf.l0 k l0 l1 a2 a3 a4 (List.replicate 6 false) 0) else (none)
theorem spec_RolesOf.calls (k : Nat) (A0 : Option Addr) (c0 : Nat) (l0 : List (S154)) (A1 : Option Addr) (c1 : Nat) (l1 : List (S136)) (a2 : Int) (a3 : Int) (a4 : Int) (r : List Int) (w : World) (hr0 : Kd.C k154 w A0 l0.length l0) (hc0 : l0.length ≤ c0) (hr1 : Kd.C k136 w A1 l1.length l1) (hc1 : l1.length ≤ c1) (h : spec_RolesOf.f k l0 l1 a2 a3 a4 = some r) :
  Calls Tryz.prog 407 #[.slice A0 l0.length c0, .slice A1 l1.length c1, .int .i64 a2, .int .i64 a3, .int .i64 a4] w fun e w' => ∃ v0_ : Value, e = .returned (v0_) ∧ Kd.R (Kd.int .i64) 3 w' w.heap.size (fun _ => True) v0_ r ∧ Below w.heap.size w w' := by
 have hu136 := Tryz.underlying136
 have HR0 := Aside0.mk hr0
 have HC0 := Aside0.mk hc0
 clear hr0 hc0
 have HR1 := Aside0.mk hr1
 have HC1 := Aside0.mk hc1
 clear hr1 hc1
 have HB := Aside0.mk (Below.refl w.heap.size w)
 have H : (if 6 ≤ 281474976710656 then (spec_RolesOf.l0 k l0 l1 a2 a3 a4 (List.replicate 6 false) 0) else (none)) = some r := h
 clear h
 replace H := ifN H; obtain ⟨c6, H⟩ := H
 have c6b0 := eq_true c6
 have c6b1 : decide (6 ≤ 281474976710656) = true := decide_eq_true c6
 clear c6
 obtain ⟨y219, hy219⟩ : ∃ y_ : List Bool, y_ = (List.replicate 6 false) := ⟨_, rfl⟩
 replace H : (spec_RolesOf.l0 k l0 l1 a2 a3 a4 y219 0) = some r := by first | (rw [hy219]; with_reducible exact H) | (have H2_ := (Option.bind_some _ _).symm.trans H; rw [hy219]; with_reducible exact H2_) | (have H2_ := (Option.bind_some _ _).symm.trans H; with_reducible exact H2_) | with_reducible exact H | (rw [hy219]; exact H) | exact H
 have Ny219 := Aside0.mk hy219
 clear hy219
 have H' := Aside0.mk H
 clear H
 go_enter Tryz.func407, Tryz.ntmps407
 go_wp2_with (first | ((with_reducible refine gate_dst (N := 17) rfl ?_); refine Kd.R_make Kd.bool _ 4 rfl (N := 17) rfl 339 _ _ rfl 6 rfl rfl Tryz.underlying339 (.bool false) 1 info4 rfl (by decide) (by omega) false (ok := fun _ => True) (okp := fun _ => True) rfl (fun _ hk => hk) trivial (by omega) (by omega) (Below.refl _ _) (Nat.le_refl _) ?_; intro v220 w7 ho8 hb hg_ hnew_; clear hg_ hnew_; (first | rw [← Ny219.out] at ho8 | (simp only [Int.reduceToNat] at ho8; rw [← Ny219.out] at ho8)); have n0_ := Aside0.mk (Kd.R_lower ho8 (below_size (by repeat (first | (with_reducible first | exact HB.out | apply below_alloc | apply pw_below_drewN | apply below_drew1) | exact HB.out)))); have n1_ := Aside0.mk (below_step (by repeat (first | (with_reducible first | exact HB.out | apply below_alloc | apply pw_below_drewN | apply below_drew1) | exact HB.out)) hb); clear HB; have HO221 := n0_; have HB := n1_; clear n0_ n1_; clear hb ho8))
 go_loopg [12] k (fun kq v12 w' => ∃ (x11_1 : List Bool) (x12_1 : Int), v12 = .int .i64 x12_1 ∧ Aside0 (spec_RolesOf.l0 kq l0 l1 a2 a3 a4 x11_1 x12_1 = some r) ∧ Aside0 (kq ≤ k) ∧ Aside0 (Kd.R Kd.bool 4 w' w.heap.size (fun _ => True) v220 x11_1) ∧ Aside0 (Below w.heap.size w w'))
 case atStart => exact ⟨(y219), (0), (by first | rfl | (simp; done) | (simp [*]; done)), H', ⟨Nat.le_refl _⟩, ⟨by (with_reducible repeat (first | apply Kd.R_alloc | apply Kd.R_drewN | apply Kd.R_drew)); exact HO221.out⟩, ⟨by repeat (first | (with_reducible first | exact HB.out | apply below_alloc | apply pw_below_drewN | apply below_drew1) | exact HB.out)⟩⟩
 case round =>
  clear H'
  (try clear c1)
  (try clear p2)
  (try clear c4)
  (try clear c6)
  (try clear c6b0)
  (try clear c6b1)
  obtain ⟨x11_1, x12_1, rfl, HA, HK1, HO_11, HB⟩ := hrel
  cases gk with
  | zero => exact absurd HA.out (by simp [spec_RolesOf.l0])
  | succ k1 =>
   have H := HA.out; clear HA; simp only [spec_RolesOf.l0] at H; replace H := ifD H; rcases H with ⟨c9, H⟩ | ⟨c9, H⟩; rotate_left
   ·have c9b0 : decide (x12_1 < (l1.length : Int)) = false := decide_eq_false c9; clear c9; obtain ⟨y232, hy232⟩ : ∃ y_ : List Int, y_ = (([] : List Int)) := ⟨_, rfl⟩; replace H : (spec_RolesOf.l2 k1 x11_1 y232 0) = some r := by first | (rw [hy232]; with_reducible exact H) | (have H2_ := (Option.bind_some _ _).symm.trans H; rw [hy232]; with_reducible exact H2_) | (have H2_ := (Option.bind_some _ _).symm.trans H; with_reducible exact H2_) | with_reducible exact H | (rw [hy232]; exact H) | exact H
    have Ny232 := Aside0.mk hy232; clear hy232; have H' := Aside0.mk H; clear H; go_wp2_with (first | ((with_reducible refine gate_dst (N := 68) rfl ?_); refine Kd.R_lit (Kd.int .i64) _ 3 ?hg (N := 68) ?hd (xs := ([] : List Int)) (inner := []) (ok := fun _ => True) (okp := fun _ => True) ?hr ?hp (fun _ hk => hk) trivial (Below.refl _ _) (Nat.le_refl _) (by simp) ?_; (case hd => rfl); (case hg => rfl); (case hr => first | (go_simp; done) | (go_simp; rfl)); (case hp => exact (Reps.none _ _)); intro v233 w30 ho31 hb hg_ hnew_; clear hg_ hnew_; (first | rw [← Ny232.out] at ho31 | (simp only [Int.reduceToNat] at ho31; rw [← Ny232.out] at ho31)); have n0_ := Aside0.mk (Kd.R_below (by (with_reducible repeat (first | apply Kd.R_alloc | apply Kd.R_drewN | apply Kd.R_drew)); exact HO_11.out) hb); have n1_ := Aside0.mk (Kd.R_lower ho31 (below_size (by repeat (first | (with_reducible first | exact HB.out | apply below_alloc | apply pw_below_drewN | apply below_drew1) | exact HB.out)))); have n2_ := Aside0.mk (below_step (by repeat (first | (with_reducible first | exact HB.out | apply below_alloc | apply pw_below_drewN | apply below_drew1) | exact HB.out)) hb); clear HO_11; clear HB; have HO_11 := n0_; have HO234 := n1_; have HB := n2_; clear n0_ n1_ n2_; clear hb ho31))
    go_loopg [15, 16] k1 (fun kq v15 v16 w' => ∃ (x15_2 : List Int) (x16_2 : Int), v16 = .int .i64 x16_2 ∧ Aside0 (spec_RolesOf.l2 kq x11_1 x15_2 x16_2 = some r) ∧ Aside0 (kq ≤ k1) ∧ Aside0 (Kd.R Kd.bool 4 w' w.heap.size (fun _ => True) v220 x11_1) ∧ Aside0 (Kd.R (Kd.int .i64) 3 w' w.heap.size (fun _ => True) v15 x15_2) ∧ Aside0 (Below w.heap.size w w'))
    case atStart => exact ⟨(y232), (0), (by first | rfl | (simp; done) | (simp [*]; done)), H', ⟨Nat.le_refl _⟩, ⟨by (with_reducible repeat (first | apply Kd.R_alloc | apply Kd.R_drewN | apply Kd.R_drew)); exact HO_11.out⟩, ⟨by (with_reducible repeat (first | apply Kd.R_alloc | apply Kd.R_drewN | apply Kd.R_drew)); exact HO234.out⟩, ⟨by repeat (first | (with_reducible first | exact HB.out | apply below_alloc | apply pw_below_drewN | apply below_drew1) | exact HB.out)⟩⟩
    case round =>
     clear H'; (try clear c1); (try clear c2); (try clear p2); (try clear q2); (try clear hx2); (try clear c3); (try clear c4); (try clear c6); (try clear c6b0); (try clear c6b1); (try clear p6); (try clear c9); (try clear c9b0); (try clear c11); (try clear c11b0); (try clear c12); (try clear c12b0); (try clear c12b1); (try clear c13); (try clear c13b0); (try clear c13b1); (try clear c16); (try clear c17); (try clear c17b0); (try clear c18); (try clear c18b0); (try clear c21); (try clear c21b0); (try clear c22); (try clear c22b0); (try clear p22); (try clear q22); (try clear hx22); (try clear c23); (try clear c23b0); (try clear p23); (try clear q23); (try clear hx23); (try clear c24); (try clear c24b0); (try clear p25); (try clear q25); (try clear hx25); (try clear hf25); (try clear hx222_0); (try clear hx222_1); (try clear hx222_2); (try clear hx222_3); (try clear hx222_4); (try clear hx222_5); (try clear hx223_0); (try clear hx223_1); (try clear hx223_2); (try clear hx223_3); (try clear hx223_4); (try clear hx223_5); (try clear hx224_0); (try clear hx224_1); (try clear hx224_2); (try clear hx224_3); (try clear hx224_4); (try clear hx224_5); (try clear hx226_0); (try clear hx226_1); (try clear hx226_2); (try clear hx226_3); (try clear hx226_4); (try clear hx226_5); (try clear hx230_0); (try clear hx25_0); (try clear p2); (try clear p222); (try clear p223); (try clear p224); (try clear p226); (try clear p230); (try clear p25); (try clear p6); (try clear q2); (try clear q222); (try clear q223); (try clear q224); (try clear q226); (try clear q230); (try clear q25); obtain ⟨x15_2, x16_2, rfl, HA, HK2, HO_11, HO_15, HB⟩ := hrel; cases gk with
     | zero => exact absurd HA.out (by simp [spec_RolesOf.l2])
     | succ k2 =>
      have H := HA.out; clear HA; simp only [spec_RolesOf.l2] at H; replace H := ifD H; rcases H with ⟨c32, H⟩ | ⟨c32, H⟩; rotate_left
      ·have c32b0 : decide (x16_2 ≤ 5) = false := decide_eq_false c32; clear c32; obtain rfl := Option.some.inj H; go_wp2; go_ret; exact ⟨_, by first | rfl | (simp [errW_none, errW_some] <;> rfl) | (simp [*, errW_none, errW_some] <;> rfl), by (with_reducible repeat (first | apply Kd.R_alloc | apply Kd.R_drewN | apply Kd.R_drew)); exact HO_15.out, by repeat (first | (with_reducible first | exact HB.out | apply below_alloc | apply pw_below_drewN | apply below_drew1) | exact HB.out)⟩
      have c32b0 : decide (x16_2 ≤ 5) = true := decide_eq_true c32; clear c32; replace H := ifN H; obtain ⟨c33, H⟩ := H; have c33b0 : decide (0 ≤ x16_2) = true := decide_eq_true c33; clear c33; replace H := ifN H; obtain ⟨c34, H⟩ := H; have c34b0 : decide (x16_2 < (x11_1.length : Int)) = true := decide_eq_true c34; clear c34; obtain ⟨bq35, hbq35⟩ : ∃ b_ : Bool, b_ = (rdOf false x11_1 x16_2) := ⟨_, rfl⟩; replace H : (if bq35 = true then (if x15_2.length < 17592186044416 then (spec_RolesOf.l2 k2 x11_1 (x15_2 ++ [x16_2]) (wrap64 (x16_2 + 1))) else (none)) else (spec_RolesOf.l2 k2 x11_1 x15_2 (wrap64 (x16_2 + 1)))) = some r := by rw [← hbq35] at H; exact H
      have Nbq35 := Aside0.mk hbq35; clear hbq35; by_cases c36 : bq35 = true
      rotate_left
      ·replace c36 := Bool.eq_false_iff.mpr c36; subst c36; have H1 : (spec_RolesOf.l2 k2 x11_1 x15_2 (wrap64 (x16_2 + 1))) = some r := by rw [if_neg (show ¬ (false = true) by decide)] at H; exact H
       clear H; have H := H1; clear H1; have H' := Aside0.mk H; clear H; obtain ⟨Ao40, co40, eo40⟩ := Kd.R_slice HO_11.out; subst eo40; have p235 : 0 ≤ (x16_2 : Int) := of_decide_eq_true (by first | (with_reducible assumption) | assumption); have q235 : x16_2 < (x11_1.length : Int) := of_decide_eq_true (by first | (with_reducible assumption) | assumption); obtain ⟨ad235, e235, hx235_0⟩ := Kd.at_bool (Kd.R_reads' HO_11.out).2.2 x16_2 p235 q235; (try rw [← Nbq35.out] at hx235_0); cases e235; replace p235 := eq_true p235; replace q235 := eq_true q235; go_wp2; go_roundg k2
       case measure => have := HK1.out; have := HK2.out; omega
       case rel => exact ⟨(x15_2), (wrap64 (x16_2 + 1)), (by first | rfl | (simp; done) | (simp [*]; done)), H', ⟨by have := HK1.out; have := HK2.out; omega⟩, ⟨by (with_reducible repeat (first | apply Kd.R_alloc | apply Kd.R_drewN | apply Kd.R_drew)); exact HO_11.out⟩, ⟨by (with_reducible repeat (first | apply Kd.R_alloc | apply Kd.R_drewN | apply Kd.R_drew)); exact HO_15.out⟩, ⟨by repeat (first | (with_reducible first | exact HB.out | apply below_alloc | apply pw_below_drewN | apply below_drew1) | exact HB.out)⟩⟩
      subst c36; have H1 : (if x15_2.length < 17592186044416 then (spec_RolesOf.l2 k2 x11_1 (x15_2 ++ [x16_2]) (wrap64 (x16_2 + 1))) else (none)) = some r := by rw [if_pos rfl] at H; exact H
      clear H; have H := H1; clear H1; replace H := ifN H; obtain ⟨c37, H⟩ := H; have LMc37 := Aside0.mk c37; clear c37; obtain ⟨y236, hy236⟩ : ∃ y_ : List Int, y_ = (x15_2 ++ [x16_2]) := ⟨_, rfl⟩; replace H : (spec_RolesOf.l2 k2 x11_1 y236 (wrap64 (x16_2 + 1))) = some r := by first | (rw [hy236]; with_reducible exact H) | (have H2_ := (Option.bind_some _ _).symm.trans H; rw [hy236]; with_reducible exact H2_) | (have H2_ := (Option.bind_some _ _).symm.trans H; with_reducible exact H2_) | with_reducible exact H | (rw [hy236]; exact H) | exact H
      have Ny236 := Aside0.mk hy236; clear hy236; have H' := Aside0.mk H; clear H; obtain ⟨Ao38, co38, eo38⟩ := Kd.R_slice HO_11.out; subst eo38; have p235 : 0 ≤ (x16_2 : Int) := of_decide_eq_true (by first | (with_reducible assumption) | assumption); have q235 : x16_2 < (x11_1.length : Int) := of_decide_eq_true (by first | (with_reducible assumption) | assumption); obtain ⟨ad235, e235, hx235_0⟩ := Kd.at_bool (Kd.R_reads' HO_11.out).2.2 x16_2 p235 q235; (try rw [← Nbq35.out] at hx235_0); cases e235; replace p235 := eq_true p235; replace q235 := eq_true q235; go_wp2_with (first | ((with_reducible refine gate_builtin (b := .append) (xs := #[.tmp 77, .tmp 79]) rfl ?_); at_builtin; refine Kd.R_append (Kd.int .i64) (w0 := w) w.heap.size rfl (.tmp 77) (.tmp 79) 177 3 (.int .i64 0) 8 rfl Tryz.underlying177 info3 rfl (by decide) (by omega) u15 x15_2 x16_2 [.int .i64 x16_2] (fun _ => True) (fun _ => False) rfl rfl ?aP (fun _ hk => hk.elim) ?aF ?aO ?aB ?aS ?aL ?_; (case aP => exact rfl); (case aB => exact (by repeat (first | (with_reducible first | exact HB.out | apply below_alloc | apply pw_below_drewN | apply below_drew1) | exact HB.out))); (case aF => exact (fun _ _ => trivial)); (case aO => exact (by (with_reducible repeat (first | apply Kd.R_alloc | apply Kd.R_drewN | apply Kd.R_drew)); exact HO_15.out)); (case aS => exact (below_size (by repeat (first | (with_reducible first | exact HB.out | apply below_alloc | apply pw_below_drewN | apply below_drew1) | exact HB.out)))); (case aL => have := LMc37.out; omega); intro v237 w39 ho hb hg hat; rw [← Ny236.out] at ho; have n0_ := Aside0.mk (Kd.R_over' (by (with_reducible repeat (first | apply Kd.R_alloc | apply Kd.R_drewN | apply Kd.R_drew)); exact HO_11.out) (Kd.R_typed (by (with_reducible repeat (first | apply Kd.R_alloc | apply Kd.R_drewN | apply Kd.R_drew)); exact HO_15.out)) (by decide) hg); have n1_ := Aside0.mk (hb); have n2_ := Aside0.mk (ho); clear HO_11; clear HB; clear HO_15; have HO_11 := n0_; have HB := n1_; have HO238 := n2_; clear n0_ n1_ n2_; clear ho hb hg hat))
      go_roundg k2
      case measure => have := HK1.out; have := HK2.out; omega
      case rel => exact ⟨(y236), (wrap64 (x16_2 + 1)), (by first | rfl | (simp; done) | (simp [*]; done)), H', ⟨by have := HK1.out; have := HK2.out; omega⟩, ⟨by (with_reducible repeat (first | apply Kd.R_alloc | apply Kd.R_drewN | apply Kd.R_drew)); exact HO_11.out⟩, ⟨by (with_reducible repeat (first | apply Kd.R_alloc | apply Kd.R_drewN | apply Kd.R_drew)); exact HO238.out⟩, ⟨by repeat (first | (with_reducible first | exact HB.out | apply below_alloc | apply pw_below_drewN | apply below_drew1) | exact HB.out)⟩⟩
   have c9b0 : decide (x12_1 < (l1.length : Int)) = true := decide_eq_true c9; clear c9; have HC10 := Aside0.mk H; clear H; go_upto_region 5 with (fail)
   go_cut [48] (fun v48 wc => ∃ (kq : Nat) (x48_9 : Bool), v48 = .bool x48_9 ∧ Aside0 (spec_RolesOf.j1 kq l0 l1 a2 a3 a4 x11_1 x12_1 x48_9 = some r) ∧ Aside0 (kq ≤ k1) ∧ Aside0 (Kd.R Kd.bool 4 wc w.heap.size (fun _ => True) v220 x11_1) ∧ Aside0 (Below w.heap.size w wc))
   case first =>
    have H := HC10.out; clear HC10; replace H := ifN H; obtain ⟨c11, H⟩ := H; have c11b0 : decide (0 ≤ x12_1) = true := decide_eq_true c11; clear c11; (first | rw [c11b0] | (simp only [i64_w, i32_w]; rw [c11b0]) | skip); replace H := ifD H; rcases H with ⟨c12, H⟩ | ⟨c12, H⟩; rotate_left
    ·have c12b0 : (((rd_T136 l1 x12_1).f0) == 1) = false := beq_eq_false_iff_ne.mpr c12; have c12b1 : (((rd_T136 l1 x12_1).f0) != 1) = true := bne_iff_ne.mpr c12; have H' := Aside0.mk H; clear H; have p222 : 0 ≤ (x12_1 : Int) := of_decide_eq_true (by first | (with_reducible assumption) | assumption); have q222 : x12_1 < (l1.length : Int) := of_decide_eq_true (by first | (with_reducible assumption) | assumption); obtain ⟨ad222, e222, hx222_0, hx222_1, hx222_2, hx222_3, hx222_4, hx222_5⟩ := at_T136 HR1.out x12_1 p222 q222; cases e222; replace hx222_0 := (HB.out.cell (World.block_lt_of_cell? w _ hx222_0)).trans hx222_0; replace hx222_1 := (HB.out.cell (World.block_lt_of_cell? w _ hx222_1)).trans hx222_1; replace hx222_2 := (HB.out.cell (World.block_lt_of_cell? w _ hx222_2)).trans hx222_2; replace hx222_3 := (HB.out.cell (World.block_lt_of_cell? w _ hx222_3)).trans hx222_3; replace hx222_4 := (HB.out.cell (World.block_lt_of_cell? w _ hx222_4)).trans hx222_4; replace hx222_5 := (HB.out.cell (World.block_lt_of_cell? w _ hx222_5)).trans hx222_5; replace p222 := eq_true p222; replace q222 := eq_true q222; go_wp2; go_meet
     case rel => exact ⟨_, (true), (by first | rfl | (simp; done) | (simp [*]; done)), H', ⟨by have := HK1.out; first | omega | exact Nat.le_refl _⟩, ⟨by (with_reducible repeat (first | apply Kd.R_alloc | apply Kd.R_drewN | apply Kd.R_drew)); exact HO_11.out⟩, ⟨by repeat (first | (with_reducible first | exact HB.out | apply below_alloc | apply pw_below_drewN | apply below_drew1) | exact HB.out)⟩⟩
    have c12b0 : (((rd_T136 l1 x12_1).f0) == 1) = true := beq_iff_eq.mpr c12; have c12b1 : (((rd_T136 l1 x12_1).f0) != 1) = false := bne_eq_false_iff_eq.mpr c12; clear c12; replace H := ifD H; rcases H with ⟨c13, H⟩ | ⟨c13, H⟩; rotate_left
    ·have c13b0 : (((rd_T136 l1 x12_1).f1) == a2) = false := beq_eq_false_iff_ne.mpr c13; have c13b1 : (((rd_T136 l1 x12_1).f1) != a2) = true := bne_iff_ne.mpr c13; have H' := Aside0.mk H; clear H; have p222 : 0 ≤ (x12_1 : Int) := of_decide_eq_true (by first | (with_reducible assumption) | assumption); have q222 : x12_1 < (l1.length : Int) := of_decide_eq_true (by first | (with_reducible assumption) | assumption); obtain ⟨ad222, e222, hx222_0, hx222_1, hx222_2, hx222_3, hx222_4, hx222_5⟩ := at_T136 HR1.out x12_1 p222 q222; cases e222; replace hx222_0 := (HB.out.cell (World.block_lt_of_cell? w _ hx222_0)).trans hx222_0; replace hx222_1 := (HB.out.cell (World.block_lt_of_cell? w _ hx222_1)).trans hx222_1; replace hx222_2 := (HB.out.cell (World.block_lt_of_cell? w _ hx222_2)).trans hx222_2; replace hx222_3 := (HB.out.cell (World.block_lt_of_cell? w _ hx222_3)).trans hx222_3; replace hx222_4 := (HB.out.cell (World.block_lt_of_cell? w _ hx222_4)).trans hx222_4; replace hx222_5 := (HB.out.cell (World.block_lt_of_cell? w _ hx222_5)).trans hx222_5; replace p222 := eq_true p222; replace q222 := eq_true q222; have p223 : 0 ≤ (x12_1 : Int) := of_decide_eq_true (by first | (with_reducible assumption) | assumption); have q223 : x12_1 < (l1.length : Int) := of_decide_eq_true (by first | (with_reducible assumption) | assumption); obtain ⟨ad223, e223, hx223_0, hx223_1, hx223_2, hx223_3, hx223_4, hx223_5⟩ := at_T136 HR1.out x12_1 p223 q223; obtain rfl : ad222 = ad223 := (by injection e223); replace hx223_0 := (HB.out.cell (World.block_lt_of_cell? w _ hx223_0)).trans hx223_0; replace hx223_1 := (HB.out.cell (World.block_lt_of_cell? w _ hx223_1)).trans hx223_1; replace hx223_2 := (HB.out.cell (World.block_lt_of_cell? w _ hx223_2)).trans hx223_2; replace hx223_3 := (HB.out.cell (World.block_lt_of_cell? w _ hx223_3)).trans hx223_3; replace hx223_4 := (HB.out.cell (World.block_lt_of_cell? w _ hx223_4)).trans hx223_4; replace hx223_5 := (HB.out.cell (World.block_lt_of_cell? w _ hx223_5)).trans hx223_5; replace p223 := eq_true p223; replace q223 := eq_true q223; go_wp2; go_meet
     case rel => exact ⟨_, (true), (by first | rfl | (simp; done) | (simp [*]; done)), H', ⟨by have := HK1.out; first | omega | exact Nat.le_refl _⟩, ⟨by (with_reducible repeat (first | apply Kd.R_alloc | apply Kd.R_drewN | apply Kd.R_drew)); exact HO_11.out⟩, ⟨by repeat (first | (with_reducible first | exact HB.out | apply below_alloc | apply pw_below_drewN | apply below_drew1) | exact HB.out)⟩⟩
    have c13b0 : (((rd_T136 l1 x12_1).f1) == a2) = true := beq_iff_eq.mpr c13; have c13b1 : (((rd_T136 l1 x12_1).f1) != a2) = false := bne_eq_false_iff_eq.mpr c13; clear c13; replace H := obs H; obtain ⟨t225, A140, H⟩ := H; replace H : (spec_RolesOf.j1 k1 l0 l1 a2 a3 a4 x11_1 x12_1 (!t225)) = some r := H; have A14 := Aside0.mk A140; clear A140; have H' := Aside0.mk H; clear H; have p222 : 0 ≤ (x12_1 : Int) := of_decide_eq_true (by first | (with_reducible assumption) | assumption); have q222 : x12_1 < (l1.length : Int) := of_decide_eq_true (by first | (with_reducible assumption) | assumption); obtain ⟨ad222, e222, hx222_0, hx222_1, hx222_2, hx222_3, hx222_4, hx222_5⟩ := at_T136 HR1.out x12_1 p222 q222; cases e222; replace hx222_0 := (HB.out.cell (World.block_lt_of_cell? w _ hx222_0)).trans hx222_0; replace hx222_1 := (HB.out.cell (World.block_lt_of_cell? w _ hx222_1)).trans hx222_1; replace hx222_2 := (HB.out.cell (World.block_lt_of_cell? w _ hx222_2)).trans hx222_2; replace hx222_3 := (HB.out.cell (World.block_lt_of_cell? w _ hx222_3)).trans hx222_3; replace hx222_4 := (HB.out.cell (World.block_lt_of_cell? w _ hx222_4)).trans hx222_4; replace hx222_5 := (HB.out.cell (World.block_lt_of_cell? w _ hx222_5)).trans hx222_5; replace p222 := eq_true p222; replace q222 := eq_true q222; have p223 : 0 ≤ (x12_1 : Int) := of_decide_eq_true (by first | (with_reducible assumption) | assumption); have q223 : x12_1 < (l1.length : Int) := of_decide_eq_true (by first | (with_reducible assumption) | assumption); obtain ⟨ad223, e223, hx223_0, hx223_1, hx223_2, hx223_3, hx223_4, hx223_5⟩ := at_T136 HR1.out x12_1 p223 q223; obtain rfl : ad222 = ad223 := (by injection e223); replace hx223_0 := (HB.out.cell (World.block_lt_of_cell? w _ hx223_0)).trans hx223_0; replace hx223_1 := (HB.out.cell (World.block_lt_of_cell? w _ hx223_1)).trans hx223_1; replace hx223_2 := (HB.out.cell (World.block_lt_of_cell? w _ hx223_2)).trans hx223_2; replace hx223_3 := (HB.out.cell (World.block_lt_of_cell? w _ hx223_3)).trans hx223_3; replace hx223_4 := (HB.out.cell (World.block_lt_of_cell? w _ hx223_4)).trans hx223_4; replace hx223_5 := (HB.out.cell (World.block_lt_of_cell? w _ hx223_5)).trans hx223_5; replace p223 := eq_true p223; replace q223 := eq_true q223; have p224 : 0 ≤ (x12_1 : Int) := of_decide_eq_true (by first | (with_reducible assumption) | assumption); have q224 : x12_1 < (l1.length : Int) := of_decide_eq_true (by first | (with_reducible assumption) | assumption); obtain ⟨ad224, e224, hx224_0, hx224_1, hx224_2, hx224_3, hx224_4, hx224_5⟩ := at_T136 HR1.out x12_1 p224 q224; obtain rfl : ad222 = ad224 := (by injection e224); replace hx224_0 := (HB.out.cell (World.block_lt_of_cell? w _ hx224_0)).trans hx224_0; replace hx224_1 := (HB.out.cell (World.block_lt_of_cell? w _ hx224_1)).trans hx224_1; replace hx224_2 := (HB.out.cell (World.block_lt_of_cell? w _ hx224_2)).trans hx224_2; replace hx224_3 := (HB.out.cell (World.block_lt_of_cell? w _ hx224_3)).trans hx224_3; replace hx224_4 := (HB.out.cell (World.block_lt_of_cell? w _ hx224_4)).trans hx224_4; replace hx224_5 := (HB.out.cell (World.block_lt_of_cell? w _ hx224_5)).trans hx224_5; replace p224 := eq_true p224; replace q224 := eq_true q224; go_wp2_with (first | (go_at_call 408; (with_reducible refine (spec_HoldsAt.calls ((rd_T136 l1 x12_1).f0) ((rd_T136 l1 x12_1).f1) ((rd_T136 l1 x12_1).f2) ((rd_T136 l1 x12_1).f3) ((rd_T136 l1 x12_1).f4) ((rd_T136 l1 x12_1).f5) a3 a4 t225 _ A14.out).mono ?_); rintro e w15 ⟨rfl, hb⟩; have n0_ := Aside0.mk (Kd.R_below (by (with_reducible repeat (first | apply Kd.R_alloc | apply Kd.R_drewN | apply Kd.R_drew)); exact HO_11.out) hb); have n1_ := Aside0.mk (below_step (by repeat (first | (with_reducible first | exact HB.out | apply below_alloc | apply pw_below_drewN | apply below_drew1) | exact HB.out)) hb); clear HO_11; clear HB; have HO_11 := n0_; have HB := n1_; clear n0_ n1_; (try clear hb); (try clear hb2); (try clear hk); (try clear hi)))
    go_meet
    case rel => exact ⟨_, (!t225), (by first | rfl | (simp; done) | (simp [*]; done)), H', ⟨by have := HK1.out; first | omega | exact Nat.le_refl _⟩, ⟨by (with_reducible repeat (first | apply Kd.R_alloc | apply Kd.R_drewN | apply Kd.R_drew)); exact HO_11.out⟩, ⟨by repeat (first | (with_reducible first | exact HB.out | apply below_alloc | apply pw_below_drewN | apply below_drew1) | exact HB.out)⟩⟩
   case rest =>
    clear HC10; (try clear c1); (try clear p2); (try clear q2); (try clear hx2); (try clear c4); (try clear c6); (try clear c6b0); (try clear c6b1); (try clear c9); (try clear c9b0); (try clear c11); (try clear c11b0); (try clear c12); (try clear c12b0); (try clear c12b1); (try clear c13); (try clear c13b0); (try clear c13b1); (try clear hx222_0); (try clear hx222_1); (try clear hx222_2); (try clear hx222_3); (try clear hx222_4); (try clear hx222_5); (try clear hx223_0); (try clear hx223_1); (try clear hx223_2); (try clear hx223_3); (try clear hx223_4); (try clear hx223_5); (try clear hx224_0); (try clear hx224_1); (try clear hx224_2); (try clear hx224_3); (try clear hx224_4); (try clear hx224_5); (try clear p2); (try clear p222); (try clear p223); (try clear p224); (try clear q222); (try clear q223); (try clear q224); obtain ⟨kq, x48_9, rfl, HA, HJ9, HO_11, HB⟩ := hcut; cases kq with
    | zero => exact absurd HA.out (by simp [spec_RolesOf.j1])
    | succ kj9 =>
     have H := HA.out; clear HA; simp only [spec_RolesOf.j1] at H; by_cases c16 : x48_9 = true
     ·subst c16; have H1 : (spec_RolesOf.l0 kj9 l0 l1 a2 a3 a4 x11_1 (wrap64 (x12_1 + 1))) = some r := by rw [if_pos rfl] at H; exact H
      clear H; have H := H1; clear H1; have H' := Aside0.mk H; clear H; go_wp2; go_roundg kj9
      case measure => have := HK1.out; have := HJ9.out; omega
      case rel => exact ⟨(x11_1), (wrap64 (x12_1 + 1)), (by first | rfl | (simp; done) | (simp [*]; done)), H', ⟨by have := HK1.out; have := HJ9.out; omega⟩, ⟨by (with_reducible repeat (first | apply Kd.R_alloc | apply Kd.R_drewN | apply Kd.R_drew)); exact HO_11.out⟩, ⟨by repeat (first | (with_reducible first | exact HB.out | apply below_alloc | apply pw_below_drewN | apply below_drew1) | exact HB.out)⟩⟩
     replace c16 := Bool.eq_false_iff.mpr c16; subst c16; have H1 : (if 0 ≤ x12_1 then (if x12_1 < (l1.length : Int) then ((spec_RolesUnder.f kj9 l0 ((rd_T136 l1 x12_1).f2)).bind fun t227 => (spec_RolesOf.l1 kj9 l0 l1 a2 a3 a4 x11_1 x12_1 t227 0)) else (none)) else (none)) = some r := by rw [if_neg (show ¬ (false = true) by decide)] at H; exact H
     clear H; have H := H1; clear H1; replace H := ifN H; obtain ⟨c17, H⟩ := H; have c17b0 : decide (0 ≤ x12_1) = true := decide_eq_true c17; clear c17; replace H := ifN H; obtain ⟨c18, H⟩ := H; have c18b0 : decide (x12_1 < (l1.length : Int)) = true := decide_eq_true c18; clear c18; replace H := obs H; obtain ⟨t227, A190, H⟩ := H; replace H : (spec_RolesOf.l1 kj9 l0 l1 a2 a3 a4 x11_1 x12_1 t227 0) = some r := H; have A19 := Aside0.mk A190; clear A190; have H' := Aside0.mk H; clear H; have p226 : 0 ≤ (x12_1 : Int) := of_decide_eq_true (by first | (with_reducible assumption) | assumption); have q226 : x12_1 < (l1.length : Int) := of_decide_eq_true (by first | (with_reducible assumption) | assumption); obtain ⟨ad226, e226, hx226_0, hx226_1, hx226_2, hx226_3, hx226_4, hx226_5⟩ := at_T136 HR1.out x12_1 p226 q226; cases e226; replace hx226_0 := (HB.out.cell (World.block_lt_of_cell? w _ hx226_0)).trans hx226_0; replace hx226_1 := (HB.out.cell (World.block_lt_of_cell? w _ hx226_1)).trans hx226_1; replace hx226_2 := (HB.out.cell (World.block_lt_of_cell? w _ hx226_2)).trans hx226_2; replace hx226_3 := (HB.out.cell (World.block_lt_of_cell? w _ hx226_3)).trans hx226_3; replace hx226_4 := (HB.out.cell (World.block_lt_of_cell? w _ hx226_4)).trans hx226_4; replace hx226_5 := (HB.out.cell (World.block_lt_of_cell? w _ hx226_5)).trans hx226_5; replace p226 := eq_true p226; replace q226 := eq_true q226; go_wp2_with (first | ((with_reducible refine gate_callee (f := 338) rfl ?_); refine goesL_ (some 55) rfl rfl Tryz.func338 (by kernel_rfl) rfl #[.slice A0 l0.length c0, .int .i64 ((rd_T136 l1 x12_1).f2)] rfl (by (try simp only [List.map_toArray, List.map_cons, List.map_nil]); first | done | rfl | (simp only [List.length_drop, List.length_take]; rfl)) ?_; (with_reducible refine (spec_RolesUnder.calls kj9 _ _ l0 ((rd_T136 l1 x12_1).f2) t227 _ ?side1 ?side2 A19.out).mono ?_); (case side1 => repeat (first | exact (Kd.C_below HR0.out HB.out) | (with_reducible refine Kd.C_alloc ?_ _) | (with_reducible refine Kd.C_drewN ?_ _) | (with_reducible refine Kd.C_drew ?_))); (case side2 => exact HC0.out); rintro e w20 ⟨v228, rfl, ho0, hb⟩; refine ⟨_, rfl, ?_⟩; have n0_ := Aside0.mk (Kd.R_below (by (with_reducible repeat (first | apply Kd.R_alloc | apply Kd.R_drewN | apply Kd.R_drew)); exact HO_11.out) hb); have n1_ := Aside0.mk (Kd.R_lower ho0 (below_size (by repeat (first | (with_reducible first | exact HB.out | apply below_alloc | apply pw_below_drewN | apply below_drew1) | exact HB.out)))); have n2_ := Aside0.mk (below_step (by repeat (first | (with_reducible first | exact HB.out | apply below_alloc | apply pw_below_drewN | apply below_drew1) | exact HB.out)) hb); clear HO_11; clear HB; have HO_11 := n0_; have HO229 := n1_; have HB := n2_; clear n0_ n1_ n2_; (try clear hb); (try clear hb2); (try clear hk); (try clear hi); (try clear ho0)))
     go_loopg [14] kj9 (fun kq v14 w' => ∃ (x11_3 : List Bool) (x14_3 : Int), v14 = .int .i64 x14_3 ∧ Aside0 (spec_RolesOf.l1 kq l0 l1 a2 a3 a4 x11_3 x12_1 t227 x14_3 = some r) ∧ Aside0 (kq ≤ kj9) ∧ Aside0 (Kd.R Kd.bool 4 w' w.heap.size (fun _ => True) v220 x11_3) ∧ Aside0 (Kd.R (Kd.int .i64) 3 w' w.heap.size (fun _ => True) v228 t227) ∧ Aside0 (Below w.heap.size w w'))
     case atStart => exact ⟨(x11_1), (0), (by first | rfl | (simp; done) | (simp [*]; done)), H', ⟨Nat.le_refl _⟩, ⟨by (with_reducible repeat (first | apply Kd.R_alloc | apply Kd.R_drewN | apply Kd.R_drew)); exact HO_11.out⟩, ⟨by (with_reducible repeat (first | apply Kd.R_alloc | apply Kd.R_drewN | apply Kd.R_drew)); exact HO229.out⟩, ⟨by repeat (first | (with_reducible first | exact HB.out | apply below_alloc | apply pw_below_drewN | apply below_drew1) | exact HB.out)⟩⟩
     case round =>
      clear H'; (try clear c1); (try clear p2); (try clear q2); (try clear hx2); (try clear c3); (try clear c4); (try clear c6); (try clear c6b0); (try clear c6b1); (try clear p6); (try clear c9); (try clear c9b0); (try clear c11); (try clear c11b0); (try clear c12); (try clear c12b0); (try clear c12b1); (try clear c13); (try clear c13b0); (try clear c13b1); (try clear c16); (try clear c17); (try clear c17b0); (try clear c18); (try clear c18b0); (try clear hx222_0); (try clear hx222_1); (try clear hx222_2); (try clear hx222_3); (try clear hx222_4); (try clear hx222_5); (try clear hx223_0); (try clear hx223_1); (try clear hx223_2); (try clear hx223_3); (try clear hx223_4); (try clear hx223_5); (try clear hx224_0); (try clear hx224_1); (try clear hx224_2); (try clear hx224_3); (try clear hx224_4); (try clear hx224_5); (try clear hx226_0); (try clear hx226_1); (try clear hx226_2); (try clear hx226_3); (try clear hx226_4); (try clear hx226_5); (try clear p2); (try clear p222); (try clear p223); (try clear p224); (try clear p226); (try clear q2); (try clear q222); (try clear q223); (try clear q224); (try clear q226); obtain ⟨x11_3, x14_3, rfl, HA, HK3, HO_11, HO_13, HB⟩ := hrel; cases gk with
      | zero => exact absurd HA.out (by simp [spec_RolesOf.l1])
      | succ k3 =>
       have H := HA.out; clear HA; simp only [spec_RolesOf.l1] at H; replace H := ifD H; rcases H with ⟨c21, H⟩ | ⟨c21, H⟩; rotate_left
       ·have c21b0 : decide (x14_3 < (t227.length : Int)) = false := decide_eq_false c21; clear c21; have H' := Aside0.mk H; clear H; obtain ⟨Ao29, co29, eo29⟩ := Kd.R_slice HO_13.out; subst eo29; go_wp2; go_roundg k3
        case measure => have := HK1.out; have := HJ9.out; have := HK3.out; omega
        case rel => exact ⟨(x11_3), (wrap64 (x12_1 + 1)), (by first | rfl | (simp; done) | (simp [*]; done)), H', ⟨by have := HK1.out; have := HJ9.out; have := HK3.out; omega⟩, ⟨by (with_reducible repeat (first | apply Kd.R_alloc | apply Kd.R_drewN | apply Kd.R_drew)); exact HO_11.out⟩, ⟨by repeat (first | (with_reducible first | exact HB.out | apply below_alloc | apply pw_below_drewN | apply below_drew1) | exact HB.out)⟩⟩
       have c21b0 : decide (x14_3 < (t227.length : Int)) = true := decide_eq_true c21; clear c21; replace H := ifN H; obtain ⟨c22, H⟩ := H; have c22b0 : decide (0 ≤ x14_3) = true := decide_eq_true c22; clear c22; replace H := ifN H; obtain ⟨c23, H⟩ := H; have c23b0 : decide (0 ≤ (rd t227 x14_3)) = true := decide_eq_true c23; clear c23; replace H := ifN H; obtain ⟨c24, H⟩ := H; have c24b0 : decide ((rd t227 x14_3) < (x11_3.length : Int)) = true := decide_eq_true c24; clear c24; obtain ⟨y231, hy231⟩ : ∃ y_ : List Bool, y_ = (x11_3.set ((rd t227 x14_3) : Int).toNat true) := ⟨_, rfl⟩; replace H : (spec_RolesOf.l1 k3 l0 l1 a2 a3 a4 y231 x12_1 t227 (wrap64 (x14_3 + 1))) = some r := by first | (rw [hy231]; with_reducible exact H) | (have H2_ := (Option.bind_some _ _).symm.trans H; rw [hy231]; with_reducible exact H2_) | (have H2_ := (Option.bind_some _ _).symm.trans H; with_reducible exact H2_) | with_reducible exact H | (rw [hy231]; exact H) | exact H
       have Ny231 := Aside0.mk hy231; clear hy231; have H' := Aside0.mk H; clear H; obtain ⟨Ao26, co26, eo26⟩ := Kd.R_slice HO_13.out; subst eo26; have p230 : 0 ≤ (x14_3 : Int) := of_decide_eq_true (by first | (with_reducible assumption) | assumption); have q230 : x14_3 < (t227.length : Int) := of_decide_eq_true (by first | (with_reducible assumption) | assumption); obtain ⟨ad230, e230, hx230_0⟩ := Kd.at_int (Kd.R_reads' HO_13.out).2.2 x14_3 p230 q230; cases e230; replace p230 := eq_true p230; replace q230 := eq_true q230; have p25 : 0 ≤ ((rd t227 x14_3) : Int) := of_decide_eq_true (by first | (with_reducible assumption) | assumption); have q25 : ((rd t227 x14_3) : Int) < ((x11_3.length : Int) : Int) := of_decide_eq_true (by first | (with_reducible assumption) | assumption); obtain ⟨go25, co25, eo25, gb25, gl25, cl25, HG25⟩ := Kd.R_form HO_11.out (by omega); (first | cases eo25 | (injection eo25 with ea_ en_ ec_; (first | subst ea_ | (injection ea_ with ea_; subst ea_)); subst ec_; clear en_)); have GB25 := Aside0.mk gb25; have GG25 := Aside0.mk HG25; clear gb25 gl25 HG25; obtain ⟨hx25_0, hf25_0⟩ := Kd.R_celln false HO_11.out ((rd t227 x14_3) : Int) p25 q25; replace p25 := eq_true p25; replace q25 := eq_true q25; have HP27 := Kd.R_putg HO_11.out ((rd t227 x14_3) : Int) true; go_wp2_with (first | ((with_reducible refine gate_store (t := 4) (p := 67) rfl ?_); refine store_event (t := 4) (p := 67) (v := ?vo_w28) (w1 := (wr.setCell ⟨go25, ((rd t227 x14_3) : Int).toNat, none⟩ (.bool true))) ?hg ?ho ?hn ?hr ?_; (case ho => rfl); (case hg => rfl); (case hn => rfl); (case hr => first | (go_simp; done) | (go_simp; rfl)); intro w28 hw; have hg : wr.grownBy w28 (some go25) := (by rw [hw]; exact HP27.2); have hp_ : Kd.R Kd.bool 4 w28 w.heap.size (fun _ => True) (.slice (some ⟨go25, 0, none⟩) x11_3.length co25) y231 := (by rw [hw, Ny231.out]; exact HP27.1); clear HP27; have n0_ := Aside0.mk (hp_); have n1_ := Aside0.mk (Kd.R_over' (v := (.slice (some ⟨go25, 0, none⟩) x11_3.length co25)) (by (with_reducible repeat (first | apply Kd.R_alloc | apply Kd.R_drewN | apply Kd.R_drew)); exact HO_13.out) (Kd.R_typed HO_11.out) (by decide) hg); have n2_ := Aside0.mk ((by rw [hw]; exact below_set (HB.out) GB25.out : Below w.heap.size w w28)); clear HO_11; clear HO_13; clear HB; have HO_11 := n0_; have HO_13 := n1_; have HB := n2_; clear n0_ n1_ n2_; clear hg hw hp_))
       go_roundg k3
       case measure => have := HK1.out; have := HJ9.out; have := HK3.out; omega
       case rel => exact ⟨(y231), (wrap64 (x14_3 + 1)), (by first | rfl | (simp; done) | (simp [*]; done)), H', ⟨by have := HK1.out; have := HJ9.out; have := HK3.out; omega⟩, ⟨by (with_reducible repeat (first | apply Kd.R_alloc | apply Kd.R_drewN | apply Kd.R_drew)); exact HO_11.out⟩, ⟨by (with_reducible repeat (first | apply Kd.R_alloc | apply Kd.R_drewN | apply Kd.R_drew)); exact HO_13.out⟩, ⟨by repeat (first | (with_reducible first | exact HB.out | apply below_alloc | apply pw_below_drewN | apply below_drew1) | exact HB.out)⟩⟩
def spec_HasRole.f (k : Nat) (l0 : List (S154)) (l1 : List (S136)) (a2 : Int) (a3 : Int) (a4 : Int) (a5 : Int) : Option (Bool) := (spec_RolesOf.f k l0 l1 a2 a4 a5).bind fun t239 => ((spec_l13Has.f k t239 a3).bind fun t242 => (some t242))
theorem spec_HasRole.calls (k : Nat) (A0 : Option Addr) (c0 : Nat) (l0 : List (S154)) (A1 : Option Addr) (c1 : Nat) (l1 : List (S136)) (a2 : Int) (a3 : Int) (a4 : Int) (a5 : Int) (r : Bool) (w : World) (hr0 : Kd.C k154 w A0 l0.length l0) (hc0 : l0.length ≤ c0) (hr1 : Kd.C k136 w A1 l1.length l1) (hc1 : l1.length ≤ c1) (h : spec_HasRole.f k l0 l1 a2 a3 a4 a5 = some r) :
  Calls Tryz.prog 398 #[.slice A0 l0.length c0, .slice A1 l1.length c1, .int .i64 a2, .int .i64 a3, .int .i64 a4, .int .i64 a5] w fun e w' => e = .returned (.bool r) ∧ Below w.heap.size w w' := by
 have HR0 := Aside0.mk hr0
 have HC0 := Aside0.mk hc0
 clear hr0 hc0
 have HR1 := Aside0.mk hr1
 have HC1 := Aside0.mk hc1
 clear hr1 hc1
 have HB := Aside0.mk (Below.refl w.heap.size w)
 have H := h
 clear h
 unfold spec_HasRole.f at H
 go_enter Tryz.func398, Tryz.ntmps398
 replace H := obs H
 obtain ⟨t239, hm, H⟩ := H
 (try dsimp only at H)
 replace H := Aside0.mk H
 have hcall := spec_RolesOf.calls k _ _ _ _ _ _ _ _ _ _ w (Kd.C_below HR0.out HB.out) HC0.out (Kd.C_below HR1.out HB.out) HC1.out hm
 clear hm
 (go_wp2_with fail)
 refine hcall.mono ?_
 rintro e W1 ⟨v240, rfl, ho0, hb⟩
 clear hcall
 obtain ⟨A1_0, _, c1_0, rfl, rfl, hr_⟩ := R_made ho0 HB.out.size; clear ho0; have HO1_0 := Aside0.mk hr_; clear hr_
 replace HB := bH HB hb; clear hb
 replace H := H.out
 replace H := obs H
 obtain ⟨t242, hm, H⟩ := H
 (try dsimp only at H)
 replace H := Aside0.mk H
 have hcall := spec_l13Has.calls k _ _ _ _ _ W1 (R_C HO1_0.out) (R_len HO1_0.out) hm
 clear hm
 (go_wp2_with fail)
 refine hcall.mono ?_
 rintro e W2 ⟨rfl, hb⟩
 clear hcall
 replace HO1_0 := bR HO1_0 hb
 replace HB := bH HB hb; clear hb
 replace H := H.out
 cases H
 go_wp2
 go_ret
 exact ⟨rfl, HB.out⟩
def spec_FindFact.l0 : Nat → List (S136) → Int → Int → Int → Int → Int → Int → Option (Int)
 | 0, _, _, _, _, _, _, _ => none
 | k + 1, x0, x1, x2, x3, x4, x5, x13 => if x13 < (x0.length : Int) then (if 0 ≤ x13 then (if ((rd_T136 x0 x13).f0) = x1 then (if ((rd_T136 x0 x13).f1) = x2 then (if ((rd_T136 x0 x13).f2) = x3 then ((spec_HoldsAt.f ((rd_T136 x0 x13).f0) ((rd_T136 x0 x13).f1) ((rd_T136 x0 x13).f2) ((rd_T136 x0 x13).f3) ((rd_T136 x0 x13).f4) ((rd_T136 x0 x13).f5) x4 x5).bind fun t247 => (if t247 = true then (some x13) else (spec_FindFact.l0 k x0 x1 x2 x3 x4 x5 (wrap64 (x13 + 1))))) else (spec_FindFact.l0 k x0 x1 x2 x3 x4 x5 (wrap64 (x13 + 1)))) else (spec_FindFact.l0 k x0 x1 x2 x3 x4 x5 (wrap64 (x13 + 1)))) else (spec_FindFact.l0 k x0 x1 x2 x3 x4 x5 (wrap64 (x13 + 1)))) else (none)) else (some (-1))
def spec_FindFact.f (k : Nat) (l0 : List (S136)) (a1 : Int) (a2 : Int) (a3 : Int) (a4 : Int) (a5 : Int) : Option (Int) := spec_FindFact.l0 k l0 a1 a2 a3 a4 a5 0
theorem spec_FindFact.calls (k : Nat) (A0 : Option Addr) (c0 : Nat) (l0 : List (S136)) (a1 : Int) (a2 : Int) (a3 : Int) (a4 : Int) (a5 : Int) (r : Int) (w : World) (hr0 : Kd.C k136 w A0 l0.length l0) (hc0 : l0.length ≤ c0) (h : spec_FindFact.f k l0 a1 a2 a3 a4 a5 = some r) :
  Calls Tryz.prog 399 #[.slice A0 l0.length c0, .int .i64 a1, .int .i64 a2, .int .i64 a3, .int .i64 a4, .int .i64 a5] w fun e w' => e = .returned (.int .i64 r) ∧ Below w.heap.size w w' := by
 have HR0 := Aside0.mk hr0
 have HC0 := Aside0.mk hc0
 clear hr0 hc0
 have HB := Aside0.mk (Below.refl w.heap.size w)
 have H := h
 clear h
 unfold spec_FindFact.f at H
 have hu136 := Tryz.underlying136
 go_enter Tryz.func399, Tryz.ntmps399
 replace H := Aside0.mk H
 go_wp2
 go_loopg [13] k (fun kq v13 w' => ∃ (x13_1 : Int), v13 = .int .i64 x13_1 ∧ Aside0 (spec_FindFact.l0 kq l0 a1 a2 a3 a4 a5 x13_1 = some r) ∧ Aside0 (kq ≤ k) ∧ Aside0 (Below w.heap.size w w'))
 case atStart => exact ⟨(0), (by first | rfl | (simp; done) | (simp [*]; done)), H, ⟨Nat.le_refl _⟩, HB⟩
 case round =>
  clear H HB 
  obtain ⟨x13_1, rfl, HA, Hk1, HB⟩ := hrel
  cases gk with
  | zero => exact absurd HA.out (by simp [spec_FindFact.l0])
  | succ k1 =>
   have H := HA.out; clear HA; simp only [spec_FindFact.l0] at H; replace H := ifD H; rcases H with ⟨c2, H⟩ | ⟨c2, H⟩; rotate_left
   ·have c2_0 := decF c2; replace c2 := Aside0.mk c2; (try rw [c2_0]); cases H; go_wp2; go_ret; exact ⟨rfl, HB.out⟩
   have c2_0 := decT c2; replace c2 := Aside0.mk c2; (try rw [c2_0]); replace H := ifN H; obtain ⟨c3, H⟩ := H; have c3_0 := decT c3; replace c3 := Aside0.mk c3; (try rw [c3_0]); have p243 : 0 ≤ (x13_1 : Int) := (of_decide_eq_true (by assumption)); have q243 : x13_1 < (l0.length : Int) := (of_decide_eq_true (by assumption)); obtain ⟨ad243, e243, hx243_0, hx243_1, hx243_2, hx243_3, hx243_4, hx243_5⟩ := at_T136 HR0.out x13_1 p243 q243; cases e243; replace hx243_0 := Aside0.mk hx243_0; have y243_0 := xC HB hx243_0; replace hx243_1 := Aside0.mk hx243_1; have y243_1 := xC HB hx243_1; replace hx243_2 := Aside0.mk hx243_2; have y243_2 := xC HB hx243_2; replace hx243_3 := Aside0.mk hx243_3; have y243_3 := xC HB hx243_3; replace hx243_4 := Aside0.mk hx243_4; have y243_4 := xC HB hx243_4; replace hx243_5 := Aside0.mk hx243_5; have y243_5 := xC HB hx243_5; have r243 := eq_true p243; have s243 := eq_true q243; replace p243 := Aside0.mk p243; replace q243 := Aside0.mk q243; replace H := ifD H; rcases H with ⟨c4, H⟩ | ⟨c4, H⟩; rotate_left
   ·obtain ⟨c4_0, c4_1, c4_2⟩ := d3F c4; clear c4; (first | rw [c4_1] | rw [c4_2] | skip); replace H := Aside0.mk H; go_wp2; go_roundg k1
    case measure => have := Hk1.out; omega
    case rel => exact ⟨(wrap64 (x13_1 + 1)), (by first | rfl | (simp; done) | (simp [*]; done)), H, ⟨by have := Hk1.out; omega⟩, HB⟩
   obtain ⟨c4_0, c4_1, c4_2⟩ := d3T c4; clear c4; (first | rw [c4_1] | rw [c4_2] | skip); replace H := ifD H; rcases H with ⟨c5, H⟩ | ⟨c5, H⟩; rotate_left
   ·obtain ⟨c5_0, c5_1, c5_2⟩ := d3F c5; clear c5; (first | rw [c5_1] | rw [c5_2] | skip); replace H := Aside0.mk H; go_wp2; go_roundg k1
    case measure => have := Hk1.out; omega
    case rel => exact ⟨(wrap64 (x13_1 + 1)), (by first | rfl | (simp; done) | (simp [*]; done)), H, ⟨by have := Hk1.out; omega⟩, HB⟩
   obtain ⟨c5_0, c5_1, c5_2⟩ := d3T c5; clear c5; (first | rw [c5_1] | rw [c5_2] | skip); replace H := ifD H; rcases H with ⟨c6, H⟩ | ⟨c6, H⟩; rotate_left
   ·obtain ⟨c6_0, c6_1, c6_2⟩ := d3F c6; clear c6; (first | rw [c6_1] | rw [c6_2] | skip); replace H := Aside0.mk H; go_wp2; go_roundg k1
    case measure => have := Hk1.out; omega
    case rel => exact ⟨(wrap64 (x13_1 + 1)), (by first | rfl | (simp; done) | (simp [*]; done)), H, ⟨by have := Hk1.out; omega⟩, HB⟩
   obtain ⟨c6_0, c6_1, c6_2⟩ := d3T c6; clear c6; (first | rw [c6_1] | rw [c6_2] | skip); replace H := obs H; obtain ⟨t247, hm, H⟩ := H; (try dsimp only at H); replace H := Aside0.mk H; have hcall := spec_HoldsAt.calls _ _ _ _ _ _ _ _ _ wr  hm; clear hm; (go_wp2_with fail)
   refine hcall.mono ?_; rintro e W7 ⟨rfl, hb⟩; clear hcall; (try clear y243_0 y243_1 y243_2 y243_3 y243_4 y243_5); replace HB := bH HB hb; clear hb; replace H := ifD H.out; rcases H with ⟨c8, H⟩ | ⟨c8, H⟩
   ·subst c8; cases H; go_wp2; go_ret; exact ⟨rfl, HB.out⟩
   replace c8 := nT c8; subst c8; replace H := Aside0.mk H; go_wp2; go_roundg k1
   case measure => have := Hk1.out; omega
   case rel => exact ⟨(wrap64 (x13_1 + 1)), (by first | rfl | (simp; done) | (simp [*]; done)), H, ⟨by have := Hk1.out; omega⟩, HB⟩
def spec_Max.f (a0 : Int) (a1 : Int) : Option (Int) := if a1 > a0 then (some a1) else (some a0)
theorem spec_Max.calls (a0 : Int) (a1 : Int) (r : Int) (w : World) (h : spec_Max.f a0 a1 = some r) :
  Calls Tryz.prog 274 #[.int .i64 a0, .int .i64 a1] w fun e w' => e = .returned (.int .i64 r) ∧ Below w.heap.size w w' := by
 have HB := Aside0.mk (Below.refl w.heap.size w)
 have H := h
 clear h
 unfold spec_Max.f at H
 go_enter Tryz.func274, Tryz.ntmps274
 replace H := ifD H; rcases H with ⟨c1, H⟩ | ⟨c1, H⟩
 ·replace c1 : a0 < a1 := c1
  have c1_0 := decT c1
  replace c1 := Aside0.mk c1
  (try rw [c1_0])
  cases H
  go_wp2
  go_ret
  exact ⟨rfl, HB.out⟩
 replace c1 : ¬ (a0 < a1) := c1
 have c1_0 := decF c1
 replace c1 := Aside0.mk c1
 (try rw [c1_0])
 cases H
 go_wp2
 go_ret
 exact ⟨rfl, HB.out⟩
def spec_BestValue.l0 : Nat → List (S136) → Int → Int → Int → Int → Int → Int → Option (Int)
 | 0, _, _, _, _, _, _, _ => none
 | k + 1, x0, x1, x2, x3, x4, x11, x12 => if x12 < (x0.length : Int) then (if 0 ≤ x12 then (if ((rd_T136 x0 x12).f0) = x1 then (if ((rd_T136 x0 x12).f1) = x2 then ((spec_HoldsAt.f ((rd_T136 x0 x12).f0) ((rd_T136 x0 x12).f1) ((rd_T136 x0 x12).f2) ((rd_T136 x0 x12).f3) ((rd_T136 x0 x12).f4) ((rd_T136 x0 x12).f5) x3 x4).bind fun t251 => (if t251 = true then ((spec_Max.f x11 ((rd_T136 x0 x12).f2)).bind fun t253 => (spec_BestValue.l0 k x0 x1 x2 x3 x4 t253 (wrap64 (x12 + 1)))) else (spec_BestValue.l0 k x0 x1 x2 x3 x4 x11 (wrap64 (x12 + 1))))) else (spec_BestValue.l0 k x0 x1 x2 x3 x4 x11 (wrap64 (x12 + 1)))) else (spec_BestValue.l0 k x0 x1 x2 x3 x4 x11 (wrap64 (x12 + 1)))) else (none)) else (some x11)
def spec_BestValue.f (k : Nat) (l0 : List (S136)) (a1 : Int) (a2 : Int) (a3 : Int) (a4 : Int) : Option (Int) := spec_BestValue.l0 k l0 a1 a2 a3 a4 (-1) 0
theorem spec_BestValue.calls (k : Nat) (A0 : Option Addr) (c0 : Nat) (l0 : List (S136)) (a1 : Int) (a2 : Int) (a3 : Int) (a4 : Int) (r : Int) (w : World) (hr0 : Kd.C k136 w A0 l0.length l0) (hc0 : l0.length ≤ c0) (h : spec_BestValue.f k l0 a1 a2 a3 a4 = some r) :
  Calls Tryz.prog 400 #[.slice A0 l0.length c0, .int .i64 a1, .int .i64 a2, .int .i64 a3, .int .i64 a4] w fun e w' => e = .returned (.int .i64 r) ∧ Below w.heap.size w w' := by
 have HR0 := Aside0.mk hr0
 have HC0 := Aside0.mk hc0
 clear hr0 hc0
 have HB := Aside0.mk (Below.refl w.heap.size w)
 have H := h
 clear h
 unfold spec_BestValue.f at H
 have hu136 := Tryz.underlying136
 go_enter Tryz.func400, Tryz.ntmps400
 replace H := Aside0.mk H
 go_wp2
 go_loopg [11, 12] k (fun kq v11 v12 w' => ∃ (x11_1 : Int) (x12_1 : Int), v11 = .int .i64 x11_1 ∧ v12 = .int .i64 x12_1 ∧ Aside0 (spec_BestValue.l0 kq l0 a1 a2 a3 a4 x11_1 x12_1 = some r) ∧ Aside0 (kq ≤ k) ∧ Aside0 (Below w.heap.size w w'))
 case atStart => exact ⟨((-1)), (0), (by first | rfl | (simp; done) | (simp [*]; done)), (by first | rfl | (simp; done) | (simp [*]; done)), H, ⟨Nat.le_refl _⟩, HB⟩
 case round =>
  clear H HB 
  obtain ⟨x11_1, x12_1, rfl, rfl, HA, Hk1, HB⟩ := hrel
  cases gk with
  | zero => exact absurd HA.out (by simp [spec_BestValue.l0])
  | succ k1 =>
   have H := HA.out; clear HA; simp only [spec_BestValue.l0] at H; replace H := ifD H; rcases H with ⟨c2, H⟩ | ⟨c2, H⟩; rotate_left
   ·have c2_0 := decF c2; replace c2 := Aside0.mk c2; (try rw [c2_0]); cases H; go_wp2; go_ret; exact ⟨rfl, HB.out⟩
   have c2_0 := decT c2; replace c2 := Aside0.mk c2; (try rw [c2_0]); replace H := ifN H; obtain ⟨c3, H⟩ := H; have c3_0 := decT c3; replace c3 := Aside0.mk c3; (try rw [c3_0]); have p248 : 0 ≤ (x12_1 : Int) := (of_decide_eq_true (by assumption)); have q248 : x12_1 < (l0.length : Int) := (of_decide_eq_true (by assumption)); obtain ⟨ad248, e248, hx248_0, hx248_1, hx248_2, hx248_3, hx248_4, hx248_5⟩ := at_T136 HR0.out x12_1 p248 q248; cases e248; replace hx248_0 := Aside0.mk hx248_0; have y248_0 := xC HB hx248_0; replace hx248_1 := Aside0.mk hx248_1; have y248_1 := xC HB hx248_1; replace hx248_2 := Aside0.mk hx248_2; have y248_2 := xC HB hx248_2; replace hx248_3 := Aside0.mk hx248_3; have y248_3 := xC HB hx248_3; replace hx248_4 := Aside0.mk hx248_4; have y248_4 := xC HB hx248_4; replace hx248_5 := Aside0.mk hx248_5; have y248_5 := xC HB hx248_5; have r248 := eq_true p248; have s248 := eq_true q248; replace p248 := Aside0.mk p248; replace q248 := Aside0.mk q248; replace H := ifD H; rcases H with ⟨c4, H⟩ | ⟨c4, H⟩; rotate_left
   ·obtain ⟨c4_0, c4_1, c4_2⟩ := d3F c4; clear c4; (first | rw [c4_1] | rw [c4_2] | skip); replace H := Aside0.mk H; go_wp2; go_roundg k1
    case measure => have := Hk1.out; omega
    case rel => exact ⟨(x11_1), (wrap64 (x12_1 + 1)), (by first | rfl | (simp; done) | (simp [*]; done)), (by first | rfl | (simp; done) | (simp [*]; done)), H, ⟨by have := Hk1.out; omega⟩, HB⟩
   obtain ⟨c4_0, c4_1, c4_2⟩ := d3T c4; clear c4; (first | rw [c4_1] | rw [c4_2] | skip); replace H := ifD H; rcases H with ⟨c5, H⟩ | ⟨c5, H⟩; rotate_left
   ·obtain ⟨c5_0, c5_1, c5_2⟩ := d3F c5; clear c5; (first | rw [c5_1] | rw [c5_2] | skip); replace H := Aside0.mk H; go_wp2; go_roundg k1
    case measure => have := Hk1.out; omega
    case rel => exact ⟨(x11_1), (wrap64 (x12_1 + 1)), (by first | rfl | (simp; done) | (simp [*]; done)), (by first | rfl | (simp; done) | (simp [*]; done)), H, ⟨by have := Hk1.out; omega⟩, HB⟩
   obtain ⟨c5_0, c5_1, c5_2⟩ := d3T c5; clear c5; (first | rw [c5_1] | rw [c5_2] | skip); replace H := obs H; obtain ⟨t251, hm, H⟩ := H; (try dsimp only at H); replace H := Aside0.mk H; have hcall := spec_HoldsAt.calls _ _ _ _ _ _ _ _ _ wr  hm; clear hm; (go_wp2_with fail)
   refine hcall.mono ?_; rintro e W6 ⟨rfl, hb⟩; clear hcall; (try clear y248_0 y248_1 y248_2 y248_3 y248_4 y248_5); replace HB := bH HB hb; clear hb; replace H := ifD H.out; rcases H with ⟨c7, H⟩ | ⟨c7, H⟩; rotate_left
   ·replace c7 := nT c7; subst c7; replace H := Aside0.mk H; go_wp2; go_roundg k1
    case measure => have := Hk1.out; omega
    case rel => exact ⟨(x11_1), (wrap64 (x12_1 + 1)), (by first | rfl | (simp; done) | (simp [*]; done)), (by first | rfl | (simp; done) | (simp [*]; done)), H, ⟨by have := Hk1.out; omega⟩, HB⟩
   subst c7; have y248_0 := xC HB hx248_0; have y248_1 := xC HB hx248_1; have y248_2 := xC HB hx248_2; have y248_3 := xC HB hx248_3; have y248_4 := xC HB hx248_4; have y248_5 := xC HB hx248_5; replace H := obs H; obtain ⟨t253, hm, H⟩ := H; (try dsimp only at H); replace H := Aside0.mk H; have hcall := spec_Max.calls _ _ _ W6  hm; clear hm; (go_wp2_with fail)
   refine hcall.mono ?_; rintro e W8 ⟨rfl, hb⟩; clear hcall; (try clear y248_0 y248_1 y248_2 y248_3 y248_4 y248_5); replace HB := bH HB hb; clear hb; go_wp2; go_roundg k1
   case measure => have := Hk1.out; omega
   case rel => exact ⟨(t253), (wrap64 (x12_1 + 1)), (by first | rfl | (simp; done) | (simp [*]; done)), (by first | rfl | (simp; done) | (simp [*]; done)), H, ⟨by have := Hk1.out; omega⟩, HB⟩
end Go.Proofs.YtmgfklmhelabcaaGreat.QFnExactDecisionUntil
