/- The machine side of FnDelegated: what each function that it reaches computes, and that the machine's call gives just that. -/
import Derived.Test.YtplfbjbbnjlnkaaQFnDelegatedx0
import Derived.Test.YtplfbjbbnjlnkaaQFnDelegatedx1
import Derived.Test.YtplfbjbbnjlnkaaQFnDelegatedx2
namespace Go.Proofs.Ytplfbjbbnjlnkaa.QFnDelegated
open Go.RowKit Go.Proofs.YtplfbjbbnjlnkaaW.PrintWords Go.Proofs.YtplfbjbbnjlnkaaW.PrintLast Go.Proofs.YtplfbjbbnjlnkaaW.PrintMore
attribute [local go_sem] max2_int min2_int max_two min_two max_three min_three max_four min_four   -- for this text's walks alone
set_option linter.unusedVariables false
set_option linter.unusedSimpArgs false

/-! ### spec_MayActFor: function 47 -/
def spec_MayActFor.f (k : Nat) (l0 : List (S51)) (a1 : Int) (a2 : Int) (a3 : Int) (a4 : Int) : Option (Int) := (spec_IsGrantGood.f k l0 a1 a4).bind fun t178 => (if t178 = true then (if 0 ≤ (wrap64 (a1 - 1)) then (if (wrap64 (a1 - 1)) < (l0.length : Int) then (if ((rd_T51 l0 (wrap64 (a1 - 1))).f2) = a2 then ((spec_l13Has.f k ((rd_T51 l0 (wrap64 (a1 - 1))).f3) a3).bind fun t181 => (if t181 = true then ((spec_RootOf.f k l0 a1).bind fun t182 => (some t182)) else (some 0))) else (some 0)) else (none)) else (none)) else (some 0))
open Go.Proofs.YtplfbjbbnjlnkaaM in
set_option maxHeartbeats 8000000 in
set_option maxRecDepth 100000 in
theorem spec_MayActFor.calls (k : Nat) (A0 : Option Addr) (c0 : Nat) (l0 : List (S51)) (a1 : Int) (a2 : Int) (a3 : Int) (a4 : Int) (r : Int) (w : World) (hr0 : Kd.C k51 w A0 l0.length l0) (hc0 : l0.length ≤ c0) (h : spec_MayActFor.f k l0 a1 a2 a3 a4 = some r) :
  Calls Try.prog 47 #[.slice A0 l0.length c0, .int .i64 a1, .int .i64 a2, .int .i64 a3, .int .i64 a4] w fun e w' => e = .returned (.int .i64 r) ∧ Below w.heap.size w w' := by
 have HR0 := Aside0.mk hr0
 have HC0 := Aside0.mk hc0
 clear hr0 hc0
 have HB := Aside0.mk (Below.refl w.heap.size w)
 have H := h
 clear h
 unfold spec_MayActFor.f at H
 have hu51 := Try.underlying51
 go_enter Try.func47, Try.ntmps47
 replace H := Option.bind_eq_some_iff.mp H
 obtain ⟨t178, hm, H⟩ := H
 try dsimp only at H
 replace H := Aside0.mk H
 have hcall := spec_IsGrantGood.calls k _ _ _ _ _ _ w (Kd.C_below HR0.out HB.out) HC0.out hm
 clear hm
 go_wp2_with fail
 refine hcall.mono ?_
 rintro e W1 ⟨rfl, hb⟩
 clear hcall
 replace HB := bH HB hb; clear hb
 replace H := H.out
 replace H := ifD H; rcases H with ⟨c2, H⟩ | ⟨c2, H⟩
 ·subst c2
  replace H := ifN H; obtain ⟨c3, H⟩ := H
  have c3_0 := decT c3
  replace c3 := Aside0.mk c3
  first | rw [c3_0] | skip
  replace H := ifN H; obtain ⟨c4, H⟩ := H
  have c4_0 := decT c4
  replace c4 := Aside0.mk c4
  first | rw [c4_0] | skip
  have p179 : 0 ≤ ((wrap64 (a1 - 1)) : Int) := (of_decide_eq_true (by assumption))
  have q179 : (wrap64 (a1 - 1)) < (l0.length : Int) := (of_decide_eq_true (by assumption))
  obtain ⟨ad179, A179_3, c179_3, e179, hx179_0, hx179_1, hx179_2, hx179_3, hx179_4, hx179_5, hx179_6, hl179_3, hi179_3⟩ := at_T51 HR0.out (wrap64 (a1 - 1)) p179 q179
  cases e179
  have HR179_3 := Aside0.mk hi179_3; have HC179_3 := Aside0.mk hl179_3; clear hi179_3 hl179_3
  replace hx179_0 := Aside0.mk hx179_0
  have y179_0 := xC HB hx179_0
  replace hx179_1 := Aside0.mk hx179_1
  have y179_1 := xC HB hx179_1
  replace hx179_2 := Aside0.mk hx179_2
  have y179_2 := xC HB hx179_2
  replace hx179_3 := Aside0.mk hx179_3
  have y179_3 := xC HB hx179_3
  replace hx179_4 := Aside0.mk hx179_4
  have y179_4 := xC HB hx179_4
  replace hx179_5 := Aside0.mk hx179_5
  have y179_5 := xC HB hx179_5
  replace hx179_6 := Aside0.mk hx179_6
  have y179_6 := xC HB hx179_6
  have r179 := eq_true p179; have s179 := eq_true q179
  replace p179 := Aside0.mk p179; replace q179 := Aside0.mk q179
  replace H := ifD H; rcases H with ⟨c5, H⟩ | ⟨c5, H⟩
  ·have c5_0 := decT c5; have c5_1 := eqT c5; have c5_2 := neT c5
   clear c5
   first | rw [c5_1] | rw [c5_2] | skip
   replace H := Option.bind_eq_some_iff.mp H
   obtain ⟨t181, hm, H⟩ := H
   try dsimp only at H
   replace H := Aside0.mk H
   have hcall := spec_l13Has.calls k _ _ _ _ _ W1 (Kd.C_below HR179_3.out HB.out) HC179_3.out hm
   clear hm
   go_wp2_with fail
   refine hcall.mono ?_
   rintro e W6 ⟨rfl, hb⟩
   clear hcall
   try clear y179_0 y179_1 y179_2 y179_3 y179_4 y179_5 y179_6
   replace HB := bH HB hb; clear hb
   replace H := H.out
   replace H := ifD H; rcases H with ⟨c7, H⟩ | ⟨c7, H⟩
   ·subst c7
    replace H := Option.bind_eq_some_iff.mp H
    obtain ⟨t182, hm, H⟩ := H
    try dsimp only at H
    replace H := Aside0.mk H
    have hcall := spec_RootOf.calls k _ _ _ _ _ W6 (Kd.C_below HR0.out HB.out) HC0.out hm
    clear hm
    go_wp2_with fail
    refine hcall.mono ?_
    rintro e W8 ⟨rfl, hb⟩
    clear hcall
    replace HB := bH HB hb; clear hb
    replace H := H.out
    obtain rfl := Option.some.inj H
    clear H
    go_wp2
    go_ret
    exact ⟨rfl, HB.out⟩
   ·replace c7 := (Bool.not_eq_true _).mp c7
    subst c7
    obtain rfl := Option.some.inj H
    clear H
    go_wp2
    go_ret
    exact ⟨rfl, HB.out⟩
  ·have c5_0 := decF c5; have c5_1 := eqF c5; have c5_2 := neF c5
   clear c5
   first | rw [c5_1] | rw [c5_2] | skip
   obtain rfl := Option.some.inj H
   clear H
   go_wp2
   go_ret
   exact ⟨rfl, HB.out⟩
 ·replace c2 := (Bool.not_eq_true _).mp c2
  subst c2
  obtain rfl := Option.some.inj H
  clear H
  go_wp2
  go_ret
  exact ⟨rfl, HB.out⟩

/-! ### impl_ChainOf: function 51 -/
def impl_ChainOf.l0 : Nat → List (S51) → Int → List Int → Option (List Int)
 | 0, _, _, _ => none
 | k + 1, x0, x1, x5 => if x1 = 0 then (some x5) else (if x5.length < 17592186044416 then (if 0 ≤ (wrap64 (x1 - 1)) then (if (wrap64 (x1 - 1)) < (x0.length : Int) then (impl_ChainOf.l0 k x0 ((rd_T51 x0 (wrap64 (x1 - 1))).f5) (x5 ++ [x1])) else (none)) else (none)) else (none))
def impl_ChainOf.f (k : Nat) (l0 : List (S51)) (a1 : Int) : Option (List Int) := (some (([] : List Int) : List Int)).bind fun y183 => ((impl_hasGrant.f k l0 a1).bind fun t186 => (if t186 = true then (impl_ChainOf.l0 k l0 a1 y183) else (some y183)))
set_option maxHeartbeats 8000000 in
set_option maxRecDepth 100000 in
theorem impl_ChainOf.calls (k : Nat) (A0 : Option Addr) (c0 : Nat) (l0 : List (S51)) (a1 : Int) (r : List Int) (w : World) (hr0 : Kd.C k51 w A0 l0.length l0) (hc0 : l0.length ≤ c0) (h : impl_ChainOf.f k l0 a1 = some r) :
  Calls Try.prog 51 #[.slice A0 l0.length c0, .int .i64 a1] w fun e w' => ∃ v0_ : Value, e = .returned (v0_) ∧ Kd.R (Kd.int .i64) 3 w' w.heap.size (fun _ => True) v0_ r ∧ Below w.heap.size w w' := by
 have HR0 := Aside0.mk hr0
 have HC0 := Aside0.mk hc0
 clear hr0 hc0
 have HB := Aside0.mk (Below.refl w.heap.size w)
 have H : ((some (([] : List Int) : List Int)).bind fun y183 => ((impl_hasGrant.f k l0 a1).bind fun t186 => (if t186 = true then (impl_ChainOf.l0 k l0 a1 y183) else (some y183)))) = some r := h
 clear h
 obtain ⟨y183, hy183⟩ : ∃ y_ : List Int, y_ = (([] : List Int)) := ⟨_, rfl⟩
 replace H : ((impl_hasGrant.f k l0 a1).bind fun t186 => (if t186 = true then (impl_ChainOf.l0 k l0 a1 y183) else (some y183))) = some r := by first | (rw [hy183]; with_reducible exact H) | (have H2_ := (Option.bind_some _ _).symm.trans H; rw [hy183]; with_reducible exact H2_) | (have H2_ := (Option.bind_some _ _).symm.trans H; with_reducible exact H2_) | with_reducible exact H | (rw [hy183]; exact H) | exact H
 have Ny183 := Aside0.mk hy183
 clear hy183
 replace H := Option.bind_eq_some_iff.mp H
 obtain ⟨t186, A30, H⟩ := H
 replace H : (if t186 = true then (impl_ChainOf.l0 k l0 a1 y183) else (some y183)) = some r := H
 have A3 := Aside0.mk A30
 clear A30
 by_cases c4 : t186 = true
 ·subst c4
  have H1 : (impl_ChainOf.l0 k l0 a1 y183) = some r := by rw [if_pos rfl] at H; exact H
  clear H
  have H := H1
  clear H1
  have H' := Aside0.mk H
  clear H
  go_enter Try.func51, Try.ntmps51
  go_wp2_with (first | ((with_reducible refine gate_dst (N := 6) rfl ?_); refine Kd.R_lit (Kd.int .i64) _ 3 ?hg (N := 6) ?hd (xs := ([] : List Int)) (inner := []) (ok := fun _ => True) (okp := fun _ => True) ?hr ?hp (fun _ hk => hk) trivial (Below.refl _ _) (Nat.le_refl _) (by simp) ?_; (case hd => rfl); (case hg => rfl); (case hr => first | (go_simp; done) | (go_simp; rfl)); (case hp => exact (Reps.none _ _)); intro v184 w5 ho6 hb hg_ hnew_; clear hg_ hnew_; (first | rw [← Ny183.out] at ho6 | (simp only [Int.reduceToNat] at ho6; rw [← Ny183.out] at ho6)); have n0_ := Aside0.mk (Kd.R_lower ho6 (below_size (by repeat (first | (with_reducible first | exact HB.out | apply below_alloc | apply pw_below_drewN | apply below_drew1) | exact HB.out)))); have n1_ := Aside0.mk (below_step (by repeat (first | (with_reducible first | exact HB.out | apply below_alloc | apply pw_below_drewN | apply below_drew1) | exact HB.out)) hb); clear HB; have HO185 := n0_; have HB := n1_; clear n0_ n1_; clear hb ho6) | ((with_reducible refine gate_callee (f := 98) rfl ?_); refine goesL_ (some 9) rfl rfl Try.func98 (by kernel_rfl) rfl #[.slice A0 l0.length c0, .int .i64 a1] rfl (by (try simp only [List.map_toArray, List.map_cons, List.map_nil]); first | done | rfl | (simp only [List.length_drop, List.length_take]; rfl)) ?_; (with_reducible refine (impl_hasGrant.calls k _ _ l0 a1 true _ ?side1 ?side2 A3.out).mono ?_); (case side1 => repeat (first | exact (Kd.C_below HR0.out HB.out) | (with_reducible refine Kd.C_alloc ?_ _) | (with_reducible refine Kd.C_drewN ?_ _) | (with_reducible refine Kd.C_drew ?_))); (case side2 => exact HC0.out); rintro e w7 ⟨rfl, hb⟩; refine ⟨_, rfl, ?_⟩; have n0_ := Aside0.mk (Kd.R_below (by (with_reducible repeat (first | apply Kd.R_alloc | apply Kd.R_drewN | apply Kd.R_drew)); exact HO185.out) hb); have n1_ := Aside0.mk (below_step (by repeat (first | (with_reducible first | exact HB.out | apply below_alloc | apply pw_below_drewN | apply below_drew1) | exact HB.out)) hb); clear HO185; clear HB; have HO185 := n0_; have HB := n1_; clear n0_ n1_; (try clear hb); (try clear hb2); (try clear hk); (try clear hi)))
  go_loopg [1, 5] k (fun kq v1 v5 w' => ∃ (x1_1 : Int) (x5_1 : List Int), v1 = .int .i64 x1_1 ∧ Aside0 (impl_ChainOf.l0 kq l0 x1_1 x5_1 = some r) ∧ Aside0 (kq ≤ k) ∧ Aside0 (Kd.R (Kd.int .i64) 3 w' w.heap.size (fun _ => True) v5 x5_1) ∧ Aside0 (Below w.heap.size w w'))
  case atStart => exact ⟨(a1), (y183), (by first | rfl | (simp; done) | (simp [*]; done)), H', ⟨Nat.le_refl _⟩, ⟨by (with_reducible repeat (first | apply Kd.R_alloc | apply Kd.R_drewN | apply Kd.R_drew)); exact HO185.out⟩, ⟨by repeat (first | (with_reducible first | exact HB.out | apply below_alloc | apply pw_below_drewN | apply below_drew1) | exact HB.out)⟩⟩
  case round =>
   clear H'
   try clear p2
   try clear c4
   try clear c5
   obtain ⟨x1_1, x5_1, rfl, HA, HK1, HO_5, HB⟩ := hrel
   cases gk with
   | zero => exact absurd HA.out (by simp [impl_ChainOf.l0])
   | succ k1 =>
    have H := HA.out
    clear HA
    simp only [impl_ChainOf.l0] at H
    replace H := ifD H; rcases H with ⟨c8, H⟩ | ⟨c8, H⟩
    ·have c8b0 : (x1_1 == 0) = true := beq_iff_eq.mpr c8
     have c8b1 : (x1_1 != 0) = false := bne_eq_false_iff_eq.mpr c8
     clear c8
     obtain rfl := Option.some.inj H
     go_wp2
     go_ret
     exact ⟨_, by first | rfl | (simp [errW_none, errW_some] <;> rfl) | (simp [*, errW_none, errW_some] <;> rfl), by (with_reducible repeat (first | apply Kd.R_alloc | apply Kd.R_drewN | apply Kd.R_drew)); exact HO_5.out, by repeat (first | (with_reducible first | exact HB.out | apply below_alloc | apply pw_below_drewN | apply below_drew1) | exact HB.out)⟩
    ·have c8b0 : (x1_1 == 0) = false := beq_eq_false_iff_ne.mpr c8
     have c8b1 : (x1_1 != 0) = true := bne_iff_ne.mpr c8
     replace H := ifN H; obtain ⟨c9, H⟩ := H
     have LMc9 := Aside0.mk c9
     clear c9
     obtain ⟨y187, hy187⟩ : ∃ y_ : List Int, y_ = (x5_1 ++ [x1_1]) := ⟨_, rfl⟩
     replace H : (if 0 ≤ (wrap64 (x1_1 - 1)) then (if (wrap64 (x1_1 - 1)) < (l0.length : Int) then (impl_ChainOf.l0 k1 l0 ((rd_T51 l0 (wrap64 (x1_1 - 1))).f5) y187) else (none)) else (none)) = some r := by first | (rw [hy187]; with_reducible exact H) | (have H2_ := (Option.bind_some _ _).symm.trans H; rw [hy187]; with_reducible exact H2_) | (have H2_ := (Option.bind_some _ _).symm.trans H; with_reducible exact H2_) | with_reducible exact H | (rw [hy187]; exact H) | exact H
     have Ny187 := Aside0.mk hy187
     clear hy187
     obtain ⟨ji10, hji10⟩ : ∃ j_ : Int, (wrap64 (x1_1 - 1)) = j_ := ⟨_, rfl⟩
     replace H : (if 0 ≤ (ji10) then (if (ji10) < (l0.length : Int) then (impl_ChainOf.l0 k1 l0 ((rd_T51 l0 (ji10)).f5) y187) else (none)) else (none)) = some r := by first | (rw [hji10] at H; exact H) | (simp only [hji10] at H ⊢; exact H)
     have hji10w : (IntKind.i64.wrap (x1_1 - 1)) = ji10 := (i64_w _).trans hji10
     replace H := ifN H; obtain ⟨c11, H⟩ := H
     have c11b0 : decide (0 ≤ (ji10)) = true := decide_eq_true c11
     clear c11
     replace H := ifN H; obtain ⟨c12, H⟩ := H
     have c12b0 : decide ((ji10) < (l0.length : Int)) = true := decide_eq_true c12
     clear c12
     have H' := Aside0.mk H
     clear H
     go_wp2_with (first | ((with_reducible refine gate_builtin (b := .append) (xs := #[.tmp 20, .tmp 22]) rfl ?_); at_builtin; refine Kd.R_append (Kd.int .i64) (w0 := w) w.heap.size rfl (.tmp 20) (.tmp 22) 46 3 (.int .i64 0) 8 rfl Try.underlying46 info3 rfl (by decide) (by omega) u5 x5_1 x1_1 [.int .i64 x1_1] (fun _ => True) (fun _ => False) rfl rfl ?aP (fun _ hk => hk.elim) ?aF ?aO ?aB ?aS ?aL ?_; (case aP => exact rfl); (case aB => exact (by repeat (first | (with_reducible first | exact HB.out | apply below_alloc | apply pw_below_drewN | apply below_drew1) | exact HB.out))); (case aF => exact (fun _ _ => trivial)); (case aO => exact (by (with_reducible repeat (first | apply Kd.R_alloc | apply Kd.R_drewN | apply Kd.R_drew)); exact HO_5.out)); (case aS => exact (below_size (by repeat (first | (with_reducible first | exact HB.out | apply below_alloc | apply pw_below_drewN | apply below_drew1) | exact HB.out)))); (case aL => have := LMc9.out; omega); intro v188 w13 ho hb hg hat; rw [← Ny187.out] at ho; have n0_ := Aside0.mk (hb); have n1_ := Aside0.mk (ho); clear HB; clear HO_5; have HB := n0_; have HO189 := n1_; clear n0_ n1_; clear ho hb hg hat; have p190 : 0 ≤ ((ji10) : Int) := of_decide_eq_true (by first | (with_reducible assumption) | assumption); have q190 : (ji10) < (l0.length : Int) := of_decide_eq_true (by first | (with_reducible assumption) | assumption); obtain ⟨ad190, A190_3, c190_3, e190, hx190_0, hx190_1, hx190_2, hx190_3, hx190_4, hx190_5, hx190_6, hl190_3, hi190_3⟩ := at_T51 HR0.out (ji10) p190 q190; cases e190; replace hx190_0 := (HB.out.cell (World.block_lt_of_cell? w _ hx190_0)).trans hx190_0; replace hx190_1 := (HB.out.cell (World.block_lt_of_cell? w _ hx190_1)).trans hx190_1; replace hx190_2 := (HB.out.cell (World.block_lt_of_cell? w _ hx190_2)).trans hx190_2; replace hx190_3 := (HB.out.cell (World.block_lt_of_cell? w _ hx190_3)).trans hx190_3; replace hx190_4 := (HB.out.cell (World.block_lt_of_cell? w _ hx190_4)).trans hx190_4; replace hx190_5 := (HB.out.cell (World.block_lt_of_cell? w _ hx190_5)).trans hx190_5; replace hx190_6 := (HB.out.cell (World.block_lt_of_cell? w _ hx190_6)).trans hx190_6; have HR190_3 := Aside0.mk hi190_3; have HC190_3 := Aside0.mk hl190_3; clear hi190_3 hl190_3; replace p190 := eq_true p190; replace q190 := eq_true q190))
     go_roundg k1
     case measure => have := HK1.out; omega
     case rel => exact ⟨((rd_T51 l0 (ji10)).f5), (y187), (by first | rfl | (simp; done) | (simp only [← hji10] <;> (first | rfl | simp)) | (simp [*]; done)), H', ⟨by have := HK1.out; omega⟩, ⟨by (with_reducible repeat (first | apply Kd.R_alloc | apply Kd.R_drewN | apply Kd.R_drew)); exact HO189.out⟩, ⟨by repeat (first | (with_reducible first | exact HB.out | apply below_alloc | apply pw_below_drewN | apply below_drew1) | exact HB.out)⟩⟩
 ·replace c4 := Bool.eq_false_iff.mpr c4
  subst c4
  have H1 : (some y183) = some r := by rw [if_neg (show ¬ (false = true) by decide)] at H; exact H
  clear H
  have H := H1
  clear H1
  obtain rfl := Option.some.inj H
  go_enter Try.func51, Try.ntmps51
  go_wp2_with (first | ((with_reducible refine gate_dst (N := 6) rfl ?_); refine Kd.R_lit (Kd.int .i64) _ 3 ?hg (N := 6) ?hd (xs := ([] : List Int)) (inner := []) (ok := fun _ => True) (okp := fun _ => True) ?hr ?hp (fun _ hk => hk) trivial (Below.refl _ _) (Nat.le_refl _) (by simp) ?_; (case hd => rfl); (case hg => rfl); (case hr => first | (go_simp; done) | (go_simp; rfl)); (case hp => exact (Reps.none _ _)); intro v184 w14 ho15 hb hg_ hnew_; clear hg_ hnew_; (first | rw [← Ny183.out] at ho15 | (simp only [Int.reduceToNat] at ho15; rw [← Ny183.out] at ho15)); have n0_ := Aside0.mk (Kd.R_lower ho15 (below_size (by repeat (first | (with_reducible first | exact HB.out | apply below_alloc | apply pw_below_drewN | apply below_drew1) | exact HB.out)))); have n1_ := Aside0.mk (below_step (by repeat (first | (with_reducible first | exact HB.out | apply below_alloc | apply pw_below_drewN | apply below_drew1) | exact HB.out)) hb); clear HB; have HO185 := n0_; have HB := n1_; clear n0_ n1_; clear hb ho15) | ((with_reducible refine gate_callee (f := 98) rfl ?_); refine goesL_ (some 9) rfl rfl Try.func98 (by kernel_rfl) rfl #[.slice A0 l0.length c0, .int .i64 a1] rfl (by (try simp only [List.map_toArray, List.map_cons, List.map_nil]); first | done | rfl | (simp only [List.length_drop, List.length_take]; rfl)) ?_; (with_reducible refine (impl_hasGrant.calls k _ _ l0 a1 false _ ?side1 ?side2 A3.out).mono ?_); (case side1 => repeat (first | exact (Kd.C_below HR0.out HB.out) | (with_reducible refine Kd.C_alloc ?_ _) | (with_reducible refine Kd.C_drewN ?_ _) | (with_reducible refine Kd.C_drew ?_))); (case side2 => exact HC0.out); rintro e w16 ⟨rfl, hb⟩; refine ⟨_, rfl, ?_⟩; have n0_ := Aside0.mk (Kd.R_below (by (with_reducible repeat (first | apply Kd.R_alloc | apply Kd.R_drewN | apply Kd.R_drew)); exact HO185.out) hb); have n1_ := Aside0.mk (below_step (by repeat (first | (with_reducible first | exact HB.out | apply below_alloc | apply pw_below_drewN | apply below_drew1) | exact HB.out)) hb); clear HO185; clear HB; have HO185 := n0_; have HB := n1_; clear n0_ n1_; (try clear hb); (try clear hb2); (try clear hk); (try clear hi)))
  go_ret
  exact ⟨_, by first | rfl | (simp [errW_none, errW_some] <;> rfl) | (simp [*, errW_none, errW_some] <;> rfl), by (with_reducible repeat (first | apply Kd.R_alloc | apply Kd.R_drewN | apply Kd.R_drew)); exact HO185.out, by repeat (first | (with_reducible first | exact HB.out | apply below_alloc | apply pw_below_drewN | apply below_drew1) | exact HB.out)⟩

/-! ### impl_RootOf: function 53 -/
def impl_RootOf.f (k : Nat) (l0 : List (S51)) (a1 : Int) : Option (Int) := (impl_ChainOf.f k l0 a1).bind fun t191 => (if (t191.length : Int) = 0 then (some 0) else (if 0 ≤ (wrap64 ((t191.length : Int) - 1)) then (if (wrap64 ((t191.length : Int) - 1)) < (t191.length : Int) then (if 0 ≤ (wrap64 ((rd t191 (wrap64 ((t191.length : Int) - 1))) - 1)) then (if (wrap64 ((rd t191 (wrap64 ((t191.length : Int) - 1))) - 1)) < (l0.length : Int) then (some ((rd_T51 l0 (wrap64 ((rd t191 (wrap64 ((t191.length : Int) - 1))) - 1))).f1)) else (none)) else (none)) else (none)) else (none)))
set_option maxHeartbeats 8000000 in
set_option maxRecDepth 100000 in
theorem impl_RootOf.calls (k : Nat) (A0 : Option Addr) (c0 : Nat) (l0 : List (S51)) (a1 : Int) (r : Int) (w : World) (hr0 : Kd.C k51 w A0 l0.length l0) (hc0 : l0.length ≤ c0) (h : impl_RootOf.f k l0 a1 = some r) :
  Calls Try.prog 53 #[.slice A0 l0.length c0, .int .i64 a1] w fun e w' => e = .returned (.int .i64 r) ∧ Below w.heap.size w w' := by
 have HR0 := Aside0.mk hr0
 have HC0 := Aside0.mk hc0
 clear hr0 hc0
 have HB := Aside0.mk (Below.refl w.heap.size w)
 have H : ((impl_ChainOf.f k l0 a1).bind fun t191 => (if (t191.length : Int) = 0 then (some 0) else (if 0 ≤ (wrap64 ((t191.length : Int) - 1)) then (if (wrap64 ((t191.length : Int) - 1)) < (t191.length : Int) then (if 0 ≤ (wrap64 ((rd t191 (wrap64 ((t191.length : Int) - 1))) - 1)) then (if (wrap64 ((rd t191 (wrap64 ((t191.length : Int) - 1))) - 1)) < (l0.length : Int) then (some ((rd_T51 l0 (wrap64 ((rd t191 (wrap64 ((t191.length : Int) - 1))) - 1))).f1)) else (none)) else (none)) else (none)) else (none)))) = some r := h
 clear h
 replace H := Option.bind_eq_some_iff.mp H
 obtain ⟨t191, A30, H⟩ := H
 replace H : (if (t191.length : Int) = 0 then (some 0) else (if 0 ≤ (wrap64 ((t191.length : Int) - 1)) then (if (wrap64 ((t191.length : Int) - 1)) < (t191.length : Int) then (if 0 ≤ (wrap64 ((rd t191 (wrap64 ((t191.length : Int) - 1))) - 1)) then (if (wrap64 ((rd t191 (wrap64 ((t191.length : Int) - 1))) - 1)) < (l0.length : Int) then (some ((rd_T51 l0 (wrap64 ((rd t191 (wrap64 ((t191.length : Int) - 1))) - 1))).f1)) else (none)) else (none)) else (none)) else (none))) = some r := H
 have A3 := Aside0.mk A30
 clear A30
 replace H := ifD H; rcases H with ⟨c4, H⟩ | ⟨c4, H⟩
 ·have c4b0 : ((t191.length : Int) == 0) = true := beq_iff_eq.mpr c4
  have c4b1 : ((t191.length : Int) != 0) = false := bne_eq_false_iff_eq.mpr c4
  clear c4
  obtain rfl := Option.some.inj H
  go_enter Try.func53, Try.ntmps53
  go_wp2_with (first | ((with_reducible refine gate_callee (f := 51) rfl ?_); refine goesL_ (some 8) rfl rfl Try.func51 (by kernel_rfl) rfl #[.slice A0 l0.length c0, .int .i64 a1] rfl (by (try simp only [List.map_toArray, List.map_cons, List.map_nil]); first | done | rfl | (simp only [List.length_drop, List.length_take]; rfl)) ?_; (with_reducible refine (impl_ChainOf.calls k _ _ l0 a1 t191 _ ?side1 ?side2 A3.out).mono ?_); (case side1 => repeat (first | exact HR0.out | (with_reducible refine Kd.C_alloc ?_ _) | (with_reducible refine Kd.C_drewN ?_ _) | (with_reducible refine Kd.C_drew ?_))); (case side2 => exact HC0.out); rintro e w5 ⟨v192, rfl, ho0, hb⟩; refine ⟨_, rfl, ?_⟩; have n0_ := Aside0.mk (Kd.R_lower ho0 (below_size (by repeat (first | (with_reducible first | exact HB.out | apply below_alloc | apply pw_below_drewN | apply below_drew1) | exact HB.out)))); have n1_ := Aside0.mk (below_step (by repeat (first | (with_reducible first | exact HB.out | apply below_alloc | apply pw_below_drewN | apply below_drew1) | exact HB.out)) hb); clear HB; have HO193 := n0_; have HB := n1_; clear n0_ n1_; (try clear hb); (try clear hb2); (try clear hk); (try clear hi); (try clear ho0); obtain ⟨Ao6, co6, eo6⟩ := Kd.R_slice HO193.out; subst eo6))
  go_ret
  exact ⟨by first | rfl | (simp [errW_none, errW_some] <;> rfl) | (simp [*, errW_none, errW_some] <;> rfl), by repeat (first | (with_reducible first | exact HB.out | apply below_alloc | apply pw_below_drewN | apply below_drew1) | exact HB.out)⟩
 ·have c4b0 : ((t191.length : Int) == 0) = false := beq_eq_false_iff_ne.mpr c4
  have c4b1 : ((t191.length : Int) != 0) = true := bne_iff_ne.mpr c4
  have c4b2 : ¬ (t191 = []) := fun h_ => c4 (by rw [h_]; rfl)
  obtain ⟨ji7, hji7⟩ : ∃ j_ : Int, (wrap64 ((t191.length : Int) - 1)) = j_ := ⟨_, rfl⟩
  replace H : (if 0 ≤ (ji7) then (if (ji7) < (t191.length : Int) then (if 0 ≤ (wrap64 ((rd t191 (ji7)) - 1)) then (if (wrap64 ((rd t191 (ji7)) - 1)) < (l0.length : Int) then (some ((rd_T51 l0 (wrap64 ((rd t191 (ji7)) - 1))).f1)) else (none)) else (none)) else (none)) else (none)) = some r := by first | (rw [hji7] at H; exact H) | (simp only [hji7] at H ⊢; exact H)
  (try rw [hji7] at A3)
  have hji7w : (IntKind.i64.wrap ((t191.length : Int) - 1)) = ji7 := (i64_w _).trans hji7
  replace H := ifN H; obtain ⟨c8, H⟩ := H
  have c8b0 : decide (0 ≤ (ji7)) = true := decide_eq_true c8
  clear c8
  replace H := ifN H; obtain ⟨c9, H⟩ := H
  have c9b0 : decide ((ji7) < (t191.length : Int)) = true := decide_eq_true c9
  clear c9
  obtain ⟨ji10, hji10⟩ : ∃ j_ : Int, (wrap64 ((rd t191 (ji7)) - 1)) = j_ := ⟨_, rfl⟩
  replace H : (if 0 ≤ (ji10) then (if (ji10) < (l0.length : Int) then (some ((rd_T51 l0 (ji10)).f1)) else (none)) else (none)) = some r := by first | (rw [hji10] at H; exact H) | (simp only [hji10] at H ⊢; exact H)
  (try rw [hji10] at A3)
  have hji10w : (IntKind.i64.wrap ((rd t191 (ji7)) - 1)) = ji10 := (i64_w _).trans hji10
  replace H := ifN H; obtain ⟨c11, H⟩ := H
  have c11b0 : decide (0 ≤ (ji10)) = true := decide_eq_true c11
  clear c11
  replace H := ifN H; obtain ⟨c12, H⟩ := H
  have c12b0 : decide ((ji10) < (l0.length : Int)) = true := decide_eq_true c12
  clear c12
  obtain rfl := Option.some.inj H
  go_enter Try.func53, Try.ntmps53
  go_wp2_with (first | ((with_reducible refine gate_callee (f := 51) rfl ?_); refine goesL_ (some 8) rfl rfl Try.func51 (by kernel_rfl) rfl #[.slice A0 l0.length c0, .int .i64 a1] rfl (by (try simp only [List.map_toArray, List.map_cons, List.map_nil]); first | done | rfl | (simp only [List.length_drop, List.length_take]; rfl)) ?_; (with_reducible refine (impl_ChainOf.calls k _ _ l0 a1 t191 _ ?side1 ?side2 A3.out).mono ?_); (case side1 => repeat (first | exact HR0.out | (with_reducible refine Kd.C_alloc ?_ _) | (with_reducible refine Kd.C_drewN ?_ _) | (with_reducible refine Kd.C_drew ?_))); (case side2 => exact HC0.out); rintro e w13 ⟨v192, rfl, ho0, hb⟩; refine ⟨_, rfl, ?_⟩; have n0_ := Aside0.mk (Kd.R_lower ho0 (below_size (by repeat (first | (with_reducible first | exact HB.out | apply below_alloc | apply pw_below_drewN | apply below_drew1) | exact HB.out)))); have n1_ := Aside0.mk (below_step (by repeat (first | (with_reducible first | exact HB.out | apply below_alloc | apply pw_below_drewN | apply below_drew1) | exact HB.out)) hb); clear HB; have HO193 := n0_; have HB := n1_; clear n0_ n1_; (try clear hb); (try clear hb2); (try clear hk); (try clear hi); (try clear ho0); obtain ⟨Ao14, co14, eo14⟩ := Kd.R_slice HO193.out; subst eo14; have p194 : 0 ≤ ((ji7) : Int) := of_decide_eq_true (by first | (with_reducible assumption) | assumption); have q194 : (ji7) < (t191.length : Int) := of_decide_eq_true (by first | (with_reducible assumption) | assumption); obtain ⟨ad194, e194, hx194_0⟩ := Kd.at_int (Kd.R_reads' HO193.out).2.2 (ji7) p194 q194; cases e194; replace p194 := eq_true p194; replace q194 := eq_true q194; have p195 : 0 ≤ ((ji10) : Int) := of_decide_eq_true (by first | (with_reducible assumption) | assumption); have q195 : (ji10) < (l0.length : Int) := of_decide_eq_true (by first | (with_reducible assumption) | assumption); obtain ⟨ad195, A195_3, c195_3, e195, hx195_0, hx195_1, hx195_2, hx195_3, hx195_4, hx195_5, hx195_6, hl195_3, hi195_3⟩ := at_T51 HR0.out (ji10) p195 q195; cases e195; replace hx195_0 := (HB.out.cell (World.block_lt_of_cell? w _ hx195_0)).trans hx195_0; replace hx195_1 := (HB.out.cell (World.block_lt_of_cell? w _ hx195_1)).trans hx195_1; replace hx195_2 := (HB.out.cell (World.block_lt_of_cell? w _ hx195_2)).trans hx195_2; replace hx195_3 := (HB.out.cell (World.block_lt_of_cell? w _ hx195_3)).trans hx195_3; replace hx195_4 := (HB.out.cell (World.block_lt_of_cell? w _ hx195_4)).trans hx195_4; replace hx195_5 := (HB.out.cell (World.block_lt_of_cell? w _ hx195_5)).trans hx195_5; replace hx195_6 := (HB.out.cell (World.block_lt_of_cell? w _ hx195_6)).trans hx195_6; have HR195_3 := Aside0.mk hi195_3; have HC195_3 := Aside0.mk hl195_3; clear hi195_3 hl195_3; replace p195 := eq_true p195; replace q195 := eq_true q195))
  go_ret
  exact ⟨by first | rfl | (simp [errW_none, errW_some] <;> rfl) | (simp only [← hji7, ← hji10]; first | rfl | (simp [errW_none, errW_some] <;> rfl)) | (simp [*, errW_none, errW_some] <;> rfl), by repeat (first | (with_reducible first | exact HB.out | apply below_alloc | apply pw_below_drewN | apply below_drew1) | exact HB.out)⟩
/-! ### ixf188: function 188 -/
set_option maxHeartbeats 8000000 in
set_option maxRecDepth 100000 in
open Go.Proofs.YtplfbjbbnjlnkaaH in
theorem ixf188.calls (g : Nat) (lb : Array Value) (eg : ∀ args w, (callFunc g args).run Try.prog w = .ok (.enter g args) w) (p : Int → Option Bool) (A0 : Option Addr) (c0 : Nat) (l0 : List Int) (r : Int) (w : World)
  (hp : ∀ (W : World) (x : Int) (b : Bool), Below w.heap.size w W → p x = some b → Calls Try.prog g (#[.int .i64 x] ++ lb) W fun e w' => e = .returned (.bool b) ∧ Below w.heap.size w w')
  (hr0 : (Kd.int .i64).C w A0 l0.length l0) (hc0 : l0.length ≤ c0) (h : idxO p l0 0 = some r) :
  Calls Try.prog 188 #[.slice A0 l0.length c0, .func (.func g) #[] lb] w fun e w' => e = .returned (.int .i64 r) ∧ Below w.heap.size w w' := by
 have HLEN : Aside0 (l0.length ≤ 9223372036854775807) := ⟨hr0.2.1⟩
 have HR0 := Aside0.mk hr0
 have HC0 := Aside0.mk hc0
 have HP := Aside0.mk hp
 have H' := Aside0.mk (show idxO p (l0.drop (0 : Int).toNat) 0 = some r from h)
 clear hr0 hc0 h hp
 go_enter Try.func188, Try.ntmps188
 go_wp2
 go_loopg [5, 8] l0.length (fun gg _ v8 wr => ∃ x : Int, v8 = .int .i64 x ∧ Aside0 (0 ≤ x ∧ x ≤ l0.length ∧ l0.length - x.toNat ≤ gg) ∧ Aside0 (Below w.heap.size w wr) ∧ Aside0 (idxO p (l0.drop x.toNat) x = some r))
 case atStart => exact ⟨0, rfl, ⟨by omega, by omega, by omega⟩, ⟨Below.refl _ w⟩, H'⟩
 case round =>
  clear H'
  obtain ⟨x, rfl, HX, BW, HA⟩ := hrel
  by_cases hlt : x < (l0.length : Int)
  ·have c2b0 : decide (x < (l0.length : Int)) = true := decide_eq_true hlt
   have p1 : 0 ≤ x := HX.out.1
   have q1 : x < (l0.length : Int) := hlt
   obtain ⟨b, hb, ht, hf⟩ := idxO_at (z := (0 : Int)) HA.out p1 q1
   have HB := Aside0.mk hb
   have HQ := Aside0.mk hlt
   clear hb HA
   obtain ⟨ad, e0, hx0⟩ := Kd.at_int (Kd.C_below HR0.out BW.out) x p1 q1
   cases e0
   have hcall := HP.out wr (rd l0 x) b BW.out HB.out
   have p1' := eq_true p1
   have q1' := eq_true q1
   clear p1 q1 hlt
   cases b with
   | true =>
    have HT := Aside0.mk (ht rfl)
    clear ht hf
    go_wp2_with fail
    refine hcall.mono ?_
    rintro e w' ⟨rfl, hb'⟩
    clear hcall hx0 eg HP HB
    go_wp2
    go_ret
    exact ⟨by rw [HT.out]; rfl, hb'⟩
   | false =>
    have HF := Aside0.mk (hf rfl)
    clear ht hf
    go_wp2_with fail
    refine hcall.mono ?_
    rintro e w' ⟨rfl, hb'⟩
    clear hcall hx0 eg HP HB
    go_wp2
    have he : wrap64 (x + 1) = x + 1 := wrap_up HX.out.1 HQ.out HLEN.out
    go_roundg (l0.length - (x + 1).toNat)
    case measure => have := HX.out; have := HQ.out; omega
    case rel =>
     refine ⟨x + 1, ?_, ⟨by have := HX.out; omega, by have := HQ.out; omega, Nat.le_refl _⟩, ⟨hb'⟩, HF⟩
     simp [he]
  ·have c2b0 : decide (x < (l0.length : Int)) = false := decide_eq_false hlt
   have HN := Aside0.mk hlt
   clear hlt
   go_wp2
   go_ret
   exact ⟨by rw [← idxO_end HA.out HX.out.2.1 (by have := HN.out; omega)]; rfl, BW.out⟩

/-! ### ctf158: function 158 -/
set_option maxHeartbeats 8000000 in
set_option maxRecDepth 100000 in
open Go.Proofs.YtplfbjbbnjlnkaaH in
theorem ctf158.calls (g : Nat) (lb : Array Value) (eg : ∀ args w, (callFunc g args).run Try.prog w = .ok (.enter g args) w) (p : Int → Option Bool) (A0 : Option Addr) (c0 : Nat) (l0 : List Int) (r : Int) (w : World)
  (hp : ∀ (W : World) (x : Int) (b : Bool), Below w.heap.size w W → p x = some b → Calls Try.prog g (#[.int .i64 x] ++ lb) W fun e w' => e = .returned (.bool b) ∧ Below w.heap.size w w')
  (hr0 : (Kd.int .i64).C w A0 l0.length l0) (hc0 : l0.length ≤ c0) (h : idxO p l0 0 = some r) :
  Calls Try.prog 158 #[.slice A0 l0.length c0, .func (.func g) #[] lb] w fun e w' => e = .returned (.bool (decide (r ≥ 0))) ∧ Below w.heap.size w w' := by
 have hcon := ixf188.calls g lb eg p A0 c0 l0 r w hp hr0 hc0 h
 clear hp hr0 hc0 h eg
 go_enter Try.func158, Try.ntmps158
 go_wp2_with fail
 refine hcon.mono ?_
 rintro e w' ⟨rfl, hb'⟩
 clear hcon
 go_wp2
 go_ret
 exact ⟨rfl, hb'⟩

/-! ### slices_Index_int_int: function 164 -/
def slices_Index_int_int.l0 : Nat → List Int → Int → Int → Int → Option (Int)
 | 0, _, _, _, _ => none
 | k + 1, x0, x1, x7, x8 => if x8 < x7 then (if 0 ≤ x8 then (if x8 < (x0.length : Int) then (if x1 = (rd x0 x8) then (some x8) else (slices_Index_int_int.l0 k x0 x1 x7 (wrap64 (x8 + 1)))) else (none)) else (none)) else (some (-1))
def slices_Index_int_int.f (k : Nat) (l0 : List Int) (a1 : Int) : Option (Int) := slices_Index_int_int.l0 k l0 a1 (l0.length : Int) 0
set_option maxHeartbeats 8000000 in
set_option maxRecDepth 100000 in
theorem slices_Index_int_int.calls (k : Nat) (A0 : Option Addr) (c0 : Nat) (l0 : List Int) (a1 : Int) (r : Int) (w : World) (hr0 : Kd.C (Kd.int .i64) w A0 l0.length l0) (hc0 : l0.length ≤ c0) (h : slices_Index_int_int.f k l0 a1 = some r) :
  Calls Try.prog 164 #[.slice A0 l0.length c0, .int .i64 a1] w fun e w' => e = .returned (.int .i64 r) ∧ Drawn0 w w' := by
 have HR0 := Aside0.mk hr0
 have HC0 := Aside0.mk hc0
 clear hr0 hc0
 have H : (slices_Index_int_int.l0 k l0 a1 (l0.length : Int) 0) = some r := h
 clear h
 have H' := Aside0.mk H
 clear H
 go_enter Try.func164, Try.ntmps164
 go_wp2
 go_loopg [8] k (fun kq v8 w' => ∃ (x8_1 : Int), v8 = .int .i64 x8_1 ∧ Aside0 (slices_Index_int_int.l0 kq l0 a1 (l0.length : Int) x8_1 = some r) ∧ Aside0 (kq ≤ k) ∧ Drawn0 w w')
 case atStart => exact ⟨(0), (by first | rfl | (simp; done) | (simp [*]; done)), H', ⟨Nat.le_refl _⟩, by repeat (first | exact Drawn0.refl _ | apply Drawn0.step)⟩
 case round =>
  clear H'
  try clear c1
  try clear p2
  obtain ⟨x8_1, rfl, HA, HK1, ⟨m1, rfl⟩⟩ := hrel
  cases gk with
  | zero => exact absurd HA.out (by simp [slices_Index_int_int.l0])
  | succ k1 =>
   have H := HA.out
   clear HA
   simp only [slices_Index_int_int.l0] at H
   replace H := ifD H; rcases H with ⟨c3, H⟩ | ⟨c3, H⟩
   ·have c3b0 : decide (x8_1 < (l0.length : Int)) = true := decide_eq_true c3
    clear c3
    replace H := ifN H; obtain ⟨c4, H⟩ := H
    have c4b0 : decide (0 ≤ x8_1) = true := decide_eq_true c4
    clear c4
    replace H := ifN H; obtain ⟨c5, H⟩ := H
    have c5b0 : decide (x8_1 < (l0.length : Int)) = true := decide_eq_true c5
    clear c5
    replace H := ifD H; rcases H with ⟨c6, H⟩ | ⟨c6, H⟩
    ·have c6b0 : (a1 == (rd l0 x8_1)) = true := beq_iff_eq.mpr c6
     have c6b1 : (a1 != (rd l0 x8_1)) = false := bne_eq_false_iff_eq.mpr c6
     clear c6
     obtain rfl := Option.some.inj H
     have p196 : 0 ≤ (x8_1 : Int) := of_decide_eq_true (by first | (with_reducible assumption) | assumption)
     have q196 : x8_1 < (l0.length : Int) := of_decide_eq_true (by first | (with_reducible assumption) | assumption)
     obtain ⟨ad196, e196, hx196_0⟩ := Kd.at_int HR0.out x8_1 p196 q196
     cases e196
     replace p196 := eq_true p196
     replace q196 := eq_true q196
     go_wp2
     go_ret
     exact ⟨by first | rfl | (simp; done) | (simp [*]; done), by repeat (first | exact Drawn0.refl _ | apply Drawn0.step)⟩
    ·have c6b0 : (a1 == (rd l0 x8_1)) = false := beq_eq_false_iff_ne.mpr c6
     have c6b1 : (a1 != (rd l0 x8_1)) = true := bne_iff_ne.mpr c6
     have H' := Aside0.mk H
     clear H
     have p196 : 0 ≤ (x8_1 : Int) := of_decide_eq_true (by first | (with_reducible assumption) | assumption)
     have q196 : x8_1 < (l0.length : Int) := of_decide_eq_true (by first | (with_reducible assumption) | assumption)
     obtain ⟨ad196, e196, hx196_0⟩ := Kd.at_int HR0.out x8_1 p196 q196
     cases e196
     replace p196 := eq_true p196
     replace q196 := eq_true q196
     go_wp2
     go_roundg k1
     case measure => have := HK1.out; omega
     case rel => exact ⟨(wrap64 (x8_1 + 1)), (by first | rfl | (simp; done) | (simp [*]; done)), H', ⟨by have := HK1.out; omega⟩, by repeat (first | exact Drawn0.refl _ | apply Drawn0.step)⟩
   ·have c3b0 : decide (x8_1 < (l0.length : Int)) = false := decide_eq_false c3
    clear c3
    obtain rfl := Option.some.inj H
    go_wp2
    go_ret
    exact ⟨by first | rfl | (simp; done) | (simp [*]; done), by repeat (first | exact Drawn0.refl _ | apply Drawn0.step)⟩

/-! ### slices_Contains_int_int: function 116 -/
def slices_Contains_int_int.f (k : Nat) (l0 : List Int) (a1 : Int) : Option (Bool) := (slices_Index_int_int.f k l0 a1).bind fun t197 => (some (decide (t197 ≥ 0)))
set_option maxHeartbeats 8000000 in
set_option maxRecDepth 100000 in
theorem slices_Contains_int_int.calls (k : Nat) (A0 : Option Addr) (c0 : Nat) (l0 : List Int) (a1 : Int) (r : Bool) (w : World) (hr0 : Kd.C (Kd.int .i64) w A0 l0.length l0) (hc0 : l0.length ≤ c0) (h : slices_Contains_int_int.f k l0 a1 = some r) :
  Calls Try.prog 116 #[.slice A0 l0.length c0, .int .i64 a1] w fun e w' => e = .returned (.bool r) ∧ Drawn0 w w' := by
 have HR0 := Aside0.mk hr0
 have HC0 := Aside0.mk hc0
 clear hr0 hc0
 have H : ((slices_Index_int_int.f k l0 a1).bind fun t197 => (some (decide (t197 ≥ 0)))) = some r := h
 clear h
 replace H := Option.bind_eq_some_iff.mp H
 obtain ⟨t197, A30, H⟩ := H
 replace H : (some (decide (t197 ≥ 0))) = some r := H
 have A3 := Aside0.mk A30
 clear A30
 obtain rfl := Option.some.inj H
 go_enter Try.func116, Try.ntmps116
 go_wp2_with (first | ((with_reducible refine gate_callee (f := 164) rfl ?_); refine goesL_ (some 7) rfl rfl Try.func164 (by kernel_rfl) rfl #[.slice A0 l0.length c0, .int .i64 a1] rfl (by (try simp only [List.map_toArray, List.map_cons, List.map_nil]); first | done | rfl | (simp only [List.length_drop, List.length_take]; rfl)) ?_; (with_reducible refine (slices_Index_int_int.calls k _ _ l0 a1 t197 _ ?side1 ?side2 A3.out).mono ?_); (case side1 => repeat (first | exact HR0.out | (with_reducible refine Kd.C_alloc ?_ _) | (with_reducible refine Kd.C_drewN ?_ _) | (with_reducible refine Kd.C_drew ?_))); (case side2 => exact HC0.out); rintro e w' ⟨rfl, ⟨nd, rfl⟩⟩; refine ⟨_, rfl, ?_⟩))
 go_ret
 exact ⟨by first | rfl | (simp; done) | (simp [*]; done), by repeat (first | exact Drawn0.refl _ | apply Drawn0.step)⟩

/-! ### cl189: function 189 -/
def cl189.p (k : Nat) (acts : List Int) (a : Int) : Option Bool := (slices_Contains_int_int.f k acts a).bind fun t => some (!t)
set_option maxHeartbeats 8000000 in
set_option maxRecDepth 100000 in
theorem cl189.calls (k : Nat) (acts : List Int) (A3 : Option Addr) (c3 : Nat) (B : Nat) (a : Int) (b : Bool) (w0 W : World) (hB : B < w0.heap.size) (hcell : w0.cell? ⟨B, 3, none⟩ = some (.slice A3 acts.length c3)) (hr : (Kd.int .i64).C w0 A3 acts.length acts) (hc : acts.length ≤ c3) (hb : Below w0.heap.size w0 W) (h : cl189.p k acts a = some b) :
  Calls Try.prog 189 #[.int .i64 a, .pointer (some ⟨B, 0, none⟩)] W fun e w' => e = .returned (.bool b) ∧ Below w0.heap.size w0 w' := by
 have hcl : W.cell? ⟨B, 3, none⟩ = some (.slice A3 acts.length c3) := (hb.cell (p := ⟨B, 3, none⟩) hB).trans hcell
 unfold cl189.p at h
 obtain ⟨t, h1, h⟩ := Option.bind_eq_some_iff.mp h
 obtain rfl := Option.some.inj h
 have HB := Aside0.mk hb
 have hcall := slices_Contains_int_int.calls k _ _ acts a t W (Kd.C_below hr hb) hc h1
 clear hcell hB h hr hc h1 hb
 have hu51 := Try.underlying51
 go_enter Try.func189, Try.ntmps189
 go_wp2_with fail
 refine hcall.mono ?_
 rintro e w' ⟨rfl, hb2⟩
 clear hcall
 have HBX := Aside0.mk (HB.out.trans ((hb2.below).mono HB.out.size))
 clear hb2
 cases t with
 | true =>
  go_wp2
  go_ret
  exact ⟨rfl, HBX.out⟩
 | false =>
  go_wp2
  go_ret
  exact ⟨rfl, HBX.out⟩

/-! ### impl_isGood: function 163 -/
def impl_isGood.f : Nat → List S51 → Int → Int → Option Bool
 | 0, _, _, _ => none
 | k + 1, l, id, now => if 0 ≤ wrap64 (id - 1) then (if wrap64 (id - 1) < (l.length : Int) then (if (rd_T51 l (wrap64 (id - 1))).f6 = true then some false else (impl_IsTime.f now).bind fun t => if t = true then (if now > (rd_T51 l (wrap64 (id - 1))).f4 then some false else (if (rd_T51 l (wrap64 (id - 1))).f5 = 0 then some true else (if 0 ≤ wrap64 ((rd_T51 l (wrap64 (id - 1))).f5 - 1) then (if wrap64 ((rd_T51 l (wrap64 (id - 1))).f5 - 1) < (l.length : Int) then (impl_isGood.f k l (rd_T51 l (wrap64 (id - 1))).f5 now).bind fun b => if b = true then (if (rd_T51 l (wrap64 (id - 1))).f1 = (rd_T51 l (wrap64 ((rd_T51 l (wrap64 (id - 1))).f5 - 1))).f2 then (Go.Proofs.YtplfbjbbnjlnkaaH.idxO (cl189.p k (rd_T51 l (wrap64 ((rd_T51 l (wrap64 (id - 1))).f5 - 1))).f3) (rd_T51 l (wrap64 (id - 1))).f3 0).bind fun r => some (!(decide (r ≥ 0))) else some false) else some false else none) else none))) else some false) else none) else none
set_option maxHeartbeats 8000000 in
set_option maxRecDepth 100000 in
theorem impl_isGood.calls (k : Nat) : ∀ (A : Option Addr) (c : Nat) (l : List S51) (id now : Int) (r : Bool) (w : World) (hr : Kd.C k51 w A l.length l) (hc : l.length ≤ c) (h : impl_isGood.f k l id now = some r),
  Calls Try.prog 163 #[.slice A l.length c, .int .i64 id, .int .i64 now] w fun e w' => e = .returned (.bool r) ∧ Below w.heap.size w w' := by
 induction k with
 | zero => intro A c l id now r w hr hc h; exact absurd h (by simp [impl_isGood.f])
 | succ k ih =>
  intro A c l id now r w hr hc h
  rw [impl_isGood.f.eq_2] at h
  by_cases p1 : 0 ≤ wrap64 (id - 1)
  case neg => rw [if_neg p1] at h; exact absurd h (by simp)
  rw [if_pos p1] at h
  by_cases q1 : wrap64 (id - 1) < (l.length : Int)
  case neg => rw [if_neg q1] at h; exact absurd h (by simp)
  rw [if_pos q1] at h
  obtain ⟨ad0, A0, c0, e0, hx0, hx1, hx2, hx3, hx4, hx5, hx6, hl0, hg0⟩ := at_T51 hr (wrap64 (id - 1)) p1 q1
  subst e0
  generalize hg_ : rd_T51 l (wrap64 (id - 1)) = g at h hx0 hx1 hx2 hx3 hx4 hx5 hx6 hl0 hg0
  clear hg_
  have HR := Aside0.mk hr
  have HC := Aside0.mk hc
  have HG0 := Aside0.mk hg0
  have HL0 := Aside0.mk hl0
  have HB := Aside0.mk (Below.refl w.heap.size w)
  have HS0 : Aside0 (w.heap.size ≤ w.heap.size) := ⟨Nat.le_refl _⟩
  replace p1 := eq_true p1
  replace q1 := eq_true q1
  clear hr hc hg0 hl0
  have hu51 := Try.underlying51
  by_cases t6 : g.f6 = true
  ·rw [if_pos t6] at h
   obtain rfl := Option.some.inj h
   clear h
   go_enter Try.func163, Try.ntmps163
   go_wp2_with (first | ((with_reducible refine gate_dst (N := 7) rfl ?_); refine box_event ?hg (N := 7) ?hd (cs := #[.int .i64 0, .int .i64 0, .int .i64 0, .slice none 0 0, .int .i64 0, .int .i64 0, .bool false]) (t := 51) ?hr ?_; (case hd => rfl); (case hg => rfl); (case hr => first | (go_simp; done) | (go_simp; rfl)); intro gb0 hg V0 hbox hb; have E0 := Aside0.mk (And.intro hg (blk_lt hbox)); have cc0 := blk_cell hbox; have zz0 := blk_frozen hbox; have BK0 := Aside0.mk hbox; have hB_ := below_step HB.out hb; clear HB hb hbox hg; have HB := Aside0.mk hB_; clear hB_) | ((with_reducible refine gate_store (t := 51) (p := 7) rfl ?_); refine store_event (t := 51) (p := 7) (v := ?vo_g0) (w1 := (((((((V0.setCell ⟨gb0, 0, none⟩ (.int .i64 g.f0)).setCell ⟨gb0, 1, none⟩ (.int .i64 g.f1)).setCell ⟨gb0, 2, none⟩ (.int .i64 g.f2)).setCell ⟨gb0, 3, none⟩ (.slice A0 g.f3.length c0)).setCell ⟨gb0, 4, none⟩ (.int .i64 g.f4)).setCell ⟨gb0, 5, none⟩ (.int .i64 g.f5)).setCell ⟨gb0, 6, none⟩ (.bool g.f6))) ?hg ?ho ?hn ?hr ?_; (case ho => rfl); (case hg => rfl); (case hn => rfl); (case hr => first | (go_simp; done) | (go_simp; rfl)); intro W0 hw; have hge_ : w.heap.size ≤ gb0 := (by have := E0.out.1; have := HS0.out; omega); have hk_ : Kept V0 W0 (fun k_ => k_ = gb0) := (by rw [hw]; exact Kept.setCell (Kept.setCell (Kept.setCell (Kept.setCell (Kept.setCell (Kept.setCell (Kept.setCell (Kept.refl V0 (fun k_ => k_ = gb0)) (.inl rfl) _) (.inl rfl) _) (.inl rfl) _) (.inl rfl) _) (.inl rfl) _) (.inl rfl) _) (.inl rfl) _); have h_ := (blk_set (blk_set (blk_set (blk_set (blk_set (blk_set (blk_set (BK0.out) 0 (.int .i64 g.f0)) 1 (.int .i64 g.f1)) 2 (.int .i64 g.f2)) 3 (.slice A0 g.f3.length c0)) 4 (.int .i64 g.f4)) 5 (.int .i64 g.f5)) 6 (.bool g.f6)); rw [← hw] at h_; simp only [List.setIfInBounds_toArray, List.set_cons_zero, List.set_cons_succ] at h_; clear BK0 cc0 zz0; have BK0 := Aside0.mk h_; have cc0 := blk_cell h_; have zz0 := blk_frozen h_; clear h_; have hB_ : Below w.heap.size w W0 := (by rw [hw]; exact below_set (below_set (below_set (below_set (below_set (below_set (below_set (HB.out) hge_) hge_) hge_) hge_) hge_) hge_) hge_); clear HB hw hk_ hge_; have HB := Aside0.mk hB_; clear hB_))
   go_ret
   exact ⟨rfl, HB.out⟩
  rw [if_neg t6] at h
  replace t6 : g.f6 = false := by simpa using t6
  obtain ⟨t, ht, h⟩ := Option.bind_eq_some_iff.mp h
  have H := Aside0.mk h
  have HT := Aside0.mk ht
  clear h ht
  go_enter Try.func163, Try.ntmps163
  go_wp2_with (first | ((with_reducible refine gate_dst (N := 7) rfl ?_); refine box_event ?hg (N := 7) ?hd (cs := #[.int .i64 0, .int .i64 0, .int .i64 0, .slice none 0 0, .int .i64 0, .int .i64 0, .bool false]) (t := 51) ?hr ?_; (case hd => rfl); (case hg => rfl); (case hr => first | (go_simp; done) | (go_simp; rfl)); intro gb0 hg V0 hbox hb; have E0 := Aside0.mk (And.intro hg (blk_lt hbox)); have cc0 := blk_cell hbox; have zz0 := blk_frozen hbox; have BK0 := Aside0.mk hbox; have hB_ := below_step HB.out hb; clear HB hb hbox hg; have HB := Aside0.mk hB_; clear hB_) | ((with_reducible refine gate_store (t := 51) (p := 7) rfl ?_); refine store_event (t := 51) (p := 7) (v := ?vo_g0) (w1 := (((((((V0.setCell ⟨gb0, 0, none⟩ (.int .i64 g.f0)).setCell ⟨gb0, 1, none⟩ (.int .i64 g.f1)).setCell ⟨gb0, 2, none⟩ (.int .i64 g.f2)).setCell ⟨gb0, 3, none⟩ (.slice A0 g.f3.length c0)).setCell ⟨gb0, 4, none⟩ (.int .i64 g.f4)).setCell ⟨gb0, 5, none⟩ (.int .i64 g.f5)).setCell ⟨gb0, 6, none⟩ (.bool g.f6))) ?hg ?ho ?hn ?hr ?_; (case ho => rfl); (case hg => rfl); (case hn => rfl); (case hr => first | (go_simp; done) | (go_simp; rfl)); intro W0 hw; have hge_ : w.heap.size ≤ gb0 := (by have := E0.out.1; have := HS0.out; omega); have hk_ : Kept V0 W0 (fun k_ => k_ = gb0) := (by rw [hw]; exact Kept.setCell (Kept.setCell (Kept.setCell (Kept.setCell (Kept.setCell (Kept.setCell (Kept.setCell (Kept.refl V0 (fun k_ => k_ = gb0)) (.inl rfl) _) (.inl rfl) _) (.inl rfl) _) (.inl rfl) _) (.inl rfl) _) (.inl rfl) _) (.inl rfl) _); have h_ := (blk_set (blk_set (blk_set (blk_set (blk_set (blk_set (blk_set (BK0.out) 0 (.int .i64 g.f0)) 1 (.int .i64 g.f1)) 2 (.int .i64 g.f2)) 3 (.slice A0 g.f3.length c0)) 4 (.int .i64 g.f4)) 5 (.int .i64 g.f5)) 6 (.bool g.f6)); rw [← hw] at h_; simp only [List.setIfInBounds_toArray, List.set_cons_zero, List.set_cons_succ] at h_; clear BK0 cc0 zz0; have BK0 := Aside0.mk h_; have cc0 := blk_cell h_; have zz0 := blk_frozen h_; clear h_; have hB_ : Below w.heap.size w W0 := (by rw [hw]; exact below_set (below_set (below_set (below_set (below_set (below_set (below_set (HB.out) hge_) hge_) hge_) hge_) hge_) hge_) hge_); clear HB hw hk_ hge_; have HB := Aside0.mk hB_; clear hB_))
  refine (impl_IsTime.calls now t _ HT.out).mono ?_
  rintro e W2 ⟨rfl, hd⟩
  have hb2 := hd
  clear hd hx0 hx1 hx2 hx3 hx4 hx5 hx6 p1 q1
  have h_ := blk_below BK0.out hb2
  clear BK0 cc0 zz0
  have BK0 := Aside0.mk h_
  have cc0 := blk_cell h_
  have zz0 := blk_frozen h_
  clear h_
  have HS1 : Aside0 (w.heap.size ≤ W2.heap.size) := ⟨Nat.le_trans HB.out.size hb2.size⟩
  have hB_ := below_step HB.out hb2
  have E0' : Aside0 (gb0 < W2.heap.size) := ⟨blk_lt BK0.out⟩
  clear HB hb2
  have HB := Aside0.mk hB_
  clear hB_
  have h := H.out
  clear H
  cases t with
  | false =>
   rw [if_neg (by simp)] at h
   obtain rfl := Option.some.inj h
   clear h
   go_wp2
   go_ret
   exact ⟨rfl, HB.out⟩
  | true =>
   rw [if_pos rfl] at h
   by_cases c4 : now > g.f4
   ·rw [if_pos c4] at h
    have c4b : decide (now > g.f4) = true := decide_eq_true c4
    clear c4
    obtain rfl := Option.some.inj h
    clear h
    go_wp2
    go_ret
    exact ⟨rfl, HB.out⟩
   rw [if_neg c4] at h
   have c4b : decide (now > g.f4) = false := decide_eq_false c4
   clear c4
   by_cases c5 : g.f5 = 0
   ·rw [if_pos c5] at h
    have c5b : (g.f5 == 0) = true := beq_iff_eq.mpr c5
    clear c5
    obtain rfl := Option.some.inj h
    clear h
    go_wp2
    go_ret
    exact ⟨rfl, HB.out⟩
   rw [if_neg c5] at h
   have c5b : (g.f5 == 0) = false := beq_eq_false_iff_ne.mpr c5
   clear c5
   by_cases p2 : 0 ≤ wrap64 (g.f5 - 1)
   case neg => rw [if_neg p2] at h; exact absurd h (by simp)
   rw [if_pos p2] at h
   by_cases q2 : wrap64 (g.f5 - 1) < (l.length : Int)
   case neg => rw [if_neg q2] at h; exact absurd h (by simp)
   rw [if_pos q2] at h
   obtain ⟨b, hb, h⟩ := Option.bind_eq_some_iff.mp h
   obtain ⟨ad1, A1, c1, e1, hy0, hy1, hy2, hy3, hy4, hy5, hy6, hl1, hg1⟩ := at_T51 HR.out (wrap64 (g.f5 - 1)) p2 q2
   cases e1
   replace hy0 := pw_cell_below HB.out hy0
   replace hy1 := pw_cell_below HB.out hy1
   replace hy2 := pw_cell_below HB.out hy2
   replace hy3 := pw_cell_below HB.out hy3
   replace hy4 := pw_cell_below HB.out hy4
   replace hy5 := pw_cell_below HB.out hy5
   replace hy6 := pw_cell_below HB.out hy6
   generalize hp_ : rd_T51 l (wrap64 (g.f5 - 1)) = pa at h hy0 hy1 hy2 hy3 hy4 hy5 hy6 hl1 hg1
   clear hp_
   have HG1 : Aside0 (Kd.C (Kd.int .i64) w A1 pa.f3.length pa.f3) := ⟨hg1⟩
   have HL1 := Aside0.mk hl1
   have H := Aside0.mk h
   have Hb := Aside0.mk hb
   replace p2 := eq_true p2
   replace q2 := eq_true q2
   clear h hb hg1 hl1
   go_wp2_with (first | ((with_reducible refine gate_dst (N := 8) rfl ?_); refine box_event ?hg (N := 8) ?hd (cs := #[.int .i64 0, .int .i64 0, .int .i64 0, .slice none 0 0, .int .i64 0, .int .i64 0, .bool false]) (t := 51) ?hr ?_; (case hd => rfl); (case hg => rfl); (case hr => first | (go_simp; done) | (go_simp; rfl)); intro gb1 hg V1 hbox hb; have E1 := Aside0.mk (And.intro hg (blk_lt hbox)); have cc1 := blk_cell hbox; have zz1 := blk_frozen hbox; have BK1 := Aside0.mk hbox; have h_ := blk_below BK0.out hb; clear BK0 cc0 zz0; have BK0 := Aside0.mk h_; have cc0 := blk_cell h_; have zz0 := blk_frozen h_; clear h_; have hB_ := below_step HB.out hb; clear HB hb hbox hg; have HB := Aside0.mk hB_; clear hB_) | ((with_reducible refine gate_store (t := 51) (p := 8) rfl ?_); refine store_event (t := 51) (p := 8) (v := ?vo_g1) (w1 := (((((((V1.setCell ⟨gb1, 0, none⟩ (.int .i64 pa.f0)).setCell ⟨gb1, 1, none⟩ (.int .i64 pa.f1)).setCell ⟨gb1, 2, none⟩ (.int .i64 pa.f2)).setCell ⟨gb1, 3, none⟩ (.slice A1 pa.f3.length c1)).setCell ⟨gb1, 4, none⟩ (.int .i64 pa.f4)).setCell ⟨gb1, 5, none⟩ (.int .i64 pa.f5)).setCell ⟨gb1, 6, none⟩ (.bool pa.f6))) ?hg ?ho ?hn ?hr ?_; (case ho => rfl); (case hg => rfl); (case hn => rfl); (case hr => first | (go_simp; done) | (go_simp; rfl)); intro W1 hw; have hge_ : w.heap.size ≤ gb1 := (by have := E1.out.1; have := HS1.out; omega); have hk_ : Kept V1 W1 (fun k_ => k_ = gb1) := (by rw [hw]; exact Kept.setCell (Kept.setCell (Kept.setCell (Kept.setCell (Kept.setCell (Kept.setCell (Kept.setCell (Kept.refl V1 (fun k_ => k_ = gb1)) (.inl rfl) _) (.inl rfl) _) (.inl rfl) _) (.inl rfl) _) (.inl rfl) _) (.inl rfl) _) (.inl rfl) _); have h_ := blk_kept BK0.out hk_ (fun hp_ => by have := E0.out; have := E0'.out; have := E1.out; have := HS1.out; omega); clear BK0 cc0 zz0; have BK0 := Aside0.mk h_; have cc0 := blk_cell h_; have zz0 := blk_frozen h_; clear h_; have h_ := (blk_set (blk_set (blk_set (blk_set (blk_set (blk_set (blk_set (BK1.out) 0 (.int .i64 pa.f0)) 1 (.int .i64 pa.f1)) 2 (.int .i64 pa.f2)) 3 (.slice A1 pa.f3.length c1)) 4 (.int .i64 pa.f4)) 5 (.int .i64 pa.f5)) 6 (.bool pa.f6)); rw [← hw] at h_; simp only [List.setIfInBounds_toArray, List.set_cons_zero, List.set_cons_succ] at h_; clear BK1 cc1 zz1; have BK1 := Aside0.mk h_; have cc1 := blk_cell h_; have zz1 := blk_frozen h_; clear h_; have hB_ : Below w.heap.size w W1 := (by rw [hw]; exact below_set (below_set (below_set (below_set (below_set (below_set (below_set (HB.out) hge_) hge_) hge_) hge_) hge_) hge_) hge_); clear HB hw hk_ hge_; have HB := Aside0.mk hB_; clear hB_))
   refine (ih _ _ l g.f5 now b _ (Kd.C_below HR.out HB.out) HC.out Hb.out).mono ?_
   rintro e W3 ⟨rfl, hb3⟩
   clear hy0 hy1 hy2 hy3 hy4 hy5 hy6 p2 q2
   have h_ := blk_below BK0.out hb3
   clear BK0 cc0 zz0
   have BK0 := Aside0.mk h_
   have cc0 := blk_cell h_
   have zz0 := blk_frozen h_
   clear h_
   have h_ := blk_below BK1.out hb3
   clear BK1 cc1 zz1
   have BK1 := Aside0.mk h_
   have cc1 := blk_cell h_
   have zz1 := blk_frozen h_
   clear h_
   have hB_ := below_step HB.out hb3
   clear HB hb3
   have HB := Aside0.mk hB_
   clear hB_
   have h := H.out
   clear H
   cases b with
   | false =>
    rw [if_neg (by simp)] at h
    obtain rfl := Option.some.inj h
    clear h
    go_wp2
    go_ret
    exact ⟨rfl, HB.out⟩
   | true =>
    rw [if_pos rfl] at h
    by_cases c6 : g.f1 = pa.f2
    case neg =>
     rw [if_neg c6] at h
     have c6b : (g.f1 == pa.f2) = false := beq_eq_false_iff_ne.mpr c6
     clear c6
     obtain rfl := Option.some.inj h
     clear h
     go_wp2
     go_ret
     exact ⟨rfl, HB.out⟩
    rw [if_pos c6] at h
    have c6b : (g.f1 == pa.f2) = true := beq_iff_eq.mpr c6
    clear c6
    obtain ⟨q, hq, h⟩ := Option.bind_eq_some_iff.mp h
    obtain rfl := Option.some.inj h
    have eg : ∀ args w, (callFunc 189 args).run Try.prog w = .ok (.enter 189 args) w := Go.Proofs.YtplfbjbbnjlnkaaH.enters Try.func189 (by kernel_rfl) rfl
    have hcon := ctf158.calls 189 #[.pointer (some ⟨gb1, 0, none⟩)] eg _ A0 c0 g.f3 q W3 (fun W x b hW hp => cl189.calls k pa.f3 A1 c1 gb1 x b W3 W (blk_lt BK1.out) ((blk_cell BK1.out 3).trans rfl) (Kd.C_below HG1.out HB.out) HL1.out hW hp) (Kd.C_below HG0.out HB.out) HL0.out hq
    clear h hq eg
    go_wp2_with fail
    refine hcon.mono ?_
    rintro e w' ⟨rfl, hb'⟩
    clear hcon
    have hB_ := below_step HB.out hb'
    clear hb'
    go_wp2
    go_ret
    exact ⟨rfl, hB_⟩

/-! ### impl_IsGrantGood: function 115 -/
def impl_IsGrantGood.f (k : Nat) (l0 : List (S51)) (a1 : Int) (a2 : Int) : Option (Bool) := (impl_hasGrant.f k l0 a1).bind fun t198 => (if t198 = true then ((impl_isGood.f k l0 a1 a2).bind fun t199 => (some t199)) else (some false))
open Go.Proofs.YtplfbjbbnjlnkaaM in
set_option maxHeartbeats 8000000 in
set_option maxRecDepth 100000 in
theorem impl_IsGrantGood.calls (k : Nat) (A0 : Option Addr) (c0 : Nat) (l0 : List (S51)) (a1 : Int) (a2 : Int) (r : Bool) (w : World) (hr0 : Kd.C k51 w A0 l0.length l0) (hc0 : l0.length ≤ c0) (h : impl_IsGrantGood.f k l0 a1 a2 = some r) :
  Calls Try.prog 115 #[.slice A0 l0.length c0, .int .i64 a1, .int .i64 a2] w fun e w' => e = .returned (.bool r) ∧ Below w.heap.size w w' := by
 have HR0 := Aside0.mk hr0
 have HC0 := Aside0.mk hc0
 clear hr0 hc0
 have HB := Aside0.mk (Below.refl w.heap.size w)
 have H := h
 clear h
 unfold impl_IsGrantGood.f at H
 go_enter Try.func115, Try.ntmps115
 replace H := Option.bind_eq_some_iff.mp H
 obtain ⟨t198, hm, H⟩ := H
 try dsimp only at H
 replace H := Aside0.mk H
 have hcall := impl_hasGrant.calls k _ _ _ _ _ w (Kd.C_below HR0.out HB.out) HC0.out hm
 clear hm
 go_wp2_with fail
 refine hcall.mono ?_
 rintro e W1 ⟨rfl, hb⟩
 clear hcall
 replace HB := bH HB hb; clear hb
 replace H := H.out
 replace H := ifD H; rcases H with ⟨c2, H⟩ | ⟨c2, H⟩
 ·subst c2
  replace H := Option.bind_eq_some_iff.mp H
  obtain ⟨t199, hm, H⟩ := H
  try dsimp only at H
  replace H := Aside0.mk H
  have hcall := impl_isGood.calls k _ _ _ _ _ _ W1 (Kd.C_below HR0.out HB.out) HC0.out hm
  clear hm
  go_wp2_with fail
  refine hcall.mono ?_
  rintro e W3 ⟨rfl, hb⟩
  clear hcall
  replace HB := bH HB hb; clear hb
  replace H := H.out
  obtain rfl := Option.some.inj H
  clear H
  go_wp2
  go_ret
  exact ⟨rfl, HB.out⟩
 ·replace c2 := (Bool.not_eq_true _).mp c2
  subst c2
  obtain rfl := Option.some.inj H
  clear H
  go_wp2
  go_ret
  exact ⟨rfl, HB.out⟩

/-! ### impl_MayActFor: function 48 -/
def impl_MayActFor.f (k : Nat) (l0 : List (S51)) (a1 : Int) (a2 : Int) (a3 : Int) (a4 : Int) : Option (Int) := (impl_IsGrantGood.f k l0 a1 a4).bind fun t200 => (if t200 = true then (if 0 ≤ (wrap64 (a1 - 1)) then (if (wrap64 (a1 - 1)) < (l0.length : Int) then (if ((rd_T51 l0 (wrap64 (a1 - 1))).f2) = a2 then ((slices_Contains_int_int.f k ((rd_T51 l0 (wrap64 (a1 - 1))).f3) a3).bind fun t203 => (if t203 = true then ((impl_RootOf.f k l0 a1).bind fun t204 => (some t204)) else (some 0))) else (some 0)) else (none)) else (none)) else (some 0))
open Go.Proofs.YtplfbjbbnjlnkaaM in
set_option maxHeartbeats 8000000 in
set_option maxRecDepth 100000 in
theorem impl_MayActFor.calls (k : Nat) (A0 : Option Addr) (c0 : Nat) (l0 : List (S51)) (a1 : Int) (a2 : Int) (a3 : Int) (a4 : Int) (r : Int) (w : World) (hr0 : Kd.C k51 w A0 l0.length l0) (hc0 : l0.length ≤ c0) (h : impl_MayActFor.f k l0 a1 a2 a3 a4 = some r) :
  Calls Try.prog 48 #[.slice A0 l0.length c0, .int .i64 a1, .int .i64 a2, .int .i64 a3, .int .i64 a4] w fun e w' => e = .returned (.int .i64 r) ∧ Below w.heap.size w w' := by
 have HR0 := Aside0.mk hr0
 have HC0 := Aside0.mk hc0
 clear hr0 hc0
 have HB := Aside0.mk (Below.refl w.heap.size w)
 have H := h
 clear h
 unfold impl_MayActFor.f at H
 have hu51 := Try.underlying51
 go_enter Try.func48, Try.ntmps48
 replace H := Option.bind_eq_some_iff.mp H
 obtain ⟨t200, hm, H⟩ := H
 try dsimp only at H
 replace H := Aside0.mk H
 have hcall := impl_IsGrantGood.calls k _ _ _ _ _ _ w (Kd.C_below HR0.out HB.out) HC0.out hm
 clear hm
 go_wp2_with fail
 refine hcall.mono ?_
 rintro e W1 ⟨rfl, hb⟩
 clear hcall
 replace HB := bH HB hb; clear hb
 replace H := H.out
 replace H := ifD H; rcases H with ⟨c2, H⟩ | ⟨c2, H⟩
 ·subst c2
  replace H := ifN H; obtain ⟨c3, H⟩ := H
  have c3_0 := decT c3
  replace c3 := Aside0.mk c3
  first | rw [c3_0] | skip
  replace H := ifN H; obtain ⟨c4, H⟩ := H
  have c4_0 := decT c4
  replace c4 := Aside0.mk c4
  first | rw [c4_0] | skip
  have p201 : 0 ≤ ((wrap64 (a1 - 1)) : Int) := (of_decide_eq_true (by assumption))
  have q201 : (wrap64 (a1 - 1)) < (l0.length : Int) := (of_decide_eq_true (by assumption))
  obtain ⟨ad201, A201_3, c201_3, e201, hx201_0, hx201_1, hx201_2, hx201_3, hx201_4, hx201_5, hx201_6, hl201_3, hi201_3⟩ := at_T51 HR0.out (wrap64 (a1 - 1)) p201 q201
  cases e201
  have HR201_3 := Aside0.mk hi201_3; have HC201_3 := Aside0.mk hl201_3; clear hi201_3 hl201_3
  replace hx201_0 := Aside0.mk hx201_0
  have y201_0 := xC HB hx201_0
  replace hx201_1 := Aside0.mk hx201_1
  have y201_1 := xC HB hx201_1
  replace hx201_2 := Aside0.mk hx201_2
  have y201_2 := xC HB hx201_2
  replace hx201_3 := Aside0.mk hx201_3
  have y201_3 := xC HB hx201_3
  replace hx201_4 := Aside0.mk hx201_4
  have y201_4 := xC HB hx201_4
  replace hx201_5 := Aside0.mk hx201_5
  have y201_5 := xC HB hx201_5
  replace hx201_6 := Aside0.mk hx201_6
  have y201_6 := xC HB hx201_6
  have r201 := eq_true p201; have s201 := eq_true q201
  replace p201 := Aside0.mk p201; replace q201 := Aside0.mk q201
  replace H := ifD H; rcases H with ⟨c5, H⟩ | ⟨c5, H⟩
  ·have c5_0 := decT c5; have c5_1 := eqT c5; have c5_2 := neT c5
   clear c5
   first | rw [c5_1] | rw [c5_2] | skip
   replace H := Option.bind_eq_some_iff.mp H
   obtain ⟨t203, hm, H⟩ := H
   try dsimp only at H
   replace H := Aside0.mk H
   have hcall := slices_Contains_int_int.calls k _ _ _ _ _ W1 (Kd.C_below HR201_3.out HB.out) HC201_3.out hm
   clear hm
   go_wp2_with fail
   refine hcall.mono ?_
   rintro e W6 ⟨rfl, hd⟩
   clear hcall
   try clear y201_0 y201_1 y201_2 y201_3 y201_4 y201_5 y201_6
   have hb : Below W1.heap.size W1 W6 := hd.below; clear hd
   replace HB := bH HB hb; clear hb
   replace H := H.out
   replace H := ifD H; rcases H with ⟨c7, H⟩ | ⟨c7, H⟩
   ·subst c7
    replace H := Option.bind_eq_some_iff.mp H
    obtain ⟨t204, hm, H⟩ := H
    try dsimp only at H
    replace H := Aside0.mk H
    have hcall := impl_RootOf.calls k _ _ _ _ _ W6 (Kd.C_below HR0.out HB.out) HC0.out hm
    clear hm
    go_wp2_with fail
    refine hcall.mono ?_
    rintro e W8 ⟨rfl, hb⟩
    clear hcall
    replace HB := bH HB hb; clear hb
    replace H := H.out
    obtain rfl := Option.some.inj H
    clear H
    go_wp2
    go_ret
    exact ⟨rfl, HB.out⟩
   ·replace c7 := (Bool.not_eq_true _).mp c7
    subst c7
    obtain rfl := Option.some.inj H
    clear H
    go_wp2
    go_ret
    exact ⟨rfl, HB.out⟩
  ·have c5_0 := decF c5; have c5_1 := eqF c5; have c5_2 := neF c5
   clear c5
   first | rw [c5_1] | rw [c5_2] | skip
   obtain rfl := Option.some.inj H
   clear H
   go_wp2
   go_ret
   exact ⟨rfl, HB.out⟩
 ·replace c2 := (Bool.not_eq_true _).mp c2
  subst c2
  obtain rfl := Option.some.inj H
  clear H
  go_wp2
  go_ret
  exact ⟨rfl, HB.out⟩

/-! ### laws_big: function 49 -/
def laws_big.f (l0 : List Int) : Option (Bool) := some (decide ((l0.length : Int) > 1048576))
open Go.Proofs.YtplfbjbbnjlnkaaM in
set_option maxHeartbeats 8000000 in
set_option maxRecDepth 100000 in
theorem laws_big.calls (A0 : Option Addr) (c0 : Nat) (l0 : List Int) (r : Bool) (w : World) (hr0 : Kd.C (Kd.int .u8) w A0 l0.length l0) (hc0 : l0.length ≤ c0) (h : laws_big.f l0 = some r) :
  Calls Try.prog 49 #[.slice A0 l0.length c0] w fun e w' => e = .returned (.bool r) ∧ Below w.heap.size w w' := by
 have HR0 := Aside0.mk hr0
 have HC0 := Aside0.mk hc0
 clear hr0 hc0
 have HB := Aside0.mk (Below.refl w.heap.size w)
 have H := h
 clear h
 unfold laws_big.f at H
 go_enter Try.func49, Try.ntmps49
 obtain rfl := Option.some.inj H
 clear H
 go_wp2
 go_ret
 exact ⟨rfl, HB.out⟩

/-- A state of type 185 at block g of W; what its slices lead to came in by w0. -/
def IsS185 (w0 W : World) (g : Nat) (f0 : List Int) (f1 : Int) (f2 : Int) : Prop := ∃ A0 c0, W.heap[g]? = some (.cells #[.slice A0 f0.length c0, .int .i64 f1, .int .i64 f2] 185 (0, 0)) ∧ w0.heap.size ≤ g ∧ Kd.C (Kd.int .u8) w0 A0 f0.length f0
theorem IsS185.grown {w0 W : World} {g : Nat} {f0 : List Int} {f1 : Int} {f2 : Int} {W1 : World} {row : Option Nat} (h : IsS185 w0 W g f0 f1 f2) (hw : W.grownBy W1 row) (hne : some g ≠ row) : IsS185 w0 W1 g f0 f1 f2 := by
 obtain ⟨A0, c0, hb, hg, hr0⟩ := h
 exact ⟨A0, c0, blk_grown hb hw hne, hg, hr0⟩
theorem IsS185.below {w0 W : World} {g : Nat} {f0 : List Int} {f1 : Int} {f2 : Int} {W1 : World} (h : IsS185 w0 W g f0 f1 f2) (hw : Below W.heap.size W W1) : IsS185 w0 W1 g f0 f1 f2 := h.grown (grown_of_below hw none) (by simp)
theorem IsS185.alloc {w0 W : World} {g : Nat} {f0 : List Int} {f1 : Int} {f2 : Int} (h : IsS185 w0 W g f0 f1 f2) (o : Obj) : IsS185 w0 (W.alloc o) g f0 f1 f2 := h.below (below_alloc (Below.refl _ _) o)
theorem IsS185.drewN {w0 W : World} {g : Nat} {f0 : List Int} {f1 : Int} {f2 : Int} (h : IsS185 w0 W g f0 f1 f2) (m : Nat) : IsS185 w0 (W.drewN m) g f0 f1 f2 := h
theorem IsS185.drew {w0 W : World} {g : Nat} {f0 : List Int} {f1 : Int} {f2 : Int} (h : IsS185 w0 W g f0 f1 f2) : IsS185 w0 W.drew g f0 f1 f2 := h
theorem IsS185.apart {w0 W : World} {g : Nat} {f0 : List Int} {f1 : Int} {f2 : Int} {α : Type} {d : Kd α} {e : Nat} {base : Nat} {ok : Nat → Prop} {v : Value} {xs : List α} (h : IsS185 w0 W g f0 f1 f2) (ho : d.R e W base ok v xs) (ht : ∀ q, q ∈ e :: d.E → q ≠ 185) : d.R e W base (fun k => ok k ∧ k ≠ g) v xs := by
 obtain ⟨A0, c0, hb, hg, hr0⟩ := h
 exact Kd.R_types ho hb ht
theorem IsS185.own_ne {w0 W : World} {g : Nat} {f0 : List Int} {f1 : Int} {f2 : Int} {α : Type} {d : Kd α} {e : Nat} {base : Nat} {ok : Nat → Prop} {v : Value} {xs : List α} (h : IsS185 w0 W g f0 f1 f2) (ho : d.R e W base ok v xs) (ht : e ≠ 185) : some g ≠ v.ownBlock := by
 obtain ⟨A0, c0, hb, hg, hr0⟩ := h
 exact Kd.R_ne ho hb ht
theorem IsS185.apartS {w0 W : World} {g : Nat} {f0 : List Int} {f1 : Int} {f2 : Int} {α : Type} {d : Kd α} {e : Nat} {base : Nat} {ok : Nat → Prop} {v : Value} {xs : List α} (h : IsS185 w0 W g f0 f1 f2) (ho : d.S e W base ok v xs) (ht : ∀ q, q ∈ e :: d.E → q ≠ 185) : d.S e W base (fun k => ok k ∧ k ≠ g) v xs := by
 obtain ⟨A0, c0, hb, hg, hr0⟩ := h
 exact Kd.S_types ho hb ht
theorem IsS185.own_neS {w0 W : World} {g : Nat} {f0 : List Int} {f1 : Int} {f2 : Int} {α : Type} {d : Kd α} {e : Nat} {base : Nat} {ok : Nat → Prop} {v : Value} {xs : List α} (h : IsS185 w0 W g f0 f1 f2) (ho : d.S e W base ok v xs) (ht : e ≠ 185) : some g ≠ v.ownBlock := by
 obtain ⟨A0, c0, hb, hg, hr0⟩ := h
 exact Kd.S_ne ho hb ht
theorem IsS185.lt {w0 W : World} {g : Nat} {f0 : List Int} {f1 : Int} {f2 : Int} (h : IsS185 w0 W g f0 f1 f2) : g < W.heap.size := by
 obtain ⟨A0, c0, hb, hg, hr0⟩ := h
 exact blk_lt hb
theorem IsS185.ge {w0 W : World} {g : Nat} {f0 : List Int} {f1 : Int} {f2 : Int} (h : IsS185 w0 W g f0 f1 f2) : w0.heap.size ≤ g := by
 obtain ⟨A0, c0, hb, hg, hr0⟩ := h
 exact hg
theorem IsS185.far {w0 W : World} {g : Nat} {f0 : List Int} {f1 : Int} {f2 : Int} {p : Addr} (h : IsS185 w0 W g f0 f1 f2) (hne : g ≠ p.block) (u : Value) : IsS185 w0 (W.setCell p u) g f0 f1 f2 := by
 obtain ⟨A0, c0, hb, hg, hr0⟩ := h
 exact ⟨A0, c0, blk_far hb hne u, hg, hr0⟩
theorem cellS185_0 {W : World} {g : Nat} {A0 : Option Addr} {c0 : Nat} {f0 : List Int} {f1 : Int} {f2 : Int} (h : W.heap[g]? = some (.cells #[.slice A0 f0.length c0, .int .i64 f1, .int .i64 f2] 185 (0, 0))) : W.cell? ⟨g, 0, none⟩ = some (.slice A0 f0.length c0) := (blk_cell h 0).trans rfl
theorem cellS185_1 {W : World} {g : Nat} {A0 : Option Addr} {c0 : Nat} {f0 : List Int} {f1 : Int} {f2 : Int} (h : W.heap[g]? = some (.cells #[.slice A0 f0.length c0, .int .i64 f1, .int .i64 f2] 185 (0, 0))) : W.cell? ⟨g, 1, none⟩ = some (.int .i64 f1) := (blk_cell h 1).trans rfl
theorem IsS185.set_1 {w0 W : World} {g : Nat} {f0 : List Int} {f1 : Int} {f2 : Int} (h : IsS185 w0 W g f0 f1 f2) (x : Int) : IsS185 w0 (W.setCell ⟨g, 1, none⟩ (.int .i64 x)) g f0 x f2 := by
 obtain ⟨A0, c0, hb, hg, hr0⟩ := h
 exact ⟨A0, c0, by simpa using blk_set hb 1 (.int .i64 x), hg, hr0⟩
theorem cellS185_2 {W : World} {g : Nat} {A0 : Option Addr} {c0 : Nat} {f0 : List Int} {f1 : Int} {f2 : Int} (h : W.heap[g]? = some (.cells #[.slice A0 f0.length c0, .int .i64 f1, .int .i64 f2] 185 (0, 0))) : W.cell? ⟨g, 2, none⟩ = some (.int .i64 f2) := (blk_cell h 2).trans rfl
theorem IsS185.set_2 {w0 W : World} {g : Nat} {f0 : List Int} {f1 : Int} {f2 : Int} (h : IsS185 w0 W g f0 f1 f2) (x : Int) : IsS185 w0 (W.setCell ⟨g, 2, none⟩ (.int .i64 x)) g f0 f1 x := by
 obtain ⟨A0, c0, hb, hg, hr0⟩ := h
 exact ⟨A0, c0, by simpa using blk_set hb 2 (.int .i64 x), hg, hr0⟩
/-! ### spec_l1New: function 117 -/
def spec_l1New.l0 : Nat → List Int → Int → Int → Option (List Int × Int × Int)
 | 0, _, _, _ => none
 | k + 1, x0, x3, x4 => if x4 < (x0.length : Int) then (if x4 < 4000 then (if 0 ≤ x4 then (spec_l1New.l0 k x0 (Go.bits .and .i64 (wrap64 ((wrap64 ((wrap64 (x3 * 137)) + (wrap64 (rd x0 x4)))) + 11)) 1073741823) (wrap64 (x4 + 1))) else (none)) else (some (x0, 0, x3))) else (some (x0, 0, x3))
def spec_l1New.f (k : Nat) (l0 : List Int) : Option (List Int × Int × Int) := spec_l1New.l0 k l0 (wrap64 (193017 + (l0.length : Int))) 0
set_option maxHeartbeats 8000000 in
set_option maxRecDepth 100000 in
theorem spec_l1New.calls (k : Nat) (A0 : Option Addr) (c0 : Nat) (l0 : List Int) (r1 : List Int) (r2 : Int) (r3 : Int) (w0 w : World) (hB : Below w0.heap.size w0 w) (hr0 : Kd.C (Kd.int .u8) w0 A0 l0.length l0) (hc0 : l0.length ≤ c0) (h : spec_l1New.f k l0 = some (r1, r2, r3)) :
  Calls Try.prog 117 #[.slice A0 l0.length c0] w fun e w' => ∃ g_ : Nat, e = .returned (.pointer (some ⟨g_, 0, none⟩)) ∧ IsS185 w0 w' g_ r1 r2 r3 ∧ Below w0.heap.size w0 w' ∧ Below w.heap.size w w' := by
 have hu185 := Try.underlying185
 have HR0 := Aside0.mk hr0
 have HC0 := Aside0.mk hc0
 clear hr0 hc0
 have HBW := Aside0.mk (Below.refl w.heap.size w)
 have HW0 := Aside0.mk hB.size
 have HB := Aside0.mk hB
 clear hB
 have H : (spec_l1New.l0 k l0 (wrap64 (193017 + (l0.length : Int))) 0) = some (r1, r2, r3) := h
 clear h
 have H' := Aside0.mk H
 clear H
 go_enter Try.func117, Try.ntmps117
 go_wp2
 go_loopg [3, 4] k (fun kq v3 v4 w' => ∃ (x3_1 : Int) (x4_1 : Int), v3 = .int .i64 x3_1 ∧ v4 = .int .i64 x4_1 ∧ Aside0 (spec_l1New.l0 kq l0 x3_1 x4_1 = some (r1, r2, r3)) ∧ Aside0 (kq ≤ k) ∧ Aside0 (Below w0.heap.size w0 w') ∧ Aside0 (Below w.heap.size w w'))
 case atStart => exact ⟨(wrap64 (193017 + (l0.length : Int))), (0), (by first | rfl | (simp; done) | (simp [*]; done)), (by first | rfl | (simp; done) | (simp [*]; done)), H', ⟨Nat.le_refl _⟩, ⟨by repeat (first | (with_reducible first | exact HB.out | apply below_alloc | apply pw_below_drewN | apply below_drew1) | exact HB.out)⟩, ⟨by repeat (first | (with_reducible first | exact HBW.out | apply below_alloc | apply pw_below_drewN | apply below_drew1) | exact HBW.out)⟩⟩
 case round =>
  clear H'
  try clear c1
  obtain ⟨x3_1, x4_1, rfl, rfl, HA, HK1, HB, HBW⟩ := hrel
  cases gk with
  | zero => exact absurd HA.out (by simp [spec_l1New.l0])
  | succ k1 =>
   have H := HA.out
   clear HA
   simp only [spec_l1New.l0] at H
   replace H := ifD H; rcases H with ⟨c2, H⟩ | ⟨c2, H⟩
   ·have c2b0 : decide (x4_1 < (l0.length : Int)) = true := decide_eq_true c2
    clear c2
    replace H := ifD H; rcases H with ⟨c3, H⟩ | ⟨c3, H⟩
    ·have c3b0 : decide (x4_1 < 4000) = true := decide_eq_true c3
     clear c3
     replace H := ifN H; obtain ⟨c4, H⟩ := H
     have c4b0 : decide (0 ≤ x4_1) = true := decide_eq_true c4
     clear c4
     have H' := Aside0.mk H
     clear H
     have p205 : 0 ≤ (x4_1 : Int) := of_decide_eq_true (by first | (with_reducible assumption) | assumption)
     have q205 : x4_1 < (l0.length : Int) := of_decide_eq_true (by first | (with_reducible assumption) | assumption)
     obtain ⟨ad205, e205, hx205_0⟩ := Kd.at_int HR0.out x4_1 p205 q205
     cases e205
     replace hx205_0 := pw_cell_below HB.out hx205_0
     replace p205 := eq_true p205
     replace q205 := eq_true q205
     go_wp2
     go_roundg k1
     case measure => have := HK1.out; omega
     case rel => exact ⟨(Go.bits .and .i64 (wrap64 ((wrap64 ((wrap64 (x3_1 * 137)) + (wrap64 (rd l0 x4_1)))) + 11)) 1073741823), (wrap64 (x4_1 + 1)), (by first | rfl | (simp; done) | (simp [*]; done)), (by first | rfl | (simp; done) | (simp [*]; done)), H', ⟨by have := HK1.out; omega⟩, ⟨by repeat (first | (with_reducible first | exact HB.out | apply below_alloc | apply pw_below_drewN | apply below_drew1) | exact HB.out)⟩, ⟨by repeat (first | (with_reducible first | exact HBW.out | apply below_alloc | apply pw_below_drewN | apply below_drew1) | exact HBW.out)⟩⟩
    ·have c3b0 : decide (x4_1 < 4000) = false := decide_eq_false c3
     clear c3
     simp only [Option.some.injEq, Prod.mk.injEq] at H
     obtain ⟨rfl, rfl, rfl⟩ := H
     go_wp2_with (first | ((with_reducible refine gate_dst (N := 31) rfl ?_); refine box_event ?hg (N := 31) ?hd (cs := #[.slice A0 l0.length c0, .int .i64 0, .int .i64 x3_1]) (t := 185) ?hr ?_; (case hd => rfl); (case hg => rfl); (case hr => first | (go_simp; done) | (go_simp; rfl)); intro gb206 hg w5 hbox hb; have n0_ := Aside0.mk (below_step HBW.out hb); have n1_ := Aside0.mk (below_step (by repeat (first | (with_reducible first | exact HB.out | apply below_alloc | apply pw_below_drewN | apply below_drew1) | exact HB.out)) hb); have n2_ := Aside0.mk (hbox); have n3_ := Aside0.mk ((by rw [hg]; exact (below_size (by repeat (first | (with_reducible first | exact HBW.out | apply below_alloc | apply pw_below_drewN | apply below_drew1) | exact HBW.out))) : w.heap.size ≤ gb206)); have n4_ := Aside0.mk ((Nat.le_trans HW0.out (by rw [hg]; exact (below_size (by repeat (first | (with_reducible first | exact HBW.out | apply below_alloc | apply pw_below_drewN | apply below_drew1) | exact HBW.out))) : w.heap.size ≤ gb206) : w0.heap.size ≤ gb206)); clear HBW; clear HB; have HBW := n0_; have HB := n1_; have BK206 := n2_; have GW206 := n3_; have GE206 := n4_; clear n0_ n1_ n2_ n3_ n4_; clear hb hbox hg))
     go_ret
     exact ⟨_, rfl, (show IsS185 w0 _ gb206 l0 0 x3_1 from ⟨_, _, by (with_reducible repeat (first | refine blk_drewN ?_ _ | refine blk_drew ?_ | refine blk_alloc ?_ _)); exact BK206.out, GE206.out, HR0.out⟩), by repeat (first | (with_reducible first | exact HB.out | apply below_alloc | apply pw_below_drewN | apply below_drew1 | refine below_set ?_ GE206.out) | exact HB.out), by repeat (first | (with_reducible first | exact HBW.out | apply below_alloc | apply pw_below_drewN | apply below_drew1 | refine below_set ?_ GW206.out) | exact HBW.out)⟩
   ·have c2b0 : decide (x4_1 < (l0.length : Int)) = false := decide_eq_false c2
    clear c2
    simp only [Option.some.injEq, Prod.mk.injEq] at H
    obtain ⟨rfl, rfl, rfl⟩ := H
    go_wp2_with (first | ((with_reducible refine gate_dst (N := 31) rfl ?_); refine box_event ?hg (N := 31) ?hd (cs := #[.slice A0 l0.length c0, .int .i64 0, .int .i64 x3_1]) (t := 185) ?hr ?_; (case hd => rfl); (case hg => rfl); (case hr => first | (go_simp; done) | (go_simp; rfl)); intro gb207 hg w6 hbox hb; have n0_ := Aside0.mk (below_step HBW.out hb); have n1_ := Aside0.mk (below_step (by repeat (first | (with_reducible first | exact HB.out | apply below_alloc | apply pw_below_drewN | apply below_drew1) | exact HB.out)) hb); have n2_ := Aside0.mk (hbox); have n3_ := Aside0.mk ((by rw [hg]; exact (below_size (by repeat (first | (with_reducible first | exact HBW.out | apply below_alloc | apply pw_below_drewN | apply below_drew1) | exact HBW.out))) : w.heap.size ≤ gb207)); have n4_ := Aside0.mk ((Nat.le_trans HW0.out (by rw [hg]; exact (below_size (by repeat (first | (with_reducible first | exact HBW.out | apply below_alloc | apply pw_below_drewN | apply below_drew1) | exact HBW.out))) : w.heap.size ≤ gb207) : w0.heap.size ≤ gb207)); clear HBW; clear HB; have HBW := n0_; have HB := n1_; have BK207 := n2_; have GW207 := n3_; have GE207 := n4_; clear n0_ n1_ n2_ n3_ n4_; clear hb hbox hg))
    go_ret
    exact ⟨_, rfl, (show IsS185 w0 _ gb207 l0 0 x3_1 from ⟨_, _, by (with_reducible repeat (first | refine blk_drewN ?_ _ | refine blk_drew ?_ | refine blk_alloc ?_ _)); exact BK207.out, GE207.out, HR0.out⟩), by repeat (first | (with_reducible first | exact HB.out | apply below_alloc | apply pw_below_drewN | apply below_drew1 | refine below_set ?_ GE207.out) | exact HB.out), by repeat (first | (with_reducible first | exact HBW.out | apply below_alloc | apply pw_below_drewN | apply below_drew1 | refine below_set ?_ GW207.out) | exact HBW.out)⟩

end Go.Proofs.Ytplfbjbbnjlnkaa.QFnDelegated
