/- The machine side of FnExactTakeBack: what each function that it reaches computes, and that the machine's call gives just that. -/
import Derived.Test.YtplfbjbbnjlnkaaQFnExactTakeBackx0
import Derived.Test.YtplfbjbbnjlnkaaQFnExactTakeBackx5
namespace Go.Proofs.Ytplfbjbbnjlnkaa.QFnExactTakeBack
open Go.RowKit Go.Proofs.YtplfbjbbnjlnkaaW.PrintWords Go.Proofs.YtplfbjbbnjlnkaaW.PrintLast Go.Proofs.YtplfbjbbnjlnkaaW.PrintMore
attribute [local go_sem] max2_int min2_int max_two min_two max_three min_three max_four min_four   -- for this text's walks alone
set_option linter.unusedVariables false
set_option linter.unusedSimpArgs false

/-! ### laws_heldGrantS: function 32 -/
def laws_heldGrantS.l0 : Nat → List (S51) → Int → Int → Option (Int)
  | 0, _, _, _ => none
  | k + 1, x0, x1, x5 => if x5 < (x0.length : Int) then (if 0 ≤ x5 then (if ((rd_T51 x0 x5).f0) = x1 then (if ((rd_T51 x0 x5).f1) = (wrap64 (x1 + 1)) then (if ((rd_T51 x0 x5).f2) = (wrap64 ((wrap64 (x1 + 1)) + 1)) then ((laws_heldIntS.f k ((rd_T51 x0 x5).f3) (wrap64 ((wrap64 ((wrap64 (x1 + 1)) + 1)) + 1))).bind fun t216 => (if t216 < 0 then (some (-1)) else (if ((rd_T51 x0 x5).f4) = t216 then (if ((rd_T51 x0 x5).f5) = (wrap64 (t216 + 1)) then (if (((rd_T51 x0 x5).f6) != ((Int.tmod (wrap64 ((wrap64 (t216 + 1)) + 1)) 3) == 0)) = true then (some (-1)) else (laws_heldGrantS.l0 k x0 (wrap64 ((wrap64 ((wrap64 (t216 + 1)) + 1)) + 1)) (wrap64 (x5 + 1)))) else (some (-1))) else (some (-1))))) else (some (-1))) else (some (-1))) else (some (-1))) else (none)) else (some x1)
def laws_heldGrantS.f (k : Nat) (l0 : List (S51)) (a1 : Int) : Option (Int) := laws_heldGrantS.l0 k l0 a1 0
theorem laws_heldGrantS.mono_l : ∀ k, (∀ y0 y1 y2, LeO (laws_heldGrantS.l0 k y0 y1 y2) (laws_heldGrantS.l0 (k + 1) y0 y1 y2))
  | 0 => fun _ _ _ r h => by simp [laws_heldGrantS.l0] at h
  | k + 1 => by
    have ih0 := laws_heldGrantS.mono_l k
    · intro y0 y1 y2
      unfold laws_heldGrantS.l0
      repeat' first
      | (with_reducible exact ih0 _ _ _)
      | (with_reducible exact laws_heldIntS.mono _ _ _)
      | (with_reducible exact LeO.refl _)
      | (with_reducible exact LeO.none _)
      | (with_reducible refine LeO.ite ?_ ?_)
      | (with_reducible refine LeO.bind ?_ (fun _ => ?_))
      | exact ih0 _ _ _
      | exact laws_heldIntS.mono _ _ _
      | exact LeO.none _
      | refine LeO.ite ?_ ?_
      | refine LeO.bind ?_ (fun _ => ?_)
theorem laws_heldGrantS.mono : ∀ a0 a1 k, LeO (laws_heldGrantS.f k a0 a1) (laws_heldGrantS.f (k + 1) a0 a1) := by
  intro a0 a1 k
  have ih0 := laws_heldGrantS.mono_l k
  unfold laws_heldGrantS.f
  repeat' first
      | (with_reducible exact ih0 _ _ _)
      | (with_reducible exact laws_heldIntS.mono _ _ _)
      | (with_reducible exact LeO.refl _)
      | (with_reducible exact LeO.none _)
      | (with_reducible refine LeO.ite ?_ ?_)
      | (with_reducible refine LeO.bind ?_ (fun _ => ?_))
      | exact ih0 _ _ _
      | exact laws_heldIntS.mono _ _ _
      | exact LeO.none _
      | refine LeO.ite ?_ ?_
      | refine LeO.bind ?_ (fun _ => ?_)
set_option maxHeartbeats 8000000 in
set_option maxRecDepth 100000 in
theorem laws_heldGrantS.calls (k : Nat) (A0 : Option Addr) (c0 : Nat) (l0 : List (S51)) (a1 : Int) (r : Int) (w : World) (hr0 : Kd.C k51 w A0 l0.length l0) (hc0 : l0.length ≤ c0) (h : laws_heldGrantS.f k l0 a1 = some r) :
    Calls Try.prog 32 #[.slice A0 l0.length c0, .int .i64 a1] w fun e w' => e = .returned (.int .i64 r) ∧ Drawn0 w w' := by
  have HR0 := Aside0.mk hr0
  have HC0 := Aside0.mk hc0
  clear hr0 hc0
  have H : (laws_heldGrantS.l0 k l0 a1 0) = some r := h
  clear h
  have H' := Aside0.mk H
  clear H
  go_enter Try.func32, Try.ntmps32
  go_wp2
  go_loopg [1, 5] k (fun kq v1 v5 w' => ∃ (x1_1 : Int) (x5_1 : Int), v1 = .int .i64 x1_1 ∧ v5 = .int .i64 x5_1 ∧ Aside0 (laws_heldGrantS.l0 kq l0 x1_1 x5_1 = some r) ∧ Aside0 (kq ≤ k) ∧ Drawn0 w w')
  case atStart => exact ⟨(a1), (0), (by first | rfl | (simp; done) | (simp [*]; done)), (by first | rfl | (simp; done) | (simp [*]; done)), H', ⟨Nat.le_refl _⟩, by repeat (first | exact Drawn0.refl _ | apply Drawn0.step)⟩
  case round =>
    clear H'
    try clear p2
    obtain ⟨x1_1, x5_1, rfl, rfl, HA, HK1, ⟨m1, rfl⟩⟩ := hrel
    cases gk with
    | zero => exact absurd HA.out (by simp [laws_heldGrantS.l0])
    | succ k1 =>
      have H := HA.out
      clear HA
      simp only [laws_heldGrantS.l0] at H
      by_cases c3 : x5_1 < (l0.length : Int)
      · rw [if_pos c3] at H
        have c3b0 : decide (x5_1 < (l0.length : Int)) = true := decide_eq_true c3
        clear c3
        by_cases c4 : 0 ≤ x5_1
        · rw [if_pos c4] at H
          have c4b0 : decide (0 ≤ x5_1) = true := decide_eq_true c4
          clear c4
          by_cases c5 : ((rd_T51 l0 x5_1).f0) = x1_1
          · rw [if_pos c5] at H
            have c5b0 : (((rd_T51 l0 x5_1).f0) == x1_1) = true := beq_iff_eq.mpr c5
            have c5b1 : (((rd_T51 l0 x5_1).f0) != x1_1) = false := bne_eq_false_iff_eq.mpr c5
            clear c5
            by_cases c6 : ((rd_T51 l0 x5_1).f1) = (wrap64 (x1_1 + 1))
            · rw [if_pos c6] at H
              have c6b0 : (((rd_T51 l0 x5_1).f1) == (wrap64 (x1_1 + 1))) = true := beq_iff_eq.mpr c6
              have c6b1 : (((rd_T51 l0 x5_1).f1) != (wrap64 (x1_1 + 1))) = false := bne_eq_false_iff_eq.mpr c6
              clear c6
              by_cases c7 : ((rd_T51 l0 x5_1).f2) = (wrap64 ((wrap64 (x1_1 + 1)) + 1))
              · rw [if_pos c7] at H
                have c7b0 : (((rd_T51 l0 x5_1).f2) == (wrap64 ((wrap64 (x1_1 + 1)) + 1))) = true := beq_iff_eq.mpr c7
                have c7b1 : (((rd_T51 l0 x5_1).f2) != (wrap64 ((wrap64 (x1_1 + 1)) + 1))) = false := bne_eq_false_iff_eq.mpr c7
                clear c7
                replace H := Option.bind_eq_some_iff.mp H
                obtain ⟨t216, A80, H⟩ := H
                replace H : (if t216 < 0 then (some (-1)) else (if ((rd_T51 l0 x5_1).f4) = t216 then (if ((rd_T51 l0 x5_1).f5) = (wrap64 (t216 + 1)) then (if (((rd_T51 l0 x5_1).f6) != ((Int.tmod (wrap64 ((wrap64 (t216 + 1)) + 1)) 3) == 0)) = true then (some (-1)) else (laws_heldGrantS.l0 k1 l0 (wrap64 ((wrap64 ((wrap64 (t216 + 1)) + 1)) + 1)) (wrap64 (x5_1 + 1)))) else (some (-1))) else (some (-1)))) = some r := H
                have A8 := Aside0.mk A80
                clear A80
                by_cases c9 : t216 < 0
                · rw [if_pos c9] at H
                  have c9b0 : decide (t216 < 0) = true := decide_eq_true c9
                  clear c9
                  obtain rfl := Option.some.inj H
                  have p212 : 0 ≤ (x5_1 : Int) := of_decide_eq_true (by first | (with_reducible assumption) | assumption)
                  have q212 : x5_1 < (l0.length : Int) := of_decide_eq_true (by first | (with_reducible assumption) | assumption)
                  obtain ⟨ad212, A212_3, c212_3, e212, hx212_0, hx212_1, hx212_2, hx212_3, hx212_4, hx212_5, hx212_6, hl212_3, hi212_3⟩ := at_T51 HR0.out x5_1 p212 q212
                  cases e212
                  have HR212_3 := Aside0.mk hi212_3
                  have HC212_3 := Aside0.mk hl212_3
                  clear hi212_3 hl212_3
                  replace p212 := eq_true p212
                  replace q212 := eq_true q212
                  have p213 : 0 ≤ (x5_1 : Int) := of_decide_eq_true (by first | (with_reducible assumption) | assumption)
                  have q213 : x5_1 < (l0.length : Int) := of_decide_eq_true (by first | (with_reducible assumption) | assumption)
                  obtain ⟨ad213, A213_3, c213_3, e213, hx213_0, hx213_1, hx213_2, hx213_3, hx213_4, hx213_5, hx213_6, hl213_3, hi213_3⟩ := at_T51 HR0.out x5_1 p213 q213
                  obtain rfl : ad212 = ad213 := (by injection e213)
                  have HR213_3 := Aside0.mk hi213_3
                  have HC213_3 := Aside0.mk hl213_3
                  clear hi213_3 hl213_3
                  replace p213 := eq_true p213
                  replace q213 := eq_true q213
                  have ea_ := Option.some.inj (hx212_3.symm.trans hx213_3)
                  injection ea_ with ea_ en_ ec_
                  subst ea_
                  subst ec_
                  clear en_
                  have p214 : 0 ≤ (x5_1 : Int) := of_decide_eq_true (by first | (with_reducible assumption) | assumption)
                  have q214 : x5_1 < (l0.length : Int) := of_decide_eq_true (by first | (with_reducible assumption) | assumption)
                  obtain ⟨ad214, A214_3, c214_3, e214, hx214_0, hx214_1, hx214_2, hx214_3, hx214_4, hx214_5, hx214_6, hl214_3, hi214_3⟩ := at_T51 HR0.out x5_1 p214 q214
                  obtain rfl : ad212 = ad214 := (by injection e214)
                  have HR214_3 := Aside0.mk hi214_3
                  have HC214_3 := Aside0.mk hl214_3
                  clear hi214_3 hl214_3
                  replace p214 := eq_true p214
                  replace q214 := eq_true q214
                  have ea_ := Option.some.inj (hx212_3.symm.trans hx214_3)
                  injection ea_ with ea_ en_ ec_
                  subst ea_
                  subst ec_
                  clear en_
                  have p215 : 0 ≤ (x5_1 : Int) := of_decide_eq_true (by first | (with_reducible assumption) | assumption)
                  have q215 : x5_1 < (l0.length : Int) := of_decide_eq_true (by first | (with_reducible assumption) | assumption)
                  obtain ⟨ad215, A215_3, c215_3, e215, hx215_0, hx215_1, hx215_2, hx215_3, hx215_4, hx215_5, hx215_6, hl215_3, hi215_3⟩ := at_T51 HR0.out x5_1 p215 q215
                  obtain rfl : ad212 = ad215 := (by injection e215)
                  have HR215_3 := Aside0.mk hi215_3
                  have HC215_3 := Aside0.mk hl215_3
                  clear hi215_3 hl215_3
                  replace p215 := eq_true p215
                  replace q215 := eq_true q215
                  have ea_ := Option.some.inj (hx212_3.symm.trans hx215_3)
                  injection ea_ with ea_ en_ ec_
                  subst ea_
                  subst ec_
                  clear en_
                  go_wp2_with (first | ((with_reducible refine gate_callee (f := 81) rfl ?_); refine goesL_ (some 45) rfl rfl Try.func81 (by kernel_rfl) rfl #[.slice A212_3 ((rd_T51 l0 x5_1).f3).length c212_3, .int .i64 (wrap64 ((wrap64 ((wrap64 (x1_1 + 1)) + 1)) + 1))] rfl (by (try simp only [List.map_toArray, List.map_cons, List.map_nil]); first | done | rfl | (simp only [List.length_drop, List.length_take]; rfl)) ?_; (with_reducible refine (laws_heldIntS.calls k1 _ _ ((rd_T51 l0 x5_1).f3) (wrap64 ((wrap64 ((wrap64 (x1_1 + 1)) + 1)) + 1)) t216 _ ?side1 ?side2 A8.out).mono ?_); (case side1 => repeat (first | exact HR215_3.out | (with_reducible refine Kd.C_alloc ?_ _) | (with_reducible refine Kd.C_drewN ?_ _) | (with_reducible refine Kd.C_drew ?_))); (case side2 => exact HC215_3.out); rintro e w' ⟨rfl, ⟨nd, rfl⟩⟩; refine ⟨_, rfl, ?_⟩))
                  go_ret
                  exact ⟨by first | rfl | (simp; done) | (simp [*]; done), by repeat (first | exact Drawn0.refl _ | apply Drawn0.step)⟩
                · rw [if_neg c9] at H
                  have c9b0 : decide (t216 < 0) = false := decide_eq_false c9
                  clear c9
                  by_cases c10 : ((rd_T51 l0 x5_1).f4) = t216
                  · rw [if_pos c10] at H
                    have c10b0 : (((rd_T51 l0 x5_1).f4) == t216) = true := beq_iff_eq.mpr c10
                    have c10b1 : (((rd_T51 l0 x5_1).f4) != t216) = false := bne_eq_false_iff_eq.mpr c10
                    clear c10
                    by_cases c11 : ((rd_T51 l0 x5_1).f5) = (wrap64 (t216 + 1))
                    · rw [if_pos c11] at H
                      have c11b0 : (((rd_T51 l0 x5_1).f5) == (wrap64 (t216 + 1))) = true := beq_iff_eq.mpr c11
                      have c11b1 : (((rd_T51 l0 x5_1).f5) != (wrap64 (t216 + 1))) = false := bne_eq_false_iff_eq.mpr c11
                      clear c11
                      by_cases c12 : (((rd_T51 l0 x5_1).f6) != ((Int.tmod (wrap64 ((wrap64 (t216 + 1)) + 1)) 3) == 0)) = true
                      · rw [if_pos c12] at H
                        have c12b0 : (((rd_T51 l0 x5_1).f6) != ((Int.tmod (wrap64 ((wrap64 (t216 + 1)) + 1)) 3) == 0)) = true := c12
                        (try (have c12b1 : decide (((rd_T51 l0 x5_1).f6) = ((Int.tmod (wrap64 ((wrap64 (t216 + 1)) + 1)) 3) == 0)) = false := by simpa using c12))
                        (try (have c12b2 : (((rd_T51 l0 x5_1).f6) == ((Int.tmod (wrap64 ((wrap64 (t216 + 1)) + 1)) 3) == 0)) = false := by simpa using c12))
                        (try (have c12b3 : ¬ (((rd_T51 l0 x5_1).f6) = ((Int.tmod (wrap64 ((wrap64 (t216 + 1)) + 1)) 3) == 0)) := by simpa using c12))
                        clear c12
                        obtain rfl := Option.some.inj H
                        have p212 : 0 ≤ (x5_1 : Int) := of_decide_eq_true (by first | (with_reducible assumption) | assumption)
                        have q212 : x5_1 < (l0.length : Int) := of_decide_eq_true (by first | (with_reducible assumption) | assumption)
                        obtain ⟨ad212, A212_3, c212_3, e212, hx212_0, hx212_1, hx212_2, hx212_3, hx212_4, hx212_5, hx212_6, hl212_3, hi212_3⟩ := at_T51 HR0.out x5_1 p212 q212
                        cases e212
                        have HR212_3 := Aside0.mk hi212_3
                        have HC212_3 := Aside0.mk hl212_3
                        clear hi212_3 hl212_3
                        replace p212 := eq_true p212
                        replace q212 := eq_true q212
                        have p213 : 0 ≤ (x5_1 : Int) := of_decide_eq_true (by first | (with_reducible assumption) | assumption)
                        have q213 : x5_1 < (l0.length : Int) := of_decide_eq_true (by first | (with_reducible assumption) | assumption)
                        obtain ⟨ad213, A213_3, c213_3, e213, hx213_0, hx213_1, hx213_2, hx213_3, hx213_4, hx213_5, hx213_6, hl213_3, hi213_3⟩ := at_T51 HR0.out x5_1 p213 q213
                        obtain rfl : ad212 = ad213 := (by injection e213)
                        have HR213_3 := Aside0.mk hi213_3
                        have HC213_3 := Aside0.mk hl213_3
                        clear hi213_3 hl213_3
                        replace p213 := eq_true p213
                        replace q213 := eq_true q213
                        have ea_ := Option.some.inj (hx212_3.symm.trans hx213_3)
                        injection ea_ with ea_ en_ ec_
                        subst ea_
                        subst ec_
                        clear en_
                        have p214 : 0 ≤ (x5_1 : Int) := of_decide_eq_true (by first | (with_reducible assumption) | assumption)
                        have q214 : x5_1 < (l0.length : Int) := of_decide_eq_true (by first | (with_reducible assumption) | assumption)
                        obtain ⟨ad214, A214_3, c214_3, e214, hx214_0, hx214_1, hx214_2, hx214_3, hx214_4, hx214_5, hx214_6, hl214_3, hi214_3⟩ := at_T51 HR0.out x5_1 p214 q214
                        obtain rfl : ad212 = ad214 := (by injection e214)
                        have HR214_3 := Aside0.mk hi214_3
                        have HC214_3 := Aside0.mk hl214_3
                        clear hi214_3 hl214_3
                        replace p214 := eq_true p214
                        replace q214 := eq_true q214
                        have ea_ := Option.some.inj (hx212_3.symm.trans hx214_3)
                        injection ea_ with ea_ en_ ec_
                        subst ea_
                        subst ec_
                        clear en_
                        have p215 : 0 ≤ (x5_1 : Int) := of_decide_eq_true (by first | (with_reducible assumption) | assumption)
                        have q215 : x5_1 < (l0.length : Int) := of_decide_eq_true (by first | (with_reducible assumption) | assumption)
                        obtain ⟨ad215, A215_3, c215_3, e215, hx215_0, hx215_1, hx215_2, hx215_3, hx215_4, hx215_5, hx215_6, hl215_3, hi215_3⟩ := at_T51 HR0.out x5_1 p215 q215
                        obtain rfl : ad212 = ad215 := (by injection e215)
                        have HR215_3 := Aside0.mk hi215_3
                        have HC215_3 := Aside0.mk hl215_3
                        clear hi215_3 hl215_3
                        replace p215 := eq_true p215
                        replace q215 := eq_true q215
                        have ea_ := Option.some.inj (hx212_3.symm.trans hx215_3)
                        injection ea_ with ea_ en_ ec_
                        subst ea_
                        subst ec_
                        clear en_
                        go_wp2_with (first | ((with_reducible refine gate_callee (f := 81) rfl ?_); refine goesL_ (some 45) rfl rfl Try.func81 (by kernel_rfl) rfl #[.slice A212_3 ((rd_T51 l0 x5_1).f3).length c212_3, .int .i64 (wrap64 ((wrap64 ((wrap64 (x1_1 + 1)) + 1)) + 1))] rfl (by (try simp only [List.map_toArray, List.map_cons, List.map_nil]); first | done | rfl | (simp only [List.length_drop, List.length_take]; rfl)) ?_; (with_reducible refine (laws_heldIntS.calls k1 _ _ ((rd_T51 l0 x5_1).f3) (wrap64 ((wrap64 ((wrap64 (x1_1 + 1)) + 1)) + 1)) t216 _ ?side1 ?side2 A8.out).mono ?_); (case side1 => repeat (first | exact HR215_3.out | (with_reducible refine Kd.C_alloc ?_ _) | (with_reducible refine Kd.C_drewN ?_ _) | (with_reducible refine Kd.C_drew ?_))); (case side2 => exact HC215_3.out); rintro e w' ⟨rfl, ⟨nd, rfl⟩⟩; refine ⟨_, rfl, ?_⟩; have p217 : 0 ≤ (x5_1 : Int) := of_decide_eq_true (by first | (with_reducible assumption) | assumption); have q217 : x5_1 < (l0.length : Int) := of_decide_eq_true (by first | (with_reducible assumption) | assumption); obtain ⟨ad217, A217_3, c217_3, e217, hx217_0, hx217_1, hx217_2, hx217_3, hx217_4, hx217_5, hx217_6, hl217_3, hi217_3⟩ := at_T51 HR0.out x5_1 p217 q217; obtain rfl : ad212 = ad217 := (by injection e217); have HR217_3 := Aside0.mk hi217_3; have HC217_3 := Aside0.mk hl217_3; clear hi217_3 hl217_3; replace p217 := eq_true p217; replace q217 := eq_true q217; have ea_ := Option.some.inj (hx212_3.symm.trans hx217_3); injection ea_ with ea_ en_ ec_; subst ea_; subst ec_; clear en_; have p218 : 0 ≤ (x5_1 : Int) := of_decide_eq_true (by first | (with_reducible assumption) | assumption); have q218 : x5_1 < (l0.length : Int) := of_decide_eq_true (by first | (with_reducible assumption) | assumption); obtain ⟨ad218, A218_3, c218_3, e218, hx218_0, hx218_1, hx218_2, hx218_3, hx218_4, hx218_5, hx218_6, hl218_3, hi218_3⟩ := at_T51 HR0.out x5_1 p218 q218; obtain rfl : ad212 = ad218 := (by injection e218); have HR218_3 := Aside0.mk hi218_3; have HC218_3 := Aside0.mk hl218_3; clear hi218_3 hl218_3; replace p218 := eq_true p218; replace q218 := eq_true q218; have ea_ := Option.some.inj (hx212_3.symm.trans hx218_3); injection ea_ with ea_ en_ ec_; subst ea_; subst ec_; clear en_; have p219 : 0 ≤ (x5_1 : Int) := of_decide_eq_true (by first | (with_reducible assumption) | assumption); have q219 : x5_1 < (l0.length : Int) := of_decide_eq_true (by first | (with_reducible assumption) | assumption); obtain ⟨ad219, A219_3, c219_3, e219, hx219_0, hx219_1, hx219_2, hx219_3, hx219_4, hx219_5, hx219_6, hl219_3, hi219_3⟩ := at_T51 HR0.out x5_1 p219 q219; obtain rfl : ad212 = ad219 := (by injection e219); have HR219_3 := Aside0.mk hi219_3; have HC219_3 := Aside0.mk hl219_3; clear hi219_3 hl219_3; replace p219 := eq_true p219; replace q219 := eq_true q219; have ea_ := Option.some.inj (hx212_3.symm.trans hx219_3); injection ea_ with ea_ en_ ec_; subst ea_; subst ec_; clear en_))
                        go_ret
                        exact ⟨by first | rfl | (simp; done) | (simp [*]; done), by repeat (first | exact Drawn0.refl _ | apply Drawn0.step)⟩
                      · rw [if_neg c12] at H
                        have c12b0 : (((rd_T51 l0 x5_1).f6) != ((Int.tmod (wrap64 ((wrap64 (t216 + 1)) + 1)) 3) == 0)) = false := by simpa using c12
                        (try (have c12b1 : decide (((rd_T51 l0 x5_1).f6) = ((Int.tmod (wrap64 ((wrap64 (t216 + 1)) + 1)) 3) == 0)) = true := by simpa using c12))
                        (try (have c12b2 : (((rd_T51 l0 x5_1).f6) == ((Int.tmod (wrap64 ((wrap64 (t216 + 1)) + 1)) 3) == 0)) = true := by simpa using c12))
                        clear c12
                        have H' := Aside0.mk H
                        clear H
                        have p212 : 0 ≤ (x5_1 : Int) := of_decide_eq_true (by first | (with_reducible assumption) | assumption)
                        have q212 : x5_1 < (l0.length : Int) := of_decide_eq_true (by first | (with_reducible assumption) | assumption)
                        obtain ⟨ad212, A212_3, c212_3, e212, hx212_0, hx212_1, hx212_2, hx212_3, hx212_4, hx212_5, hx212_6, hl212_3, hi212_3⟩ := at_T51 HR0.out x5_1 p212 q212
                        cases e212
                        have HR212_3 := Aside0.mk hi212_3
                        have HC212_3 := Aside0.mk hl212_3
                        clear hi212_3 hl212_3
                        replace p212 := eq_true p212
                        replace q212 := eq_true q212
                        have p213 : 0 ≤ (x5_1 : Int) := of_decide_eq_true (by first | (with_reducible assumption) | assumption)
                        have q213 : x5_1 < (l0.length : Int) := of_decide_eq_true (by first | (with_reducible assumption) | assumption)
                        obtain ⟨ad213, A213_3, c213_3, e213, hx213_0, hx213_1, hx213_2, hx213_3, hx213_4, hx213_5, hx213_6, hl213_3, hi213_3⟩ := at_T51 HR0.out x5_1 p213 q213
                        obtain rfl : ad212 = ad213 := (by injection e213)
                        have HR213_3 := Aside0.mk hi213_3
                        have HC213_3 := Aside0.mk hl213_3
                        clear hi213_3 hl213_3
                        replace p213 := eq_true p213
                        replace q213 := eq_true q213
                        have ea_ := Option.some.inj (hx212_3.symm.trans hx213_3)
                        injection ea_ with ea_ en_ ec_
                        subst ea_
                        subst ec_
                        clear en_
                        have p214 : 0 ≤ (x5_1 : Int) := of_decide_eq_true (by first | (with_reducible assumption) | assumption)
                        have q214 : x5_1 < (l0.length : Int) := of_decide_eq_true (by first | (with_reducible assumption) | assumption)
                        obtain ⟨ad214, A214_3, c214_3, e214, hx214_0, hx214_1, hx214_2, hx214_3, hx214_4, hx214_5, hx214_6, hl214_3, hi214_3⟩ := at_T51 HR0.out x5_1 p214 q214
                        obtain rfl : ad212 = ad214 := (by injection e214)
                        have HR214_3 := Aside0.mk hi214_3
                        have HC214_3 := Aside0.mk hl214_3
                        clear hi214_3 hl214_3
                        replace p214 := eq_true p214
                        replace q214 := eq_true q214
                        have ea_ := Option.some.inj (hx212_3.symm.trans hx214_3)
                        injection ea_ with ea_ en_ ec_
                        subst ea_
                        subst ec_
                        clear en_
                        have p215 : 0 ≤ (x5_1 : Int) := of_decide_eq_true (by first | (with_reducible assumption) | assumption)
                        have q215 : x5_1 < (l0.length : Int) := of_decide_eq_true (by first | (with_reducible assumption) | assumption)
                        obtain ⟨ad215, A215_3, c215_3, e215, hx215_0, hx215_1, hx215_2, hx215_3, hx215_4, hx215_5, hx215_6, hl215_3, hi215_3⟩ := at_T51 HR0.out x5_1 p215 q215
                        obtain rfl : ad212 = ad215 := (by injection e215)
                        have HR215_3 := Aside0.mk hi215_3
                        have HC215_3 := Aside0.mk hl215_3
                        clear hi215_3 hl215_3
                        replace p215 := eq_true p215
                        replace q215 := eq_true q215
                        have ea_ := Option.some.inj (hx212_3.symm.trans hx215_3)
                        injection ea_ with ea_ en_ ec_
                        subst ea_
                        subst ec_
                        clear en_
                        go_wp2_with (first | ((with_reducible refine gate_callee (f := 81) rfl ?_); refine goesL_ (some 45) rfl rfl Try.func81 (by kernel_rfl) rfl #[.slice A212_3 ((rd_T51 l0 x5_1).f3).length c212_3, .int .i64 (wrap64 ((wrap64 ((wrap64 (x1_1 + 1)) + 1)) + 1))] rfl (by (try simp only [List.map_toArray, List.map_cons, List.map_nil]); first | done | rfl | (simp only [List.length_drop, List.length_take]; rfl)) ?_; (with_reducible refine (laws_heldIntS.calls k1 _ _ ((rd_T51 l0 x5_1).f3) (wrap64 ((wrap64 ((wrap64 (x1_1 + 1)) + 1)) + 1)) t216 _ ?side1 ?side2 A8.out).mono ?_); (case side1 => repeat (first | exact HR215_3.out | (with_reducible refine Kd.C_alloc ?_ _) | (with_reducible refine Kd.C_drewN ?_ _) | (with_reducible refine Kd.C_drew ?_))); (case side2 => exact HC215_3.out); rintro e w' ⟨rfl, ⟨nd, rfl⟩⟩; refine ⟨_, rfl, ?_⟩; have p217 : 0 ≤ (x5_1 : Int) := of_decide_eq_true (by first | (with_reducible assumption) | assumption); have q217 : x5_1 < (l0.length : Int) := of_decide_eq_true (by first | (with_reducible assumption) | assumption); obtain ⟨ad217, A217_3, c217_3, e217, hx217_0, hx217_1, hx217_2, hx217_3, hx217_4, hx217_5, hx217_6, hl217_3, hi217_3⟩ := at_T51 HR0.out x5_1 p217 q217; obtain rfl : ad212 = ad217 := (by injection e217); have HR217_3 := Aside0.mk hi217_3; have HC217_3 := Aside0.mk hl217_3; clear hi217_3 hl217_3; replace p217 := eq_true p217; replace q217 := eq_true q217; have ea_ := Option.some.inj (hx212_3.symm.trans hx217_3); injection ea_ with ea_ en_ ec_; subst ea_; subst ec_; clear en_; have p218 : 0 ≤ (x5_1 : Int) := of_decide_eq_true (by first | (with_reducible assumption) | assumption); have q218 : x5_1 < (l0.length : Int) := of_decide_eq_true (by first | (with_reducible assumption) | assumption); obtain ⟨ad218, A218_3, c218_3, e218, hx218_0, hx218_1, hx218_2, hx218_3, hx218_4, hx218_5, hx218_6, hl218_3, hi218_3⟩ := at_T51 HR0.out x5_1 p218 q218; obtain rfl : ad212 = ad218 := (by injection e218); have HR218_3 := Aside0.mk hi218_3; have HC218_3 := Aside0.mk hl218_3; clear hi218_3 hl218_3; replace p218 := eq_true p218; replace q218 := eq_true q218; have ea_ := Option.some.inj (hx212_3.symm.trans hx218_3); injection ea_ with ea_ en_ ec_; subst ea_; subst ec_; clear en_; have p219 : 0 ≤ (x5_1 : Int) := of_decide_eq_true (by first | (with_reducible assumption) | assumption); have q219 : x5_1 < (l0.length : Int) := of_decide_eq_true (by first | (with_reducible assumption) | assumption); obtain ⟨ad219, A219_3, c219_3, e219, hx219_0, hx219_1, hx219_2, hx219_3, hx219_4, hx219_5, hx219_6, hl219_3, hi219_3⟩ := at_T51 HR0.out x5_1 p219 q219; obtain rfl : ad212 = ad219 := (by injection e219); have HR219_3 := Aside0.mk hi219_3; have HC219_3 := Aside0.mk hl219_3; clear hi219_3 hl219_3; replace p219 := eq_true p219; replace q219 := eq_true q219; have ea_ := Option.some.inj (hx212_3.symm.trans hx219_3); injection ea_ with ea_ en_ ec_; subst ea_; subst ec_; clear en_))
                        go_roundg k1
                        case measure => have := HK1.out; omega
                        case rel => exact ⟨(wrap64 ((wrap64 ((wrap64 (t216 + 1)) + 1)) + 1)), (wrap64 (x5_1 + 1)), (by first | rfl | (simp; done) | (simp [*]; done)), (by first | rfl | (simp; done) | (simp [*]; done)), H', ⟨by have := HK1.out; omega⟩, by repeat (first | exact Drawn0.refl _ | apply Drawn0.step)⟩
                    · rw [if_neg c11] at H
                      have c11b0 : (((rd_T51 l0 x5_1).f5) == (wrap64 (t216 + 1))) = false := beq_eq_false_iff_ne.mpr c11
                      have c11b1 : (((rd_T51 l0 x5_1).f5) != (wrap64 (t216 + 1))) = true := bne_iff_ne.mpr c11
                      obtain rfl := Option.some.inj H
                      have p212 : 0 ≤ (x5_1 : Int) := of_decide_eq_true (by first | (with_reducible assumption) | assumption)
                      have q212 : x5_1 < (l0.length : Int) := of_decide_eq_true (by first | (with_reducible assumption) | assumption)
                      obtain ⟨ad212, A212_3, c212_3, e212, hx212_0, hx212_1, hx212_2, hx212_3, hx212_4, hx212_5, hx212_6, hl212_3, hi212_3⟩ := at_T51 HR0.out x5_1 p212 q212
                      cases e212
                      have HR212_3 := Aside0.mk hi212_3
                      have HC212_3 := Aside0.mk hl212_3
                      clear hi212_3 hl212_3
                      replace p212 := eq_true p212
                      replace q212 := eq_true q212
                      have p213 : 0 ≤ (x5_1 : Int) := of_decide_eq_true (by first | (with_reducible assumption) | assumption)
                      have q213 : x5_1 < (l0.length : Int) := of_decide_eq_true (by first | (with_reducible assumption) | assumption)
                      obtain ⟨ad213, A213_3, c213_3, e213, hx213_0, hx213_1, hx213_2, hx213_3, hx213_4, hx213_5, hx213_6, hl213_3, hi213_3⟩ := at_T51 HR0.out x5_1 p213 q213
                      obtain rfl : ad212 = ad213 := (by injection e213)
                      have HR213_3 := Aside0.mk hi213_3
                      have HC213_3 := Aside0.mk hl213_3
                      clear hi213_3 hl213_3
                      replace p213 := eq_true p213
                      replace q213 := eq_true q213
                      have ea_ := Option.some.inj (hx212_3.symm.trans hx213_3)
                      injection ea_ with ea_ en_ ec_
                      subst ea_
                      subst ec_
                      clear en_
                      have p214 : 0 ≤ (x5_1 : Int) := of_decide_eq_true (by first | (with_reducible assumption) | assumption)
                      have q214 : x5_1 < (l0.length : Int) := of_decide_eq_true (by first | (with_reducible assumption) | assumption)
                      obtain ⟨ad214, A214_3, c214_3, e214, hx214_0, hx214_1, hx214_2, hx214_3, hx214_4, hx214_5, hx214_6, hl214_3, hi214_3⟩ := at_T51 HR0.out x5_1 p214 q214
                      obtain rfl : ad212 = ad214 := (by injection e214)
                      have HR214_3 := Aside0.mk hi214_3
                      have HC214_3 := Aside0.mk hl214_3
                      clear hi214_3 hl214_3
                      replace p214 := eq_true p214
                      replace q214 := eq_true q214
                      have ea_ := Option.some.inj (hx212_3.symm.trans hx214_3)
                      injection ea_ with ea_ en_ ec_
                      subst ea_
                      subst ec_
                      clear en_
                      have p215 : 0 ≤ (x5_1 : Int) := of_decide_eq_true (by first | (with_reducible assumption) | assumption)
                      have q215 : x5_1 < (l0.length : Int) := of_decide_eq_true (by first | (with_reducible assumption) | assumption)
                      obtain ⟨ad215, A215_3, c215_3, e215, hx215_0, hx215_1, hx215_2, hx215_3, hx215_4, hx215_5, hx215_6, hl215_3, hi215_3⟩ := at_T51 HR0.out x5_1 p215 q215
                      obtain rfl : ad212 = ad215 := (by injection e215)
                      have HR215_3 := Aside0.mk hi215_3
                      have HC215_3 := Aside0.mk hl215_3
                      clear hi215_3 hl215_3
                      replace p215 := eq_true p215
                      replace q215 := eq_true q215
                      have ea_ := Option.some.inj (hx212_3.symm.trans hx215_3)
                      injection ea_ with ea_ en_ ec_
                      subst ea_
                      subst ec_
                      clear en_
                      go_wp2_with (first | ((with_reducible refine gate_callee (f := 81) rfl ?_); refine goesL_ (some 45) rfl rfl Try.func81 (by kernel_rfl) rfl #[.slice A212_3 ((rd_T51 l0 x5_1).f3).length c212_3, .int .i64 (wrap64 ((wrap64 ((wrap64 (x1_1 + 1)) + 1)) + 1))] rfl (by (try simp only [List.map_toArray, List.map_cons, List.map_nil]); first | done | rfl | (simp only [List.length_drop, List.length_take]; rfl)) ?_; (with_reducible refine (laws_heldIntS.calls k1 _ _ ((rd_T51 l0 x5_1).f3) (wrap64 ((wrap64 ((wrap64 (x1_1 + 1)) + 1)) + 1)) t216 _ ?side1 ?side2 A8.out).mono ?_); (case side1 => repeat (first | exact HR215_3.out | (with_reducible refine Kd.C_alloc ?_ _) | (with_reducible refine Kd.C_drewN ?_ _) | (with_reducible refine Kd.C_drew ?_))); (case side2 => exact HC215_3.out); rintro e w' ⟨rfl, ⟨nd, rfl⟩⟩; refine ⟨_, rfl, ?_⟩; have p217 : 0 ≤ (x5_1 : Int) := of_decide_eq_true (by first | (with_reducible assumption) | assumption); have q217 : x5_1 < (l0.length : Int) := of_decide_eq_true (by first | (with_reducible assumption) | assumption); obtain ⟨ad217, A217_3, c217_3, e217, hx217_0, hx217_1, hx217_2, hx217_3, hx217_4, hx217_5, hx217_6, hl217_3, hi217_3⟩ := at_T51 HR0.out x5_1 p217 q217; obtain rfl : ad212 = ad217 := (by injection e217); have HR217_3 := Aside0.mk hi217_3; have HC217_3 := Aside0.mk hl217_3; clear hi217_3 hl217_3; replace p217 := eq_true p217; replace q217 := eq_true q217; have ea_ := Option.some.inj (hx212_3.symm.trans hx217_3); injection ea_ with ea_ en_ ec_; subst ea_; subst ec_; clear en_; have p218 : 0 ≤ (x5_1 : Int) := of_decide_eq_true (by first | (with_reducible assumption) | assumption); have q218 : x5_1 < (l0.length : Int) := of_decide_eq_true (by first | (with_reducible assumption) | assumption); obtain ⟨ad218, A218_3, c218_3, e218, hx218_0, hx218_1, hx218_2, hx218_3, hx218_4, hx218_5, hx218_6, hl218_3, hi218_3⟩ := at_T51 HR0.out x5_1 p218 q218; obtain rfl : ad212 = ad218 := (by injection e218); have HR218_3 := Aside0.mk hi218_3; have HC218_3 := Aside0.mk hl218_3; clear hi218_3 hl218_3; replace p218 := eq_true p218; replace q218 := eq_true q218; have ea_ := Option.some.inj (hx212_3.symm.trans hx218_3); injection ea_ with ea_ en_ ec_; subst ea_; subst ec_; clear en_))
                      go_ret
                      exact ⟨by first | rfl | (simp; done) | (simp [*]; done), by repeat (first | exact Drawn0.refl _ | apply Drawn0.step)⟩
                  · rw [if_neg c10] at H
                    have c10b0 : (((rd_T51 l0 x5_1).f4) == t216) = false := beq_eq_false_iff_ne.mpr c10
                    have c10b1 : (((rd_T51 l0 x5_1).f4) != t216) = true := bne_iff_ne.mpr c10
                    obtain rfl := Option.some.inj H
                    have p212 : 0 ≤ (x5_1 : Int) := of_decide_eq_true (by first | (with_reducible assumption) | assumption)
                    have q212 : x5_1 < (l0.length : Int) := of_decide_eq_true (by first | (with_reducible assumption) | assumption)
                    obtain ⟨ad212, A212_3, c212_3, e212, hx212_0, hx212_1, hx212_2, hx212_3, hx212_4, hx212_5, hx212_6, hl212_3, hi212_3⟩ := at_T51 HR0.out x5_1 p212 q212
                    cases e212
                    have HR212_3 := Aside0.mk hi212_3
                    have HC212_3 := Aside0.mk hl212_3
                    clear hi212_3 hl212_3
                    replace p212 := eq_true p212
                    replace q212 := eq_true q212
                    have p213 : 0 ≤ (x5_1 : Int) := of_decide_eq_true (by first | (with_reducible assumption) | assumption)
                    have q213 : x5_1 < (l0.length : Int) := of_decide_eq_true (by first | (with_reducible assumption) | assumption)
                    obtain ⟨ad213, A213_3, c213_3, e213, hx213_0, hx213_1, hx213_2, hx213_3, hx213_4, hx213_5, hx213_6, hl213_3, hi213_3⟩ := at_T51 HR0.out x5_1 p213 q213
                    obtain rfl : ad212 = ad213 := (by injection e213)
                    have HR213_3 := Aside0.mk hi213_3
                    have HC213_3 := Aside0.mk hl213_3
                    clear hi213_3 hl213_3
                    replace p213 := eq_true p213
                    replace q213 := eq_true q213
                    have ea_ := Option.some.inj (hx212_3.symm.trans hx213_3)
                    injection ea_ with ea_ en_ ec_
                    subst ea_
                    subst ec_
                    clear en_
                    have p214 : 0 ≤ (x5_1 : Int) := of_decide_eq_true (by first | (with_reducible assumption) | assumption)
                    have q214 : x5_1 < (l0.length : Int) := of_decide_eq_true (by first | (with_reducible assumption) | assumption)
                    obtain ⟨ad214, A214_3, c214_3, e214, hx214_0, hx214_1, hx214_2, hx214_3, hx214_4, hx214_5, hx214_6, hl214_3, hi214_3⟩ := at_T51 HR0.out x5_1 p214 q214
                    obtain rfl : ad212 = ad214 := (by injection e214)
                    have HR214_3 := Aside0.mk hi214_3
                    have HC214_3 := Aside0.mk hl214_3
                    clear hi214_3 hl214_3
                    replace p214 := eq_true p214
                    replace q214 := eq_true q214
                    have ea_ := Option.some.inj (hx212_3.symm.trans hx214_3)
                    injection ea_ with ea_ en_ ec_
                    subst ea_
                    subst ec_
                    clear en_
                    have p215 : 0 ≤ (x5_1 : Int) := of_decide_eq_true (by first | (with_reducible assumption) | assumption)
                    have q215 : x5_1 < (l0.length : Int) := of_decide_eq_true (by first | (with_reducible assumption) | assumption)
                    obtain ⟨ad215, A215_3, c215_3, e215, hx215_0, hx215_1, hx215_2, hx215_3, hx215_4, hx215_5, hx215_6, hl215_3, hi215_3⟩ := at_T51 HR0.out x5_1 p215 q215
                    obtain rfl : ad212 = ad215 := (by injection e215)
                    have HR215_3 := Aside0.mk hi215_3
                    have HC215_3 := Aside0.mk hl215_3
                    clear hi215_3 hl215_3
                    replace p215 := eq_true p215
                    replace q215 := eq_true q215
                    have ea_ := Option.some.inj (hx212_3.symm.trans hx215_3)
                    injection ea_ with ea_ en_ ec_
                    subst ea_
                    subst ec_
                    clear en_
                    go_wp2_with (first | ((with_reducible refine gate_callee (f := 81) rfl ?_); refine goesL_ (some 45) rfl rfl Try.func81 (by kernel_rfl) rfl #[.slice A212_3 ((rd_T51 l0 x5_1).f3).length c212_3, .int .i64 (wrap64 ((wrap64 ((wrap64 (x1_1 + 1)) + 1)) + 1))] rfl (by (try simp only [List.map_toArray, List.map_cons, List.map_nil]); first | done | rfl | (simp only [List.length_drop, List.length_take]; rfl)) ?_; (with_reducible refine (laws_heldIntS.calls k1 _ _ ((rd_T51 l0 x5_1).f3) (wrap64 ((wrap64 ((wrap64 (x1_1 + 1)) + 1)) + 1)) t216 _ ?side1 ?side2 A8.out).mono ?_); (case side1 => repeat (first | exact HR215_3.out | (with_reducible refine Kd.C_alloc ?_ _) | (with_reducible refine Kd.C_drewN ?_ _) | (with_reducible refine Kd.C_drew ?_))); (case side2 => exact HC215_3.out); rintro e w' ⟨rfl, ⟨nd, rfl⟩⟩; refine ⟨_, rfl, ?_⟩; have p217 : 0 ≤ (x5_1 : Int) := of_decide_eq_true (by first | (with_reducible assumption) | assumption); have q217 : x5_1 < (l0.length : Int) := of_decide_eq_true (by first | (with_reducible assumption) | assumption); obtain ⟨ad217, A217_3, c217_3, e217, hx217_0, hx217_1, hx217_2, hx217_3, hx217_4, hx217_5, hx217_6, hl217_3, hi217_3⟩ := at_T51 HR0.out x5_1 p217 q217; obtain rfl : ad212 = ad217 := (by injection e217); have HR217_3 := Aside0.mk hi217_3; have HC217_3 := Aside0.mk hl217_3; clear hi217_3 hl217_3; replace p217 := eq_true p217; replace q217 := eq_true q217; have ea_ := Option.some.inj (hx212_3.symm.trans hx217_3); injection ea_ with ea_ en_ ec_; subst ea_; subst ec_; clear en_))
                    go_ret
                    exact ⟨by first | rfl | (simp; done) | (simp [*]; done), by repeat (first | exact Drawn0.refl _ | apply Drawn0.step)⟩
              · rw [if_neg c7] at H
                have c7b0 : (((rd_T51 l0 x5_1).f2) == (wrap64 ((wrap64 (x1_1 + 1)) + 1))) = false := beq_eq_false_iff_ne.mpr c7
                have c7b1 : (((rd_T51 l0 x5_1).f2) != (wrap64 ((wrap64 (x1_1 + 1)) + 1))) = true := bne_iff_ne.mpr c7
                obtain rfl := Option.some.inj H
                have p212 : 0 ≤ (x5_1 : Int) := of_decide_eq_true (by first | (with_reducible assumption) | assumption)
                have q212 : x5_1 < (l0.length : Int) := of_decide_eq_true (by first | (with_reducible assumption) | assumption)
                obtain ⟨ad212, A212_3, c212_3, e212, hx212_0, hx212_1, hx212_2, hx212_3, hx212_4, hx212_5, hx212_6, hl212_3, hi212_3⟩ := at_T51 HR0.out x5_1 p212 q212
                cases e212
                have HR212_3 := Aside0.mk hi212_3
                have HC212_3 := Aside0.mk hl212_3
                clear hi212_3 hl212_3
                replace p212 := eq_true p212
                replace q212 := eq_true q212
                have p213 : 0 ≤ (x5_1 : Int) := of_decide_eq_true (by first | (with_reducible assumption) | assumption)
                have q213 : x5_1 < (l0.length : Int) := of_decide_eq_true (by first | (with_reducible assumption) | assumption)
                obtain ⟨ad213, A213_3, c213_3, e213, hx213_0, hx213_1, hx213_2, hx213_3, hx213_4, hx213_5, hx213_6, hl213_3, hi213_3⟩ := at_T51 HR0.out x5_1 p213 q213
                obtain rfl : ad212 = ad213 := (by injection e213)
                have HR213_3 := Aside0.mk hi213_3
                have HC213_3 := Aside0.mk hl213_3
                clear hi213_3 hl213_3
                replace p213 := eq_true p213
                replace q213 := eq_true q213
                have ea_ := Option.some.inj (hx212_3.symm.trans hx213_3)
                injection ea_ with ea_ en_ ec_
                subst ea_
                subst ec_
                clear en_
                have p214 : 0 ≤ (x5_1 : Int) := of_decide_eq_true (by first | (with_reducible assumption) | assumption)
                have q214 : x5_1 < (l0.length : Int) := of_decide_eq_true (by first | (with_reducible assumption) | assumption)
                obtain ⟨ad214, A214_3, c214_3, e214, hx214_0, hx214_1, hx214_2, hx214_3, hx214_4, hx214_5, hx214_6, hl214_3, hi214_3⟩ := at_T51 HR0.out x5_1 p214 q214
                obtain rfl : ad212 = ad214 := (by injection e214)
                have HR214_3 := Aside0.mk hi214_3
                have HC214_3 := Aside0.mk hl214_3
                clear hi214_3 hl214_3
                replace p214 := eq_true p214
                replace q214 := eq_true q214
                have ea_ := Option.some.inj (hx212_3.symm.trans hx214_3)
                injection ea_ with ea_ en_ ec_
                subst ea_
                subst ec_
                clear en_
                go_wp2
                go_ret
                exact ⟨by first | rfl | (simp; done) | (simp [*]; done), by repeat (first | exact Drawn0.refl _ | apply Drawn0.step)⟩
            · rw [if_neg c6] at H
              have c6b0 : (((rd_T51 l0 x5_1).f1) == (wrap64 (x1_1 + 1))) = false := beq_eq_false_iff_ne.mpr c6
              have c6b1 : (((rd_T51 l0 x5_1).f1) != (wrap64 (x1_1 + 1))) = true := bne_iff_ne.mpr c6
              obtain rfl := Option.some.inj H
              have p212 : 0 ≤ (x5_1 : Int) := of_decide_eq_true (by first | (with_reducible assumption) | assumption)
              have q212 : x5_1 < (l0.length : Int) := of_decide_eq_true (by first | (with_reducible assumption) | assumption)
              obtain ⟨ad212, A212_3, c212_3, e212, hx212_0, hx212_1, hx212_2, hx212_3, hx212_4, hx212_5, hx212_6, hl212_3, hi212_3⟩ := at_T51 HR0.out x5_1 p212 q212
              cases e212
              have HR212_3 := Aside0.mk hi212_3
              have HC212_3 := Aside0.mk hl212_3
              clear hi212_3 hl212_3
              replace p212 := eq_true p212
              replace q212 := eq_true q212
              have p213 : 0 ≤ (x5_1 : Int) := of_decide_eq_true (by first | (with_reducible assumption) | assumption)
              have q213 : x5_1 < (l0.length : Int) := of_decide_eq_true (by first | (with_reducible assumption) | assumption)
              obtain ⟨ad213, A213_3, c213_3, e213, hx213_0, hx213_1, hx213_2, hx213_3, hx213_4, hx213_5, hx213_6, hl213_3, hi213_3⟩ := at_T51 HR0.out x5_1 p213 q213
              obtain rfl : ad212 = ad213 := (by injection e213)
              have HR213_3 := Aside0.mk hi213_3
              have HC213_3 := Aside0.mk hl213_3
              clear hi213_3 hl213_3
              replace p213 := eq_true p213
              replace q213 := eq_true q213
              have ea_ := Option.some.inj (hx212_3.symm.trans hx213_3)
              injection ea_ with ea_ en_ ec_
              subst ea_
              subst ec_
              clear en_
              go_wp2
              go_ret
              exact ⟨by first | rfl | (simp; done) | (simp [*]; done), by repeat (first | exact Drawn0.refl _ | apply Drawn0.step)⟩
          · rw [if_neg c5] at H
            have c5b0 : (((rd_T51 l0 x5_1).f0) == x1_1) = false := beq_eq_false_iff_ne.mpr c5
            have c5b1 : (((rd_T51 l0 x5_1).f0) != x1_1) = true := bne_iff_ne.mpr c5
            obtain rfl := Option.some.inj H
            have p212 : 0 ≤ (x5_1 : Int) := of_decide_eq_true (by first | (with_reducible assumption) | assumption)
            have q212 : x5_1 < (l0.length : Int) := of_decide_eq_true (by first | (with_reducible assumption) | assumption)
            obtain ⟨ad212, A212_3, c212_3, e212, hx212_0, hx212_1, hx212_2, hx212_3, hx212_4, hx212_5, hx212_6, hl212_3, hi212_3⟩ := at_T51 HR0.out x5_1 p212 q212
            cases e212
            have HR212_3 := Aside0.mk hi212_3
            have HC212_3 := Aside0.mk hl212_3
            clear hi212_3 hl212_3
            replace p212 := eq_true p212
            replace q212 := eq_true q212
            go_wp2
            go_ret
            exact ⟨by first | rfl | (simp; done) | (simp [*]; done), by repeat (first | exact Drawn0.refl _ | apply Drawn0.step)⟩
        · rw [if_neg c4] at H
          exact absurd H (by simp)
      · rw [if_neg c3] at H
        have c3b0 : decide (x5_1 < (l0.length : Int)) = false := decide_eq_false c3
        clear c3
        obtain rfl := Option.some.inj H
        go_wp2
        go_ret
        exact ⟨by first | rfl | (simp; done) | (simp [*]; done), by repeat (first | exact Drawn0.refl _ | apply Drawn0.step)⟩

end Go.Proofs.Ytplfbjbbnjlnkaa.QFnExactTakeBack
