/- The machine side of FnExactDeclareEmergency: what each function that it reaches computes, and that the machine's call gives just that. -/
import Derived.Test.YtplfbjbbnjlnkaaQFnExactDeclareEmergencyx0
import Derived.Test.YtplfbjbbnjlnkaaQFnExactDeclareEmergencyx8
namespace Go.Proofs.Ytplfbjbbnjlnkaa.QFnExactDeclareEmergency
open Go.RowKit Go.Proofs.YtplfbjbbnjlnkaaW.PrintWords Go.Proofs.YtplfbjbbnjlnkaaW.PrintLast Go.Proofs.YtplfbjbbnjlnkaaW.PrintMore
attribute [local go_sem] max2_int min2_int max_two min_two max_three min_three max_four min_four   -- for this text's walks alone
set_option linter.unusedVariables false
set_option linter.unusedSimpArgs false

/-! ### laws_markEmergencyS: function 67 -/
def laws_markEmergencyS.l0 : Nat → List S144 → Int → Int → Option (Int × List S144)
  | 0, _, _, _ => none
  | k + 1, l, n, i => if i < (l.length : Int) then (laws_markIntS.f k (rd_T144 l i).f4 (wrap64 (wrap64 (wrap64 (wrap64 (n + 1) + 1) + 1) + 1))).bind fun r0 => laws_markEmergencyS.l0 k (l.set i.toNat (⟨n, wrap64 (n + 1), wrap64 (wrap64 (n + 1) + 1), wrap64 (wrap64 (wrap64 (n + 1) + 1) + 1), r0.2, Int.tmod (r0.1) 3 == 0⟩ : S144)) (wrap64 (r0.1 + 1)) (wrap64 (i + 1)) else some (n, l)
def laws_markEmergencyS.f (k : Nat) (l0 : List S144) (a1 : Int) : Option (Int × List S144) := laws_markEmergencyS.l0 k l0 a1 0
set_option maxHeartbeats 8000000 in
set_option maxRecDepth 100000 in
open Go.Proofs.YtplfbjbbnjlnkaaM in
theorem laws_markEmergencyS.calls (k : Nat) (P0_ : Nat → Prop) (A0 : Option Addr) (n0 c0 : Nat) (l0 : List S144) (a1 : Int) (r1 : Int) (r2 : List S144) (w0 w : World) (hB : Below w0.heap.size w0 w) (ho0 : Kd.S k144 144 w w0.heap.size P0_ (.slice A0 n0 c0) l0) (h : laws_markEmergencyS.f k l0 a1 = some (r1, r2)) :
    Calls Try.prog 67 #[.slice A0 n0 c0, .int .i64 a1] w fun e w' => e = .returned (.int .i64 r1) ∧ Kd.S k144 144 w' w0.heap.size P0_ (.slice A0 n0 c0) r2 ∧ Below w0.heap.size w0 w' ∧ Kept w w' P0_ := by
  have HS := Aside0.mk ho0
  have hN : Aside0 (n0 = l0.length) := ⟨(Kd.S_reads' ho0).1⟩
  have HLEN : Aside0 (n0 ≤ 9223372036854775807) := ⟨by have h_ := (Kd.S_reads' ho0).2.2.2.1; have := hN.out; omega⟩
  have HB := Aside0.mk hB
  have H' := Aside0.mk (show laws_markEmergencyS.l0 k l0 a1 0 = some (r1, r2) from h)
  have HK := Aside0.mk (Kept.refl w P0_)
  clear h hB ho0
  have hu144 := Try.underlying144
  go_enter Try.func67, Try.ntmps67
  go_wp2
  go_loopg [1, 5] k (fun kq v1 v5 w' => ∃ (l : List S144) (n i : Int), v1 = .int .i64 n ∧ v5 = .int .i64 i ∧ Aside0 (laws_markEmergencyS.l0 kq l n i = some (r1, r2)) ∧ Aside0 (0 ≤ i ∧ n0 = l.length) ∧ Aside0 (Kd.S k144 144 w' w0.heap.size P0_ (.slice A0 n0 c0) l) ∧ Aside0 (Below w0.heap.size w0 w') ∧ Aside0 (Kept w w' P0_))
  case atStart => exact ⟨l0, a1, 0, rfl, rfl, H', ⟨by omega, hN.out⟩, HS, HB, HK⟩
  case round =>
    clear H' HS HB HK hN
    obtain ⟨l, n, i, rfl, rfl, HA, HX, HS, HB, HK⟩ := hrel
    cases gk with
    | zero => exact absurd HA.out (by simp [laws_markEmergencyS.l0])
    | succ k1 =>
      have H := HA.out
      clear HA
      simp only [laws_markEmergencyS.l0] at H
      by_cases hlt : i < (l.length : Int)
      · rw [if_pos hlt] at H
        obtain ⟨r0, hm0, H⟩ := Option.bind_eq_some_iff.mp H
        have HM0 := Aside0.mk hm0
        have p1 : 0 ≤ i := HX.out.1
        have q1 : i < (n0 : Int) := by have := HX.out.2; omega
        have c1 : decide (i < (n0 : Int)) = true := decide_eq_true q1
        obtain ⟨go, co, eo, gb, gl, cl, HG⟩ := Kd.S_form HS.out (by have := HX.out.2; omega)
        cases eo
        obtain ⟨oki, ce, hcl, hM, hcc, hfr, hoki, hH⟩ := Kd.S_elem HS.out z144 i p1 q1
        obtain ⟨v4, rfl, g4⟩ := k144_openM hM
        obtain ⟨A4, c4, rfl⟩ := Kd.R_slice g4
        have HH := Aside0.mk hH
        have HO := Aside0.mk hoki
        have H' := Aside0.mk H
        have GB := Aside0.mk gb
        have HGO : Aside0 (P0_ go ∨ w.heap.size ≤ go) := ⟨.inl ((Kd.S_R HS.out).1 go rfl)⟩
        have HP := Aside0.mk p1
        have HQ := Aside0.mk q1
        have hx0 : wr.cell? ⟨go, i.toNat * 6, none⟩ = some (.int .i64 ((rd_T144 l i).f0)) := hcc 0 _ rfl
        have hf0 : wr.frozen? ⟨go, i.toNat * 6, none⟩ = false := hfr 0
        have hx1 : wr.cell? ⟨go, i.toNat * 6 + 1, none⟩ = some (.int .i64 ((rd_T144 l i).f1)) := hcc 1 _ rfl
        have hf1 : wr.frozen? ⟨go, i.toNat * 6 + 1, none⟩ = false := hfr 1
        have hx2 : wr.cell? ⟨go, i.toNat * 6 + 2, none⟩ = some (.int .i64 ((rd_T144 l i).f2)) := hcc 2 _ rfl
        have hf2 : wr.frozen? ⟨go, i.toNat * 6 + 2, none⟩ = false := hfr 2
        have hx3 : wr.cell? ⟨go, i.toNat * 6 + 3, none⟩ = some (.int .i64 ((rd_T144 l i).f3)) := hcc 3 _ rfl
        have hf3 : wr.frozen? ⟨go, i.toNat * 6 + 3, none⟩ = false := hfr 3
        have hx4 : wr.cell? ⟨go, i.toNat * 6 + 4, none⟩ = some (.slice A4 (rd_T144 l i).f4.length c4) := hcc 4 _ rfl
        have hf4 : wr.frozen? ⟨go, i.toNat * 6 + 4, none⟩ = false := hfr 4
        have G4 : Aside0 (Kd.R (Kd.int .i64) 3 wr w0.heap.size oki (.slice A4 (rd_T144 l i).f4.length c4) (rd_T144 l i).f4) := ⟨g4⟩
        clear hm0 H hM hcc hfr hcl hH HG gb gl hlt hoki g4
        replace p1 := eq_true p1
        replace q1 := eq_true q1
        go_wp2_with fail
        refine (laws_markIntS.calls k1 oki _ _ _ r0.1 r0.2 w0 _ (below_set (below_set (below_set (below_set (HB.out) GB.out) GB.out) GB.out) GB.out) (Kd.R_far (p := ⟨go, i.toNat * 6 + 3, none⟩) (Kd.R_far (p := ⟨go, i.toNat * 6 + 2, none⟩) (Kd.R_far (p := ⟨go, i.toNat * 6 + 1, none⟩) (Kd.R_far (p := ⟨go, i.toNat * 6, none⟩) (G4.out) (fun k_ h_ => (HO.out k_ h_).2) (.int .i64 (n))) (fun k_ h_ => (HO.out k_ h_).2) (.int .i64 (wrap64 (n + 1)))) (fun k_ h_ => (HO.out k_ h_).2) (.int .i64 (wrap64 (wrap64 (n + 1) + 1)))) (fun k_ h_ => (HO.out k_ h_).2) (.int .i64 (wrap64 (wrap64 (wrap64 (n + 1) + 1) + 1)))) HM0.out).mono ?_
        rintro e w1 ⟨rfl, h4, hb4, hk4⟩
        have H5_4 := Aside0.mk (Kd.R_reok (ok := oki) rfl h4 (fun k_ e_ => G4.out.1 k_ e_))
        have HH1 := Aside0.mk (H_call (H_cell (H_cell (H_cell (H_cell (HH.out) HP.out HQ.out 0 (.int .i64 (n)) (by decide) rfl rfl) HP.out HQ.out 1 (.int .i64 (wrap64 (n + 1))) (by decide) rfl rfl) HP.out HQ.out 2 (.int .i64 (wrap64 (wrap64 (n + 1) + 1))) (by decide) rfl rfl) HP.out HQ.out 3 (.int .i64 (wrap64 (wrap64 (wrap64 (n + 1) + 1) + 1))) (by decide) rfl rfl) hk4)
        have HK1 : Aside0 (Kept w w1 P0_) := ⟨Kept.then_ (Kept.setCell (Kept.setCell (Kept.setCell (Kept.setCell (HK.out) HGO.out _) HGO.out _) HGO.out _) HGO.out _) hk4 (fun k_ h_ => .inl (HO.out k_ h_).1)⟩
        have HB1 := Aside0.mk hb4
        clear h4 hb4 hk4 hx0 hf0 hx1 hf1 hx2 hf2 hx3 hf3 hx4 hf4
        have hx5 : w1.cell? ⟨go, i.toNat * 6 + 5, none⟩ = some (.bool ((rd_T144 l i).f5)) := H_cells HH1.out HP.out HQ.out 5 rfl
        have hf5 : w1.frozen? ⟨go, i.toNat * 6 + 5, none⟩ = false := H_fr HH1.out HP.out HQ.out 5
        go_wp2
        have he : wrap64 (i + 1) = i + 1 := Go.Proofs.YtplfbjbbnjlnkaaH.wrap_up HP.out HQ.out HLEN.out
        go_roundg k1
        case measure => omega
        case rel =>
          refine ⟨_, _, _, rfl, rfl, H', ⟨by have := HP.out; omega, by rw [List.length_set]⟩, ⟨?_⟩, ⟨below_set (HB1.out) GB.out⟩, ⟨Kept.setCell (HK1.out) HGO.out _⟩⟩
          exact Kd.H_back (H_cell (HH1.out) HP.out HQ.out 5 (.bool (Int.tmod (r0.1) 3 == 0)) (by decide) rfl rfl) (k144_mkM _ _ oki (⟨n, wrap64 (n + 1), wrap64 (wrap64 (n + 1) + 1), wrap64 (wrap64 (wrap64 (n + 1) + 1) + 1), r0.2, Int.tmod (r0.1) 3 == 0⟩ : S144) (Kd.R_far (p := ⟨go, i.toNat * 6 + 5, none⟩) (H5_4.out) (fun k_ h_ => (HO.out k_ h_).2) (.bool (Int.tmod (r0.1) 3 == 0)))) (fun _ h_ => h_)
      · rw [if_neg hlt] at H
        simp only [Option.some.injEq, Prod.mk.injEq] at H
        obtain ⟨rfl, rfl⟩ := H
        have q1 : ¬ i < (n0 : Int) := by have := HX.out.2; omega
        have c1 : decide (i < (n0 : Int)) = false := decide_eq_false q1
        clear q1 hlt
        go_wp2
        go_ret
        exact ⟨rfl, HS.out, HB.out, HK.out⟩

/-! ### laws_heldIntS: function 81 -/
def laws_heldIntS.l0 : Nat → List Int → Int → Int → Option (Int)
  | 0, _, _, _ => none
  | k + 1, x0, x1, x5 => if x5 < (x0.length : Int) then (if 0 ≤ x5 then (if (rd x0 x5) = x1 then (laws_heldIntS.l0 k x0 (wrap64 (x1 + 1)) (wrap64 (x5 + 1))) else (some (-1))) else (none)) else (some x1)
def laws_heldIntS.f (k : Nat) (l0 : List Int) (a1 : Int) : Option (Int) := laws_heldIntS.l0 k l0 a1 0
set_option maxHeartbeats 8000000 in
set_option maxRecDepth 100000 in
theorem laws_heldIntS.calls (k : Nat) (A0 : Option Addr) (c0 : Nat) (l0 : List Int) (a1 : Int) (r : Int) (w : World) (hr0 : Kd.C (Kd.int .i64) w A0 l0.length l0) (hc0 : l0.length ≤ c0) (h : laws_heldIntS.f k l0 a1 = some r) :
    Calls Try.prog 81 #[.slice A0 l0.length c0, .int .i64 a1] w fun e w' => e = .returned (.int .i64 r) ∧ Drawn0 w w' := by
  have HR0 := Aside0.mk hr0
  have HC0 := Aside0.mk hc0
  clear hr0 hc0
  have H : (laws_heldIntS.l0 k l0 a1 0) = some r := h
  clear h
  have H' := Aside0.mk H
  clear H
  go_enter Try.func81, Try.ntmps81
  go_wp2
  go_loopg [1, 5] k (fun kq v1 v5 w' => ∃ (x1_1 : Int) (x5_1 : Int), v1 = .int .i64 x1_1 ∧ v5 = .int .i64 x5_1 ∧ Aside0 (laws_heldIntS.l0 kq l0 x1_1 x5_1 = some r) ∧ Aside0 (kq ≤ k) ∧ Drawn0 w w')
  case atStart => exact ⟨(a1), (0), (by first | rfl | (simp; done) | (simp [*]; done)), (by first | rfl | (simp; done) | (simp [*]; done)), H', ⟨Nat.le_refl _⟩, by repeat (first | exact Drawn0.refl _ | apply Drawn0.step)⟩
  case round =>
    clear H'
    try clear p2
    obtain ⟨x1_1, x5_1, rfl, rfl, HA, HK1, ⟨m1, rfl⟩⟩ := hrel
    cases gk with
    | zero => exact absurd HA.out (by simp [laws_heldIntS.l0])
    | succ k1 =>
      have H := HA.out
      clear HA
      simp only [laws_heldIntS.l0] at H
      by_cases c3 : x5_1 < (l0.length : Int)
      · rw [if_pos c3] at H
        have c3b0 : decide (x5_1 < (l0.length : Int)) = true := decide_eq_true c3
        clear c3
        by_cases c4 : 0 ≤ x5_1
        · rw [if_pos c4] at H
          have c4b0 : decide (0 ≤ x5_1) = true := decide_eq_true c4
          clear c4
          by_cases c5 : (rd l0 x5_1) = x1_1
          · rw [if_pos c5] at H
            have c5b0 : ((rd l0 x5_1) == x1_1) = true := beq_iff_eq.mpr c5
            have c5b1 : ((rd l0 x5_1) != x1_1) = false := bne_eq_false_iff_eq.mpr c5
            clear c5
            have H' := Aside0.mk H
            clear H
            have p306 : 0 ≤ (x5_1 : Int) := of_decide_eq_true (by first | (with_reducible assumption) | assumption)
            have q306 : x5_1 < (l0.length : Int) := of_decide_eq_true (by first | (with_reducible assumption) | assumption)
            obtain ⟨ad306, e306, hx306_0⟩ := Kd.at_int HR0.out x5_1 p306 q306
            cases e306
            replace p306 := eq_true p306
            replace q306 := eq_true q306
            go_wp2
            go_roundg k1
            case measure => have := HK1.out; omega
            case rel => exact ⟨(wrap64 (x1_1 + 1)), (wrap64 (x5_1 + 1)), (by first | rfl | (simp; done) | (simp [*]; done)), (by first | rfl | (simp; done) | (simp [*]; done)), H', ⟨by have := HK1.out; omega⟩, by repeat (first | exact Drawn0.refl _ | apply Drawn0.step)⟩
          · rw [if_neg c5] at H
            have c5b0 : ((rd l0 x5_1) == x1_1) = false := beq_eq_false_iff_ne.mpr c5
            have c5b1 : ((rd l0 x5_1) != x1_1) = true := bne_iff_ne.mpr c5
            obtain rfl := Option.some.inj H
            have p306 : 0 ≤ (x5_1 : Int) := of_decide_eq_true (by first | (with_reducible assumption) | assumption)
            have q306 : x5_1 < (l0.length : Int) := of_decide_eq_true (by first | (with_reducible assumption) | assumption)
            obtain ⟨ad306, e306, hx306_0⟩ := Kd.at_int HR0.out x5_1 p306 q306
            cases e306
            replace p306 := eq_true p306
            replace q306 := eq_true q306
            go_wp2
            go_ret
            exact ⟨by first | rfl | (simp; done) | (simp [*]; done), by repeat (first | exact Drawn0.refl _ | apply Drawn0.step)⟩
        · rw [if_neg c4] at H
          exact absurd H (by simp)
      · rw [if_neg c3] at H
        have c3b0 : decide (x5_1 < (l0.length : Int)) = false := decide_eq_false c3
        clear c3
        obtain rfl := Option.some.inj H
        go_wp2
        go_ret
        exact ⟨by first | rfl | (simp; done) | (simp [*]; done), by repeat (first | exact Drawn0.refl _ | apply Drawn0.step)⟩

/-! ### laws_heldEmergencyS: function 68 -/
def laws_heldEmergencyS.l0 : Nat → List (S144) → Int → Int → Option (Int)
  | 0, _, _, _ => none
  | k + 1, x0, x1, x5 => if x5 < (x0.length : Int) then (if 0 ≤ x5 then (if ((rd_T144 x0 x5).f0) = x1 then (if ((rd_T144 x0 x5).f1) = (wrap64 (x1 + 1)) then (if ((rd_T144 x0 x5).f2) = (wrap64 ((wrap64 (x1 + 1)) + 1)) then (if ((rd_T144 x0 x5).f3) = (wrap64 ((wrap64 ((wrap64 (x1 + 1)) + 1)) + 1)) then ((laws_heldIntS.f k ((rd_T144 x0 x5).f4) (wrap64 ((wrap64 ((wrap64 ((wrap64 (x1 + 1)) + 1)) + 1)) + 1))).bind fun t312 => (if t312 < 0 then (some (-1)) else (if (((rd_T144 x0 x5).f5) != ((Int.tmod t312 3) == 0)) = true then (some (-1)) else (laws_heldEmergencyS.l0 k x0 (wrap64 (t312 + 1)) (wrap64 (x5 + 1)))))) else (some (-1))) else (some (-1))) else (some (-1))) else (some (-1))) else (none)) else (some x1)
def laws_heldEmergencyS.f (k : Nat) (l0 : List (S144)) (a1 : Int) : Option (Int) := laws_heldEmergencyS.l0 k l0 a1 0
set_option maxHeartbeats 8000000 in
set_option maxRecDepth 100000 in
theorem laws_heldEmergencyS.calls (k : Nat) (A0 : Option Addr) (c0 : Nat) (l0 : List (S144)) (a1 : Int) (r : Int) (w : World) (hr0 : Kd.C k144 w A0 l0.length l0) (hc0 : l0.length ≤ c0) (h : laws_heldEmergencyS.f k l0 a1 = some r) :
    Calls Try.prog 68 #[.slice A0 l0.length c0, .int .i64 a1] w fun e w' => e = .returned (.int .i64 r) ∧ Drawn0 w w' := by
  have HR0 := Aside0.mk hr0
  have HC0 := Aside0.mk hc0
  clear hr0 hc0
  have H : (laws_heldEmergencyS.l0 k l0 a1 0) = some r := h
  clear h
  have H' := Aside0.mk H
  clear H
  go_enter Try.func68, Try.ntmps68
  go_wp2
  go_loopg [1, 5] k (fun kq v1 v5 w' => ∃ (x1_1 : Int) (x5_1 : Int), v1 = .int .i64 x1_1 ∧ v5 = .int .i64 x5_1 ∧ Aside0 (laws_heldEmergencyS.l0 kq l0 x1_1 x5_1 = some r) ∧ Aside0 (kq ≤ k) ∧ Drawn0 w w')
  case atStart => exact ⟨(a1), (0), (by first | rfl | (simp; done) | (simp [*]; done)), (by first | rfl | (simp; done) | (simp [*]; done)), H', ⟨Nat.le_refl _⟩, by repeat (first | exact Drawn0.refl _ | apply Drawn0.step)⟩
  case round =>
    clear H'
    try clear p2
    obtain ⟨x1_1, x5_1, rfl, rfl, HA, HK1, ⟨m1, rfl⟩⟩ := hrel
    cases gk with
    | zero => exact absurd HA.out (by simp [laws_heldEmergencyS.l0])
    | succ k1 =>
      have H := HA.out
      clear HA
      simp only [laws_heldEmergencyS.l0] at H
      by_cases c3 : x5_1 < (l0.length : Int)
      · rw [if_pos c3] at H
        have c3b0 : decide (x5_1 < (l0.length : Int)) = true := decide_eq_true c3
        clear c3
        by_cases c4 : 0 ≤ x5_1
        · rw [if_pos c4] at H
          have c4b0 : decide (0 ≤ x5_1) = true := decide_eq_true c4
          clear c4
          by_cases c5 : ((rd_T144 l0 x5_1).f0) = x1_1
          · rw [if_pos c5] at H
            have c5b0 : (((rd_T144 l0 x5_1).f0) == x1_1) = true := beq_iff_eq.mpr c5
            have c5b1 : (((rd_T144 l0 x5_1).f0) != x1_1) = false := bne_eq_false_iff_eq.mpr c5
            clear c5
            by_cases c6 : ((rd_T144 l0 x5_1).f1) = (wrap64 (x1_1 + 1))
            · rw [if_pos c6] at H
              have c6b0 : (((rd_T144 l0 x5_1).f1) == (wrap64 (x1_1 + 1))) = true := beq_iff_eq.mpr c6
              have c6b1 : (((rd_T144 l0 x5_1).f1) != (wrap64 (x1_1 + 1))) = false := bne_eq_false_iff_eq.mpr c6
              clear c6
              by_cases c7 : ((rd_T144 l0 x5_1).f2) = (wrap64 ((wrap64 (x1_1 + 1)) + 1))
              · rw [if_pos c7] at H
                have c7b0 : (((rd_T144 l0 x5_1).f2) == (wrap64 ((wrap64 (x1_1 + 1)) + 1))) = true := beq_iff_eq.mpr c7
                have c7b1 : (((rd_T144 l0 x5_1).f2) != (wrap64 ((wrap64 (x1_1 + 1)) + 1))) = false := bne_eq_false_iff_eq.mpr c7
                clear c7
                by_cases c8 : ((rd_T144 l0 x5_1).f3) = (wrap64 ((wrap64 ((wrap64 (x1_1 + 1)) + 1)) + 1))
                · rw [if_pos c8] at H
                  have c8b0 : (((rd_T144 l0 x5_1).f3) == (wrap64 ((wrap64 ((wrap64 (x1_1 + 1)) + 1)) + 1))) = true := beq_iff_eq.mpr c8
                  have c8b1 : (((rd_T144 l0 x5_1).f3) != (wrap64 ((wrap64 ((wrap64 (x1_1 + 1)) + 1)) + 1))) = false := bne_eq_false_iff_eq.mpr c8
                  clear c8
                  replace H := Option.bind_eq_some_iff.mp H
                  obtain ⟨t312, A90, H⟩ := H
                  replace H : (if t312 < 0 then (some (-1)) else (if (((rd_T144 l0 x5_1).f5) != ((Int.tmod t312 3) == 0)) = true then (some (-1)) else (laws_heldEmergencyS.l0 k1 l0 (wrap64 (t312 + 1)) (wrap64 (x5_1 + 1))))) = some r := H
                  have A9 := Aside0.mk A90
                  clear A90
                  by_cases c10 : t312 < 0
                  · rw [if_pos c10] at H
                    have c10b0 : decide (t312 < 0) = true := decide_eq_true c10
                    clear c10
                    obtain rfl := Option.some.inj H
                    have p307 : 0 ≤ (x5_1 : Int) := of_decide_eq_true (by first | (with_reducible assumption) | assumption)
                    have q307 : x5_1 < (l0.length : Int) := of_decide_eq_true (by first | (with_reducible assumption) | assumption)
                    obtain ⟨ad307, A307_4, c307_4, e307, hx307_0, hx307_1, hx307_2, hx307_3, hx307_4, hx307_5, hl307_4, hi307_4⟩ := at_T144 HR0.out x5_1 p307 q307
                    cases e307
                    have HR307_4 := Aside0.mk hi307_4
                    have HC307_4 := Aside0.mk hl307_4
                    clear hi307_4 hl307_4
                    replace p307 := eq_true p307
                    replace q307 := eq_true q307
                    have p308 : 0 ≤ (x5_1 : Int) := of_decide_eq_true (by first | (with_reducible assumption) | assumption)
                    have q308 : x5_1 < (l0.length : Int) := of_decide_eq_true (by first | (with_reducible assumption) | assumption)
                    obtain ⟨ad308, A308_4, c308_4, e308, hx308_0, hx308_1, hx308_2, hx308_3, hx308_4, hx308_5, hl308_4, hi308_4⟩ := at_T144 HR0.out x5_1 p308 q308
                    obtain rfl : ad307 = ad308 := (by injection e308)
                    have HR308_4 := Aside0.mk hi308_4
                    have HC308_4 := Aside0.mk hl308_4
                    clear hi308_4 hl308_4
                    replace p308 := eq_true p308
                    replace q308 := eq_true q308
                    have ea_ := Option.some.inj (hx307_4.symm.trans hx308_4)
                    injection ea_ with ea_ en_ ec_
                    subst ea_
                    subst ec_
                    clear en_
                    have p309 : 0 ≤ (x5_1 : Int) := of_decide_eq_true (by first | (with_reducible assumption) | assumption)
                    have q309 : x5_1 < (l0.length : Int) := of_decide_eq_true (by first | (with_reducible assumption) | assumption)
                    obtain ⟨ad309, A309_4, c309_4, e309, hx309_0, hx309_1, hx309_2, hx309_3, hx309_4, hx309_5, hl309_4, hi309_4⟩ := at_T144 HR0.out x5_1 p309 q309
                    obtain rfl : ad307 = ad309 := (by injection e309)
                    have HR309_4 := Aside0.mk hi309_4
                    have HC309_4 := Aside0.mk hl309_4
                    clear hi309_4 hl309_4
                    replace p309 := eq_true p309
                    replace q309 := eq_true q309
                    have ea_ := Option.some.inj (hx307_4.symm.trans hx309_4)
                    injection ea_ with ea_ en_ ec_
                    subst ea_
                    subst ec_
                    clear en_
                    have p310 : 0 ≤ (x5_1 : Int) := of_decide_eq_true (by first | (with_reducible assumption) | assumption)
                    have q310 : x5_1 < (l0.length : Int) := of_decide_eq_true (by first | (with_reducible assumption) | assumption)
                    obtain ⟨ad310, A310_4, c310_4, e310, hx310_0, hx310_1, hx310_2, hx310_3, hx310_4, hx310_5, hl310_4, hi310_4⟩ := at_T144 HR0.out x5_1 p310 q310
                    obtain rfl : ad307 = ad310 := (by injection e310)
                    have HR310_4 := Aside0.mk hi310_4
                    have HC310_4 := Aside0.mk hl310_4
                    clear hi310_4 hl310_4
                    replace p310 := eq_true p310
                    replace q310 := eq_true q310
                    have ea_ := Option.some.inj (hx307_4.symm.trans hx310_4)
                    injection ea_ with ea_ en_ ec_
                    subst ea_
                    subst ec_
                    clear en_
                    have p311 : 0 ≤ (x5_1 : Int) := of_decide_eq_true (by first | (with_reducible assumption) | assumption)
                    have q311 : x5_1 < (l0.length : Int) := of_decide_eq_true (by first | (with_reducible assumption) | assumption)
                    obtain ⟨ad311, A311_4, c311_4, e311, hx311_0, hx311_1, hx311_2, hx311_3, hx311_4, hx311_5, hl311_4, hi311_4⟩ := at_T144 HR0.out x5_1 p311 q311
                    obtain rfl : ad307 = ad311 := (by injection e311)
                    have HR311_4 := Aside0.mk hi311_4
                    have HC311_4 := Aside0.mk hl311_4
                    clear hi311_4 hl311_4
                    replace p311 := eq_true p311
                    replace q311 := eq_true q311
                    have ea_ := Option.some.inj (hx307_4.symm.trans hx311_4)
                    injection ea_ with ea_ en_ ec_
                    subst ea_
                    subst ec_
                    clear en_
                    go_wp2_with (first | ((with_reducible refine gate_callee (f := 81) rfl ?_); refine goesL_ (some 54) rfl rfl Try.func81 (by kernel_rfl) rfl #[.slice A307_4 ((rd_T144 l0 x5_1).f4).length c307_4, .int .i64 (wrap64 ((wrap64 ((wrap64 ((wrap64 (x1_1 + 1)) + 1)) + 1)) + 1))] rfl (by (try simp only [List.map_toArray, List.map_cons, List.map_nil]); first | done | rfl | (simp only [List.length_drop, List.length_take]; rfl)) ?_; (with_reducible refine (laws_heldIntS.calls k1 _ _ ((rd_T144 l0 x5_1).f4) (wrap64 ((wrap64 ((wrap64 ((wrap64 (x1_1 + 1)) + 1)) + 1)) + 1)) t312 _ ?side1 ?side2 A9.out).mono ?_); (case side1 => repeat (first | exact HR311_4.out | (with_reducible refine Kd.C_alloc ?_ _) | (with_reducible refine Kd.C_drewN ?_ _) | (with_reducible refine Kd.C_drew ?_))); (case side2 => exact HC311_4.out); rintro e w' ⟨rfl, ⟨nd, rfl⟩⟩; refine ⟨_, rfl, ?_⟩))
                    go_ret
                    exact ⟨by first | rfl | (simp; done) | (simp [*]; done), by repeat (first | exact Drawn0.refl _ | apply Drawn0.step)⟩
                  · rw [if_neg c10] at H
                    have c10b0 : decide (t312 < 0) = false := decide_eq_false c10
                    clear c10
                    by_cases c11 : (((rd_T144 l0 x5_1).f5) != ((Int.tmod t312 3) == 0)) = true
                    · rw [if_pos c11] at H
                      have c11b0 : (((rd_T144 l0 x5_1).f5) != ((Int.tmod t312 3) == 0)) = true := c11
                      (try (have c11b1 : decide (((rd_T144 l0 x5_1).f5) = ((Int.tmod t312 3) == 0)) = false := by simpa using c11))
                      (try (have c11b2 : (((rd_T144 l0 x5_1).f5) == ((Int.tmod t312 3) == 0)) = false := by simpa using c11))
                      (try (have c11b3 : ¬ (((rd_T144 l0 x5_1).f5) = ((Int.tmod t312 3) == 0)) := by simpa using c11))
                      clear c11
                      obtain rfl := Option.some.inj H
                      have p307 : 0 ≤ (x5_1 : Int) := of_decide_eq_true (by first | (with_reducible assumption) | assumption)
                      have q307 : x5_1 < (l0.length : Int) := of_decide_eq_true (by first | (with_reducible assumption) | assumption)
                      obtain ⟨ad307, A307_4, c307_4, e307, hx307_0, hx307_1, hx307_2, hx307_3, hx307_4, hx307_5, hl307_4, hi307_4⟩ := at_T144 HR0.out x5_1 p307 q307
                      cases e307
                      have HR307_4 := Aside0.mk hi307_4
                      have HC307_4 := Aside0.mk hl307_4
                      clear hi307_4 hl307_4
                      replace p307 := eq_true p307
                      replace q307 := eq_true q307
                      have p308 : 0 ≤ (x5_1 : Int) := of_decide_eq_true (by first | (with_reducible assumption) | assumption)
                      have q308 : x5_1 < (l0.length : Int) := of_decide_eq_true (by first | (with_reducible assumption) | assumption)
                      obtain ⟨ad308, A308_4, c308_4, e308, hx308_0, hx308_1, hx308_2, hx308_3, hx308_4, hx308_5, hl308_4, hi308_4⟩ := at_T144 HR0.out x5_1 p308 q308
                      obtain rfl : ad307 = ad308 := (by injection e308)
                      have HR308_4 := Aside0.mk hi308_4
                      have HC308_4 := Aside0.mk hl308_4
                      clear hi308_4 hl308_4
                      replace p308 := eq_true p308
                      replace q308 := eq_true q308
                      have ea_ := Option.some.inj (hx307_4.symm.trans hx308_4)
                      injection ea_ with ea_ en_ ec_
                      subst ea_
                      subst ec_
                      clear en_
                      have p309 : 0 ≤ (x5_1 : Int) := of_decide_eq_true (by first | (with_reducible assumption) | assumption)
                      have q309 : x5_1 < (l0.length : Int) := of_decide_eq_true (by first | (with_reducible assumption) | assumption)
                      obtain ⟨ad309, A309_4, c309_4, e309, hx309_0, hx309_1, hx309_2, hx309_3, hx309_4, hx309_5, hl309_4, hi309_4⟩ := at_T144 HR0.out x5_1 p309 q309
                      obtain rfl : ad307 = ad309 := (by injection e309)
                      have HR309_4 := Aside0.mk hi309_4
                      have HC309_4 := Aside0.mk hl309_4
                      clear hi309_4 hl309_4
                      replace p309 := eq_true p309
                      replace q309 := eq_true q309
                      have ea_ := Option.some.inj (hx307_4.symm.trans hx309_4)
                      injection ea_ with ea_ en_ ec_
                      subst ea_
                      subst ec_
                      clear en_
                      have p310 : 0 ≤ (x5_1 : Int) := of_decide_eq_true (by first | (with_reducible assumption) | assumption)
                      have q310 : x5_1 < (l0.length : Int) := of_decide_eq_true (by first | (with_reducible assumption) | assumption)
                      obtain ⟨ad310, A310_4, c310_4, e310, hx310_0, hx310_1, hx310_2, hx310_3, hx310_4, hx310_5, hl310_4, hi310_4⟩ := at_T144 HR0.out x5_1 p310 q310
                      obtain rfl : ad307 = ad310 := (by injection e310)
                      have HR310_4 := Aside0.mk hi310_4
                      have HC310_4 := Aside0.mk hl310_4
                      clear hi310_4 hl310_4
                      replace p310 := eq_true p310
                      replace q310 := eq_true q310
                      have ea_ := Option.some.inj (hx307_4.symm.trans hx310_4)
                      injection ea_ with ea_ en_ ec_
                      subst ea_
                      subst ec_
                      clear en_
                      have p311 : 0 ≤ (x5_1 : Int) := of_decide_eq_true (by first | (with_reducible assumption) | assumption)
                      have q311 : x5_1 < (l0.length : Int) := of_decide_eq_true (by first | (with_reducible assumption) | assumption)
                      obtain ⟨ad311, A311_4, c311_4, e311, hx311_0, hx311_1, hx311_2, hx311_3, hx311_4, hx311_5, hl311_4, hi311_4⟩ := at_T144 HR0.out x5_1 p311 q311
                      obtain rfl : ad307 = ad311 := (by injection e311)
                      have HR311_4 := Aside0.mk hi311_4
                      have HC311_4 := Aside0.mk hl311_4
                      clear hi311_4 hl311_4
                      replace p311 := eq_true p311
                      replace q311 := eq_true q311
                      have ea_ := Option.some.inj (hx307_4.symm.trans hx311_4)
                      injection ea_ with ea_ en_ ec_
                      subst ea_
                      subst ec_
                      clear en_
                      go_wp2_with (first | ((with_reducible refine gate_callee (f := 81) rfl ?_); refine goesL_ (some 54) rfl rfl Try.func81 (by kernel_rfl) rfl #[.slice A307_4 ((rd_T144 l0 x5_1).f4).length c307_4, .int .i64 (wrap64 ((wrap64 ((wrap64 ((wrap64 (x1_1 + 1)) + 1)) + 1)) + 1))] rfl (by (try simp only [List.map_toArray, List.map_cons, List.map_nil]); first | done | rfl | (simp only [List.length_drop, List.length_take]; rfl)) ?_; (with_reducible refine (laws_heldIntS.calls k1 _ _ ((rd_T144 l0 x5_1).f4) (wrap64 ((wrap64 ((wrap64 ((wrap64 (x1_1 + 1)) + 1)) + 1)) + 1)) t312 _ ?side1 ?side2 A9.out).mono ?_); (case side1 => repeat (first | exact HR311_4.out | (with_reducible refine Kd.C_alloc ?_ _) | (with_reducible refine Kd.C_drewN ?_ _) | (with_reducible refine Kd.C_drew ?_))); (case side2 => exact HC311_4.out); rintro e w' ⟨rfl, ⟨nd, rfl⟩⟩; refine ⟨_, rfl, ?_⟩; have p313 : 0 ≤ (x5_1 : Int) := of_decide_eq_true (by first | (with_reducible assumption) | assumption); have q313 : x5_1 < (l0.length : Int) := of_decide_eq_true (by first | (with_reducible assumption) | assumption); obtain ⟨ad313, A313_4, c313_4, e313, hx313_0, hx313_1, hx313_2, hx313_3, hx313_4, hx313_5, hl313_4, hi313_4⟩ := at_T144 HR0.out x5_1 p313 q313; obtain rfl : ad307 = ad313 := (by injection e313); have HR313_4 := Aside0.mk hi313_4; have HC313_4 := Aside0.mk hl313_4; clear hi313_4 hl313_4; replace p313 := eq_true p313; replace q313 := eq_true q313; have ea_ := Option.some.inj (hx307_4.symm.trans hx313_4); injection ea_ with ea_ en_ ec_; subst ea_; subst ec_; clear en_))
                      go_ret
                      exact ⟨by first | rfl | (simp; done) | (simp [*]; done), by repeat (first | exact Drawn0.refl _ | apply Drawn0.step)⟩
                    · rw [if_neg c11] at H
                      have c11b0 : (((rd_T144 l0 x5_1).f5) != ((Int.tmod t312 3) == 0)) = false := by simpa using c11
                      (try (have c11b1 : decide (((rd_T144 l0 x5_1).f5) = ((Int.tmod t312 3) == 0)) = true := by simpa using c11))
                      (try (have c11b2 : (((rd_T144 l0 x5_1).f5) == ((Int.tmod t312 3) == 0)) = true := by simpa using c11))
                      clear c11
                      have H' := Aside0.mk H
                      clear H
                      have p307 : 0 ≤ (x5_1 : Int) := of_decide_eq_true (by first | (with_reducible assumption) | assumption)
                      have q307 : x5_1 < (l0.length : Int) := of_decide_eq_true (by first | (with_reducible assumption) | assumption)
                      obtain ⟨ad307, A307_4, c307_4, e307, hx307_0, hx307_1, hx307_2, hx307_3, hx307_4, hx307_5, hl307_4, hi307_4⟩ := at_T144 HR0.out x5_1 p307 q307
                      cases e307
                      have HR307_4 := Aside0.mk hi307_4
                      have HC307_4 := Aside0.mk hl307_4
                      clear hi307_4 hl307_4
                      replace p307 := eq_true p307
                      replace q307 := eq_true q307
                      have p308 : 0 ≤ (x5_1 : Int) := of_decide_eq_true (by first | (with_reducible assumption) | assumption)
                      have q308 : x5_1 < (l0.length : Int) := of_decide_eq_true (by first | (with_reducible assumption) | assumption)
                      obtain ⟨ad308, A308_4, c308_4, e308, hx308_0, hx308_1, hx308_2, hx308_3, hx308_4, hx308_5, hl308_4, hi308_4⟩ := at_T144 HR0.out x5_1 p308 q308
                      obtain rfl : ad307 = ad308 := (by injection e308)
                      have HR308_4 := Aside0.mk hi308_4
                      have HC308_4 := Aside0.mk hl308_4
                      clear hi308_4 hl308_4
                      replace p308 := eq_true p308
                      replace q308 := eq_true q308
                      have ea_ := Option.some.inj (hx307_4.symm.trans hx308_4)
                      injection ea_ with ea_ en_ ec_
                      subst ea_
                      subst ec_
                      clear en_
                      have p309 : 0 ≤ (x5_1 : Int) := of_decide_eq_true (by first | (with_reducible assumption) | assumption)
                      have q309 : x5_1 < (l0.length : Int) := of_decide_eq_true (by first | (with_reducible assumption) | assumption)
                      obtain ⟨ad309, A309_4, c309_4, e309, hx309_0, hx309_1, hx309_2, hx309_3, hx309_4, hx309_5, hl309_4, hi309_4⟩ := at_T144 HR0.out x5_1 p309 q309
                      obtain rfl : ad307 = ad309 := (by injection e309)
                      have HR309_4 := Aside0.mk hi309_4
                      have HC309_4 := Aside0.mk hl309_4
                      clear hi309_4 hl309_4
                      replace p309 := eq_true p309
                      replace q309 := eq_true q309
                      have ea_ := Option.some.inj (hx307_4.symm.trans hx309_4)
                      injection ea_ with ea_ en_ ec_
                      subst ea_
                      subst ec_
                      clear en_
                      have p310 : 0 ≤ (x5_1 : Int) := of_decide_eq_true (by first | (with_reducible assumption) | assumption)
                      have q310 : x5_1 < (l0.length : Int) := of_decide_eq_true (by first | (with_reducible assumption) | assumption)
                      obtain ⟨ad310, A310_4, c310_4, e310, hx310_0, hx310_1, hx310_2, hx310_3, hx310_4, hx310_5, hl310_4, hi310_4⟩ := at_T144 HR0.out x5_1 p310 q310
                      obtain rfl : ad307 = ad310 := (by injection e310)
                      have HR310_4 := Aside0.mk hi310_4
                      have HC310_4 := Aside0.mk hl310_4
                      clear hi310_4 hl310_4
                      replace p310 := eq_true p310
                      replace q310 := eq_true q310
                      have ea_ := Option.some.inj (hx307_4.symm.trans hx310_4)
                      injection ea_ with ea_ en_ ec_
                      subst ea_
                      subst ec_
                      clear en_
                      have p311 : 0 ≤ (x5_1 : Int) := of_decide_eq_true (by first | (with_reducible assumption) | assumption)
                      have q311 : x5_1 < (l0.length : Int) := of_decide_eq_true (by first | (with_reducible assumption) | assumption)
                      obtain ⟨ad311, A311_4, c311_4, e311, hx311_0, hx311_1, hx311_2, hx311_3, hx311_4, hx311_5, hl311_4, hi311_4⟩ := at_T144 HR0.out x5_1 p311 q311
                      obtain rfl : ad307 = ad311 := (by injection e311)
                      have HR311_4 := Aside0.mk hi311_4
                      have HC311_4 := Aside0.mk hl311_4
                      clear hi311_4 hl311_4
                      replace p311 := eq_true p311
                      replace q311 := eq_true q311
                      have ea_ := Option.some.inj (hx307_4.symm.trans hx311_4)
                      injection ea_ with ea_ en_ ec_
                      subst ea_
                      subst ec_
                      clear en_
                      go_wp2_with (first | ((with_reducible refine gate_callee (f := 81) rfl ?_); refine goesL_ (some 54) rfl rfl Try.func81 (by kernel_rfl) rfl #[.slice A307_4 ((rd_T144 l0 x5_1).f4).length c307_4, .int .i64 (wrap64 ((wrap64 ((wrap64 ((wrap64 (x1_1 + 1)) + 1)) + 1)) + 1))] rfl (by (try simp only [List.map_toArray, List.map_cons, List.map_nil]); first | done | rfl | (simp only [List.length_drop, List.length_take]; rfl)) ?_; (with_reducible refine (laws_heldIntS.calls k1 _ _ ((rd_T144 l0 x5_1).f4) (wrap64 ((wrap64 ((wrap64 ((wrap64 (x1_1 + 1)) + 1)) + 1)) + 1)) t312 _ ?side1 ?side2 A9.out).mono ?_); (case side1 => repeat (first | exact HR311_4.out | (with_reducible refine Kd.C_alloc ?_ _) | (with_reducible refine Kd.C_drewN ?_ _) | (with_reducible refine Kd.C_drew ?_))); (case side2 => exact HC311_4.out); rintro e w' ⟨rfl, ⟨nd, rfl⟩⟩; refine ⟨_, rfl, ?_⟩; have p313 : 0 ≤ (x5_1 : Int) := of_decide_eq_true (by first | (with_reducible assumption) | assumption); have q313 : x5_1 < (l0.length : Int) := of_decide_eq_true (by first | (with_reducible assumption) | assumption); obtain ⟨ad313, A313_4, c313_4, e313, hx313_0, hx313_1, hx313_2, hx313_3, hx313_4, hx313_5, hl313_4, hi313_4⟩ := at_T144 HR0.out x5_1 p313 q313; obtain rfl : ad307 = ad313 := (by injection e313); have HR313_4 := Aside0.mk hi313_4; have HC313_4 := Aside0.mk hl313_4; clear hi313_4 hl313_4; replace p313 := eq_true p313; replace q313 := eq_true q313; have ea_ := Option.some.inj (hx307_4.symm.trans hx313_4); injection ea_ with ea_ en_ ec_; subst ea_; subst ec_; clear en_))
                      go_roundg k1
                      case measure => have := HK1.out; omega
                      case rel => exact ⟨(wrap64 (t312 + 1)), (wrap64 (x5_1 + 1)), (by first | rfl | (simp; done) | (simp [*]; done)), (by first | rfl | (simp; done) | (simp [*]; done)), H', ⟨by have := HK1.out; omega⟩, by repeat (first | exact Drawn0.refl _ | apply Drawn0.step)⟩
                · rw [if_neg c8] at H
                  have c8b0 : (((rd_T144 l0 x5_1).f3) == (wrap64 ((wrap64 ((wrap64 (x1_1 + 1)) + 1)) + 1))) = false := beq_eq_false_iff_ne.mpr c8
                  have c8b1 : (((rd_T144 l0 x5_1).f3) != (wrap64 ((wrap64 ((wrap64 (x1_1 + 1)) + 1)) + 1))) = true := bne_iff_ne.mpr c8
                  obtain rfl := Option.some.inj H
                  have p307 : 0 ≤ (x5_1 : Int) := of_decide_eq_true (by first | (with_reducible assumption) | assumption)
                  have q307 : x5_1 < (l0.length : Int) := of_decide_eq_true (by first | (with_reducible assumption) | assumption)
                  obtain ⟨ad307, A307_4, c307_4, e307, hx307_0, hx307_1, hx307_2, hx307_3, hx307_4, hx307_5, hl307_4, hi307_4⟩ := at_T144 HR0.out x5_1 p307 q307
                  cases e307
                  have HR307_4 := Aside0.mk hi307_4
                  have HC307_4 := Aside0.mk hl307_4
                  clear hi307_4 hl307_4
                  replace p307 := eq_true p307
                  replace q307 := eq_true q307
                  have p308 : 0 ≤ (x5_1 : Int) := of_decide_eq_true (by first | (with_reducible assumption) | assumption)
                  have q308 : x5_1 < (l0.length : Int) := of_decide_eq_true (by first | (with_reducible assumption) | assumption)
                  obtain ⟨ad308, A308_4, c308_4, e308, hx308_0, hx308_1, hx308_2, hx308_3, hx308_4, hx308_5, hl308_4, hi308_4⟩ := at_T144 HR0.out x5_1 p308 q308
                  obtain rfl : ad307 = ad308 := (by injection e308)
                  have HR308_4 := Aside0.mk hi308_4
                  have HC308_4 := Aside0.mk hl308_4
                  clear hi308_4 hl308_4
                  replace p308 := eq_true p308
                  replace q308 := eq_true q308
                  have ea_ := Option.some.inj (hx307_4.symm.trans hx308_4)
                  injection ea_ with ea_ en_ ec_
                  subst ea_
                  subst ec_
                  clear en_
                  have p309 : 0 ≤ (x5_1 : Int) := of_decide_eq_true (by first | (with_reducible assumption) | assumption)
                  have q309 : x5_1 < (l0.length : Int) := of_decide_eq_true (by first | (with_reducible assumption) | assumption)
                  obtain ⟨ad309, A309_4, c309_4, e309, hx309_0, hx309_1, hx309_2, hx309_3, hx309_4, hx309_5, hl309_4, hi309_4⟩ := at_T144 HR0.out x5_1 p309 q309
                  obtain rfl : ad307 = ad309 := (by injection e309)
                  have HR309_4 := Aside0.mk hi309_4
                  have HC309_4 := Aside0.mk hl309_4
                  clear hi309_4 hl309_4
                  replace p309 := eq_true p309
                  replace q309 := eq_true q309
                  have ea_ := Option.some.inj (hx307_4.symm.trans hx309_4)
                  injection ea_ with ea_ en_ ec_
                  subst ea_
                  subst ec_
                  clear en_
                  have p310 : 0 ≤ (x5_1 : Int) := of_decide_eq_true (by first | (with_reducible assumption) | assumption)
                  have q310 : x5_1 < (l0.length : Int) := of_decide_eq_true (by first | (with_reducible assumption) | assumption)
                  obtain ⟨ad310, A310_4, c310_4, e310, hx310_0, hx310_1, hx310_2, hx310_3, hx310_4, hx310_5, hl310_4, hi310_4⟩ := at_T144 HR0.out x5_1 p310 q310
                  obtain rfl : ad307 = ad310 := (by injection e310)
                  have HR310_4 := Aside0.mk hi310_4
                  have HC310_4 := Aside0.mk hl310_4
                  clear hi310_4 hl310_4
                  replace p310 := eq_true p310
                  replace q310 := eq_true q310
                  have ea_ := Option.some.inj (hx307_4.symm.trans hx310_4)
                  injection ea_ with ea_ en_ ec_
                  subst ea_
                  subst ec_
                  clear en_
                  go_wp2
                  go_ret
                  exact ⟨by first | rfl | (simp; done) | (simp [*]; done), by repeat (first | exact Drawn0.refl _ | apply Drawn0.step)⟩
              · rw [if_neg c7] at H
                have c7b0 : (((rd_T144 l0 x5_1).f2) == (wrap64 ((wrap64 (x1_1 + 1)) + 1))) = false := beq_eq_false_iff_ne.mpr c7
                have c7b1 : (((rd_T144 l0 x5_1).f2) != (wrap64 ((wrap64 (x1_1 + 1)) + 1))) = true := bne_iff_ne.mpr c7
                obtain rfl := Option.some.inj H
                have p307 : 0 ≤ (x5_1 : Int) := of_decide_eq_true (by first | (with_reducible assumption) | assumption)
                have q307 : x5_1 < (l0.length : Int) := of_decide_eq_true (by first | (with_reducible assumption) | assumption)
                obtain ⟨ad307, A307_4, c307_4, e307, hx307_0, hx307_1, hx307_2, hx307_3, hx307_4, hx307_5, hl307_4, hi307_4⟩ := at_T144 HR0.out x5_1 p307 q307
                cases e307
                have HR307_4 := Aside0.mk hi307_4
                have HC307_4 := Aside0.mk hl307_4
                clear hi307_4 hl307_4
                replace p307 := eq_true p307
                replace q307 := eq_true q307
                have p308 : 0 ≤ (x5_1 : Int) := of_decide_eq_true (by first | (with_reducible assumption) | assumption)
                have q308 : x5_1 < (l0.length : Int) := of_decide_eq_true (by first | (with_reducible assumption) | assumption)
                obtain ⟨ad308, A308_4, c308_4, e308, hx308_0, hx308_1, hx308_2, hx308_3, hx308_4, hx308_5, hl308_4, hi308_4⟩ := at_T144 HR0.out x5_1 p308 q308
                obtain rfl : ad307 = ad308 := (by injection e308)
                have HR308_4 := Aside0.mk hi308_4
                have HC308_4 := Aside0.mk hl308_4
                clear hi308_4 hl308_4
                replace p308 := eq_true p308
                replace q308 := eq_true q308
                have ea_ := Option.some.inj (hx307_4.symm.trans hx308_4)
                injection ea_ with ea_ en_ ec_
                subst ea_
                subst ec_
                clear en_
                have p309 : 0 ≤ (x5_1 : Int) := of_decide_eq_true (by first | (with_reducible assumption) | assumption)
                have q309 : x5_1 < (l0.length : Int) := of_decide_eq_true (by first | (with_reducible assumption) | assumption)
                obtain ⟨ad309, A309_4, c309_4, e309, hx309_0, hx309_1, hx309_2, hx309_3, hx309_4, hx309_5, hl309_4, hi309_4⟩ := at_T144 HR0.out x5_1 p309 q309
                obtain rfl : ad307 = ad309 := (by injection e309)
                have HR309_4 := Aside0.mk hi309_4
                have HC309_4 := Aside0.mk hl309_4
                clear hi309_4 hl309_4
                replace p309 := eq_true p309
                replace q309 := eq_true q309
                have ea_ := Option.some.inj (hx307_4.symm.trans hx309_4)
                injection ea_ with ea_ en_ ec_
                subst ea_
                subst ec_
                clear en_
                go_wp2
                go_ret
                exact ⟨by first | rfl | (simp; done) | (simp [*]; done), by repeat (first | exact Drawn0.refl _ | apply Drawn0.step)⟩
            · rw [if_neg c6] at H
              have c6b0 : (((rd_T144 l0 x5_1).f1) == (wrap64 (x1_1 + 1))) = false := beq_eq_false_iff_ne.mpr c6
              have c6b1 : (((rd_T144 l0 x5_1).f1) != (wrap64 (x1_1 + 1))) = true := bne_iff_ne.mpr c6
              obtain rfl := Option.some.inj H
              have p307 : 0 ≤ (x5_1 : Int) := of_decide_eq_true (by first | (with_reducible assumption) | assumption)
              have q307 : x5_1 < (l0.length : Int) := of_decide_eq_true (by first | (with_reducible assumption) | assumption)
              obtain ⟨ad307, A307_4, c307_4, e307, hx307_0, hx307_1, hx307_2, hx307_3, hx307_4, hx307_5, hl307_4, hi307_4⟩ := at_T144 HR0.out x5_1 p307 q307
              cases e307
              have HR307_4 := Aside0.mk hi307_4
              have HC307_4 := Aside0.mk hl307_4
              clear hi307_4 hl307_4
              replace p307 := eq_true p307
              replace q307 := eq_true q307
              have p308 : 0 ≤ (x5_1 : Int) := of_decide_eq_true (by first | (with_reducible assumption) | assumption)
              have q308 : x5_1 < (l0.length : Int) := of_decide_eq_true (by first | (with_reducible assumption) | assumption)
              obtain ⟨ad308, A308_4, c308_4, e308, hx308_0, hx308_1, hx308_2, hx308_3, hx308_4, hx308_5, hl308_4, hi308_4⟩ := at_T144 HR0.out x5_1 p308 q308
              obtain rfl : ad307 = ad308 := (by injection e308)
              have HR308_4 := Aside0.mk hi308_4
              have HC308_4 := Aside0.mk hl308_4
              clear hi308_4 hl308_4
              replace p308 := eq_true p308
              replace q308 := eq_true q308
              have ea_ := Option.some.inj (hx307_4.symm.trans hx308_4)
              injection ea_ with ea_ en_ ec_
              subst ea_
              subst ec_
              clear en_
              go_wp2
              go_ret
              exact ⟨by first | rfl | (simp; done) | (simp [*]; done), by repeat (first | exact Drawn0.refl _ | apply Drawn0.step)⟩
          · rw [if_neg c5] at H
            have c5b0 : (((rd_T144 l0 x5_1).f0) == x1_1) = false := beq_eq_false_iff_ne.mpr c5
            have c5b1 : (((rd_T144 l0 x5_1).f0) != x1_1) = true := bne_iff_ne.mpr c5
            obtain rfl := Option.some.inj H
            have p307 : 0 ≤ (x5_1 : Int) := of_decide_eq_true (by first | (with_reducible assumption) | assumption)
            have q307 : x5_1 < (l0.length : Int) := of_decide_eq_true (by first | (with_reducible assumption) | assumption)
            obtain ⟨ad307, A307_4, c307_4, e307, hx307_0, hx307_1, hx307_2, hx307_3, hx307_4, hx307_5, hl307_4, hi307_4⟩ := at_T144 HR0.out x5_1 p307 q307
            cases e307
            have HR307_4 := Aside0.mk hi307_4
            have HC307_4 := Aside0.mk hl307_4
            clear hi307_4 hl307_4
            replace p307 := eq_true p307
            replace q307 := eq_true q307
            go_wp2
            go_ret
            exact ⟨by first | rfl | (simp; done) | (simp [*]; done), by repeat (first | exact Drawn0.refl _ | apply Drawn0.step)⟩
        · rw [if_neg c4] at H
          exact absurd H (by simp)
      · rw [if_neg c3] at H
        have c3b0 : decide (x5_1 < (l0.length : Int)) = false := decide_eq_false c3
        clear c3
        obtain rfl := Option.some.inj H
        go_wp2
        go_ret
        exact ⟨by first | rfl | (simp; done) | (simp [*]; done), by repeat (first | exact Drawn0.refl _ | apply Drawn0.step)⟩

end Go.Proofs.Ytplfbjbbnjlnkaa.QFnExactDeclareEmergency
