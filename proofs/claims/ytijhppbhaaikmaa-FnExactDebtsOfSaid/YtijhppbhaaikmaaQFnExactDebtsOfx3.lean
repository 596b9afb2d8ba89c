/- The machine side of FnExactDebtsOf: what each function that it reaches computes, and that the machine's call gives just that. -/
import Derived.Test.YtijhppbhaaikmaaQFnExactDebtsOfx0
import Derived.Test.YtijhppbhaaikmaaQFnExactDebtsOfx1
namespace Go.Proofs.Ytijhppbhaaikmaa.QFnExactDebtsOf
open Go.RowKit Go.Proofs.YtijhppbhaaikmaaW.PrintWords Go.Proofs.YtijhppbhaaikmaaW.PrintLast Go.Proofs.YtijhppbhaaikmaaW.PrintMore
attribute [local go_sem] max2_int min2_int max_two min_two max_three min_three max_four min_four   -- for this text's walks alone
set_option linter.unusedVariables false
set_option linter.unusedSimpArgs false

/-! ### laws_markEmergencyS: function 64 -/
def laws_markEmergencyS.l0 : Nat → List S122 → Int → Int → Option (Int × List S122)
  | 0, _, _, _ => none
  | k + 1, l, n, i => if i < (l.length : Int) then (laws_markIntS.f k (rd_T122 l i).f4 (wrap64 (wrap64 (wrap64 (wrap64 (n + 1) + 1) + 1) + 1))).bind fun r0 => laws_markEmergencyS.l0 k (l.set i.toNat (⟨n, wrap64 (n + 1), wrap64 (wrap64 (n + 1) + 1), wrap64 (wrap64 (wrap64 (n + 1) + 1) + 1), r0.2, Int.tmod (r0.1) 3 == 0⟩ : S122)) (wrap64 (r0.1 + 1)) (wrap64 (i + 1)) else some (n, l)
def laws_markEmergencyS.f (k : Nat) (l0 : List S122) (a1 : Int) : Option (Int × List S122) := laws_markEmergencyS.l0 k l0 a1 0
theorem laws_markEmergencyS.mono_l : ∀ k, (∀ y0 y1 y2, LeO (laws_markEmergencyS.l0 k y0 y1 y2) (laws_markEmergencyS.l0 (k + 1) y0 y1 y2))
  | 0 => fun _ _ _ r h => by simp [laws_markEmergencyS.l0] at h
  | k + 1 => by
    have ih0 := laws_markEmergencyS.mono_l k
    · intro y0 y1 y2
      unfold laws_markEmergencyS.l0
      repeat' first
      | (with_reducible exact ih0 _ _ _)
      | (with_reducible exact laws_markIntS.mono _ _ _)
      | (with_reducible exact LeO.refl _)
      | (with_reducible exact LeO.none _)
      | (with_reducible refine LeO.ite ?_ ?_)
      | (with_reducible refine LeO.bind ?_ (fun _ => ?_))
      | exact ih0 _ _ _
      | exact laws_markIntS.mono _ _ _
      | exact LeO.none _
      | refine LeO.ite ?_ ?_
      | refine LeO.bind ?_ (fun _ => ?_)
theorem laws_markEmergencyS.mono : ∀ a0 a1 k, LeO (laws_markEmergencyS.f k a0 a1) (laws_markEmergencyS.f (k + 1) a0 a1) := by
  intro a0 a1 k
  have ih0 := laws_markEmergencyS.mono_l k
  unfold laws_markEmergencyS.f
  repeat' first
      | (with_reducible exact ih0 _ _ _)
      | (with_reducible exact laws_markIntS.mono _ _ _)
      | (with_reducible exact LeO.refl _)
      | (with_reducible exact LeO.none _)
      | (with_reducible refine LeO.ite ?_ ?_)
      | (with_reducible refine LeO.bind ?_ (fun _ => ?_))
      | exact ih0 _ _ _
      | exact laws_markIntS.mono _ _ _
      | exact LeO.none _
      | refine LeO.ite ?_ ?_
      | refine LeO.bind ?_ (fun _ => ?_)
set_option maxHeartbeats 8000000 in
set_option maxRecDepth 100000 in
open Go.Proofs.YtijhppbhaaikmaaM in
theorem laws_markEmergencyS.calls (k : Nat) (P0_ : Nat → Prop) (A0 : Option Addr) (n0 c0 : Nat) (l0 : List S122) (a1 : Int) (r1 : Int) (r2 : List S122) (w0 w : World) (hB : Below w0.heap.size w0 w) (ho0 : Kd.S k122 122 w w0.heap.size P0_ (.slice A0 n0 c0) l0) (h : laws_markEmergencyS.f k l0 a1 = some (r1, r2)) :
    Calls Try.prog 64 #[.slice A0 n0 c0, .int .i64 a1] w fun e w' => e = .returned (.int .i64 r1) ∧ Kd.S k122 122 w' w0.heap.size P0_ (.slice A0 n0 c0) r2 ∧ Below w0.heap.size w0 w' ∧ Kept w w' P0_ := by
  have HS := Aside0.mk ho0
  have hN : Aside0 (n0 = l0.length) := ⟨(Kd.S_reads' ho0).1⟩
  have HLEN : Aside0 (n0 ≤ 9223372036854775807) := ⟨by have h_ := (Kd.S_reads' ho0).2.2.2.1; have := hN.out; omega⟩
  have HB := Aside0.mk hB
  have H' := Aside0.mk (show laws_markEmergencyS.l0 k l0 a1 0 = some (r1, r2) from h)
  have HK := Aside0.mk (Kept.refl w P0_)
  clear h hB ho0
  have hu122 := Try.underlying122
  go_enter Try.func64, Try.ntmps64
  go_wp2
  go_loopg [1, 5] k (fun kq v1 v5 w' => ∃ (l : List S122) (n i : Int), v1 = .int .i64 n ∧ v5 = .int .i64 i ∧ Aside0 (laws_markEmergencyS.l0 kq l n i = some (r1, r2)) ∧ Aside0 (0 ≤ i ∧ n0 = l.length) ∧ Aside0 (Kd.S k122 122 w' w0.heap.size P0_ (.slice A0 n0 c0) l) ∧ Aside0 (Below w0.heap.size w0 w') ∧ Aside0 (Kept w w' P0_))
  case atStart => exact ⟨l0, a1, 0, rfl, rfl, H', ⟨by omega, hN.out⟩, HS, HB, HK⟩
  case round =>
    clear H' HS HB HK hN
    obtain ⟨l, n, i, rfl, rfl, HA, HX, HS, HB, HK⟩ := hrel
    cases gk with
    | zero => exact absurd HA.out (by simp [laws_markEmergencyS.l0])
    | succ k1 =>
      have H := HA.out
      clear HA
      simp only [laws_markEmergencyS.l0] at H
      by_cases hlt : i < (l.length : Int)
      · rw [if_pos hlt] at H
        obtain ⟨r0, hm0, H⟩ := Option.bind_eq_some_iff.mp H
        have HM0 := Aside0.mk hm0
        have p1 : 0 ≤ i := HX.out.1
        have q1 : i < (n0 : Int) := by have := HX.out.2; omega
        have c1 : decide (i < (n0 : Int)) = true := decide_eq_true q1
        obtain ⟨go, co, eo, gb, gl, cl, HG⟩ := Kd.S_form HS.out (by have := HX.out.2; omega)
        cases eo
        obtain ⟨oki, ce, hcl, hM, hcc, hfr, hoki, hH⟩ := Kd.S_elem HS.out z122 i p1 q1
        obtain ⟨v4, rfl, g4⟩ := k122_openM hM
        obtain ⟨A4, c4, rfl⟩ := Kd.R_slice g4
        have HH := Aside0.mk hH
        have HO := Aside0.mk hoki
        have H' := Aside0.mk H
        have GB := Aside0.mk gb
        have HGO : Aside0 (P0_ go ∨ w.heap.size ≤ go) := ⟨.inl ((Kd.S_R HS.out).1 go rfl)⟩
        have HP := Aside0.mk p1
        have HQ := Aside0.mk q1
        have hx0 : wr.cell? ⟨go, i.toNat * 6, none⟩ = some (.int .i64 ((rd_T122 l i).f0)) := hcc 0 _ rfl
        have hf0 : wr.frozen? ⟨go, i.toNat * 6, none⟩ = false := hfr 0
        have hx1 : wr.cell? ⟨go, i.toNat * 6 + 1, none⟩ = some (.int .i64 ((rd_T122 l i).f1)) := hcc 1 _ rfl
        have hf1 : wr.frozen? ⟨go, i.toNat * 6 + 1, none⟩ = false := hfr 1
        have hx2 : wr.cell? ⟨go, i.toNat * 6 + 2, none⟩ = some (.int .i64 ((rd_T122 l i).f2)) := hcc 2 _ rfl
        have hf2 : wr.frozen? ⟨go, i.toNat * 6 + 2, none⟩ = false := hfr 2
        have hx3 : wr.cell? ⟨go, i.toNat * 6 + 3, none⟩ = some (.int .i64 ((rd_T122 l i).f3)) := hcc 3 _ rfl
        have hf3 : wr.frozen? ⟨go, i.toNat * 6 + 3, none⟩ = false := hfr 3
        have hx4 : wr.cell? ⟨go, i.toNat * 6 + 4, none⟩ = some (.slice A4 (rd_T122 l i).f4.length c4) := hcc 4 _ rfl
        have hf4 : wr.frozen? ⟨go, i.toNat * 6 + 4, none⟩ = false := hfr 4
        have G4 : Aside0 (Kd.R (Kd.int .i64) 3 wr w0.heap.size oki (.slice A4 (rd_T122 l i).f4.length c4) (rd_T122 l i).f4) := ⟨g4⟩
        clear hm0 H hM hcc hfr hcl hH HG gb gl hlt hoki g4
        replace p1 := eq_true p1
        replace q1 := eq_true q1
        go_wp2_with fail
        refine (laws_markIntS.calls k1 oki _ _ _ r0.1 r0.2 w0 _ (below_set (below_set (below_set (below_set (HB.out) GB.out) GB.out) GB.out) GB.out) (Kd.R_far (p := ⟨go, i.toNat * 6 + 3, none⟩) (Kd.R_far (p := ⟨go, i.toNat * 6 + 2, none⟩) (Kd.R_far (p := ⟨go, i.toNat * 6 + 1, none⟩) (Kd.R_far (p := ⟨go, i.toNat * 6, none⟩) (G4.out) (fun k_ h_ => (HO.out k_ h_).2) (.int .i64 (n))) (fun k_ h_ => (HO.out k_ h_).2) (.int .i64 (wrap64 (n + 1)))) (fun k_ h_ => (HO.out k_ h_).2) (.int .i64 (wrap64 (wrap64 (n + 1) + 1)))) (fun k_ h_ => (HO.out k_ h_).2) (.int .i64 (wrap64 (wrap64 (wrap64 (n + 1) + 1) + 1)))) HM0.out).mono ?_
        rintro e w1 ⟨rfl, h4, hb4, hk4⟩
        have H5_4 := Aside0.mk (Kd.R_reok (ok := oki) rfl h4 (fun k_ e_ => G4.out.1 k_ e_))
        have HH1 := Aside0.mk (H_call (H_cell (H_cell (H_cell (H_cell (HH.out) HP.out HQ.out 0 (.int .i64 (n)) (by decide) rfl rfl) HP.out HQ.out 1 (.int .i64 (wrap64 (n + 1))) (by decide) rfl rfl) HP.out HQ.out 2 (.int .i64 (wrap64 (wrap64 (n + 1) + 1))) (by decide) rfl rfl) HP.out HQ.out 3 (.int .i64 (wrap64 (wrap64 (wrap64 (n + 1) + 1) + 1))) (by decide) rfl rfl) hk4)
        have HK1 : Aside0 (Kept w w1 P0_) := ⟨Kept.then_ (Kept.setCell (Kept.setCell (Kept.setCell (Kept.setCell (HK.out) HGO.out _) HGO.out _) HGO.out _) HGO.out _) hk4 (fun k_ h_ => .inl (HO.out k_ h_).1)⟩
        have HB1 := Aside0.mk hb4
        clear h4 hb4 hk4 hx0 hf0 hx1 hf1 hx2 hf2 hx3 hf3 hx4 hf4
        have hx5 : w1.cell? ⟨go, i.toNat * 6 + 5, none⟩ = some (.bool ((rd_T122 l i).f5)) := H_cells HH1.out HP.out HQ.out 5 rfl
        have hf5 : w1.frozen? ⟨go, i.toNat * 6 + 5, none⟩ = false := H_fr HH1.out HP.out HQ.out 5
        go_wp2
        have he : wrap64 (i + 1) = i + 1 := Go.Proofs.YtijhppbhaaikmaaH.wrap_up HP.out HQ.out HLEN.out
        go_roundg k1
        case measure => omega
        case rel =>
          refine ⟨_, _, _, rfl, rfl, H', ⟨by have := HP.out; omega, by rw [List.length_set]⟩, ⟨?_⟩, ⟨below_set (HB1.out) GB.out⟩, ⟨Kept.setCell (HK1.out) HGO.out _⟩⟩
          exact Kd.H_back (H_cell (HH1.out) HP.out HQ.out 5 (.bool (Int.tmod (r0.1) 3 == 0)) (by decide) rfl rfl) (k122_mkM _ _ oki (⟨n, wrap64 (n + 1), wrap64 (wrap64 (n + 1) + 1), wrap64 (wrap64 (wrap64 (n + 1) + 1) + 1), r0.2, Int.tmod (r0.1) 3 == 0⟩ : S122) (Kd.R_far (p := ⟨go, i.toNat * 6 + 5, none⟩) (H5_4.out) (fun k_ h_ => (HO.out k_ h_).2) (.bool (Int.tmod (r0.1) 3 == 0)))) (fun _ h_ => h_)
      · rw [if_neg hlt] at H
        simp only [Option.some.injEq, Prod.mk.injEq] at H
        obtain ⟨rfl, rfl⟩ := H
        have q1 : ¬ i < (n0 : Int) := by have := HX.out.2; omega
        have c1 : decide (i < (n0 : Int)) = false := decide_eq_false q1
        clear q1 hlt
        go_wp2
        go_ret
        exact ⟨rfl, HS.out, HB.out, HK.out⟩

/-! ### laws_heldIntS: function 65 -/
def laws_heldIntS.l0 : Nat → List Int → Int → Int → Option (Int)
  | 0, _, _, _ => none
  | k + 1, x0, x1, x5 => if x5 < (x0.length : Int) then (if 0 ≤ x5 then (if (rd x0 x5) = x1 then (laws_heldIntS.l0 k x0 (wrap64 (x1 + 1)) (wrap64 (x5 + 1))) else (some (-1))) else (none)) else (some x1)
def laws_heldIntS.f (k : Nat) (l0 : List Int) (a1 : Int) : Option (Int) := laws_heldIntS.l0 k l0 a1 0
theorem laws_heldIntS.mono_l : ∀ k, (∀ y0 y1 y2, LeO (laws_heldIntS.l0 k y0 y1 y2) (laws_heldIntS.l0 (k + 1) y0 y1 y2))
  | 0 => fun _ _ _ r h => by simp [laws_heldIntS.l0] at h
  | k + 1 => by
    have ih0 := laws_heldIntS.mono_l k
    · intro y0 y1 y2
      unfold laws_heldIntS.l0
      repeat' first
      | (with_reducible exact ih0 _ _ _)
      | (with_reducible exact LeO.refl _)
      | (with_reducible exact LeO.none _)
      | (with_reducible refine LeO.ite ?_ ?_)
      | (with_reducible refine LeO.bind ?_ (fun _ => ?_))
      | exact ih0 _ _ _
      | exact LeO.none _
      | refine LeO.ite ?_ ?_
      | refine LeO.bind ?_ (fun _ => ?_)
theorem laws_heldIntS.mono : ∀ a0 a1 k, LeO (laws_heldIntS.f k a0 a1) (laws_heldIntS.f (k + 1) a0 a1) := by
  intro a0 a1 k
  have ih0 := laws_heldIntS.mono_l k
  unfold laws_heldIntS.f
  repeat' first
      | (with_reducible exact ih0 _ _ _)
      | (with_reducible exact LeO.refl _)
      | (with_reducible exact LeO.none _)
      | (with_reducible refine LeO.ite ?_ ?_)
      | (with_reducible refine LeO.bind ?_ (fun _ => ?_))
      | exact ih0 _ _ _
      | exact LeO.none _
      | refine LeO.ite ?_ ?_
      | refine LeO.bind ?_ (fun _ => ?_)
set_option maxHeartbeats 8000000 in
set_option maxRecDepth 100000 in
theorem laws_heldIntS.calls (k : Nat) (A0 : Option Addr) (c0 : Nat) (l0 : List Int) (a1 : Int) (r : Int) (w : World) (hr0 : Kd.C (Kd.int .i64) w A0 l0.length l0) (hc0 : l0.length ≤ c0) (h : laws_heldIntS.f k l0 a1 = some r) :
    Calls Try.prog 65 #[.slice A0 l0.length c0, .int .i64 a1] w fun e w' => e = .returned (.int .i64 r) ∧ Drawn0 w w' := by
  have HR0 := Aside0.mk hr0
  have HC0 := Aside0.mk hc0
  clear hr0 hc0
  have H : (laws_heldIntS.l0 k l0 a1 0) = some r := h
  clear h
  have H' := Aside0.mk H
  clear H
  go_enter Try.func65, Try.ntmps65
  go_wp2
  go_loopg [1, 5] k (fun kq v1 v5 w' => ∃ (x1_1 : Int) (x5_1 : Int), v1 = .int .i64 x1_1 ∧ v5 = .int .i64 x5_1 ∧ Aside0 (laws_heldIntS.l0 kq l0 x1_1 x5_1 = some r) ∧ Aside0 (kq ≤ k) ∧ Drawn0 w w')
  case atStart => exact ⟨(a1), (0), (by first | rfl | (simp; done) | (simp [*]; done)), (by first | rfl | (simp; done) | (simp [*]; done)), H', ⟨Nat.le_refl _⟩, by repeat (first | exact Drawn0.refl _ | apply Drawn0.step)⟩
  case round =>
    clear H'
    try clear p2
    obtain ⟨x1_1, x5_1, rfl, rfl, HA, HK1, ⟨m1, rfl⟩⟩ := hrel
    cases gk with
    | zero => exact absurd HA.out (by simp [laws_heldIntS.l0])
    | succ k1 =>
      have H := HA.out
      clear HA
      simp only [laws_heldIntS.l0] at H
      by_cases c3 : x5_1 < (l0.length : Int)
      · rw [if_pos c3] at H
        have c3b0 : decide (x5_1 < (l0.length : Int)) = true := decide_eq_true c3
        clear c3
        by_cases c4 : 0 ≤ x5_1
        · rw [if_pos c4] at H
          have c4b0 : decide (0 ≤ x5_1) = true := decide_eq_true c4
          clear c4
          by_cases c5 : (rd l0 x5_1) = x1_1
          · rw [if_pos c5] at H
            have c5b0 : ((rd l0 x5_1) == x1_1) = true := beq_iff_eq.mpr c5
            have c5b1 : ((rd l0 x5_1) != x1_1) = false := bne_eq_false_iff_eq.mpr c5
            clear c5
            have H' := Aside0.mk H
            clear H
            have p155 : 0 ≤ (x5_1 : Int) := of_decide_eq_true (by first | (with_reducible assumption) | assumption)
            have q155 : x5_1 < (l0.length : Int) := of_decide_eq_true (by first | (with_reducible assumption) | assumption)
            obtain ⟨ad155, e155, hx155_0⟩ := Kd.at_int HR0.out x5_1 p155 q155
            cases e155
            replace p155 := eq_true p155
            replace q155 := eq_true q155
            go_wp2
            go_roundg k1
            case measure => have := HK1.out; omega
            case rel => exact ⟨(wrap64 (x1_1 + 1)), (wrap64 (x5_1 + 1)), (by first | rfl | (simp; done) | (simp [*]; done)), (by first | rfl | (simp; done) | (simp [*]; done)), H', ⟨by have := HK1.out; omega⟩, by repeat (first | exact Drawn0.refl _ | apply Drawn0.step)⟩
          · rw [if_neg c5] at H
            have c5b0 : ((rd l0 x5_1) == x1_1) = false := beq_eq_false_iff_ne.mpr c5
            have c5b1 : ((rd l0 x5_1) != x1_1) = true := bne_iff_ne.mpr c5
            obtain rfl := Option.some.inj H
            have p155 : 0 ≤ (x5_1 : Int) := of_decide_eq_true (by first | (with_reducible assumption) | assumption)
            have q155 : x5_1 < (l0.length : Int) := of_decide_eq_true (by first | (with_reducible assumption) | assumption)
            obtain ⟨ad155, e155, hx155_0⟩ := Kd.at_int HR0.out x5_1 p155 q155
            cases e155
            replace p155 := eq_true p155
            replace q155 := eq_true q155
            go_wp2
            go_ret
            exact ⟨by first | rfl | (simp; done) | (simp [*]; done), by repeat (first | exact Drawn0.refl _ | apply Drawn0.step)⟩
        · rw [if_neg c4] at H
          exact absurd H (by simp)
      · rw [if_neg c3] at H
        have c3b0 : decide (x5_1 < (l0.length : Int)) = false := decide_eq_false c3
        clear c3
        obtain rfl := Option.some.inj H
        go_wp2
        go_ret
        exact ⟨by first | rfl | (simp; done) | (simp [*]; done), by repeat (first | exact Drawn0.refl _ | apply Drawn0.step)⟩

end Go.Proofs.Ytijhppbhaaikmaa.QFnExactDebtsOf
