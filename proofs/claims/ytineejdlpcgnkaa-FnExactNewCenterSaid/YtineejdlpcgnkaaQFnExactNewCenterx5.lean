/- The machine side of FnExactNewCenter: what each function that it reaches computes, and that the machine's call gives just that. -/
import Derived.Test.YtineejdlpcgnkaaQFnExactNewCenterx0
import Derived.Test.YtineejdlpcgnkaaQFnExactNewCenterx1
import Derived.Test.YtineejdlpcgnkaaQFnExactNewCenterx2
import Derived.Test.YtineejdlpcgnkaaQFnExactNewCenterx4
namespace Go.Proofs.Ytineejdlpcgnkaa.QFnExactNewCenter
open Go.RowKit Go.Proofs.YtineejdlpcgnkaaW.PrintWords Go.Proofs.YtineejdlpcgnkaaW.PrintLast Go.Proofs.YtineejdlpcgnkaaW.PrintMore
attribute [local go_sem] max2_int min2_int max_two min_two max_three min_three max_four min_four   -- for this text's walks alone
set_option linter.unusedVariables false
set_option linter.unusedSimpArgs false

/-! ### laws_eqCertS: function 73 -/
def laws_eqCertS.l0 : Nat → List S118 → List S118 → Int → Option Bool
  | 0, _, _, _ => none
  | k + 1, l, m, i => if i < (l.length : Int) then (if 0 ≤ i then (if i < (m.length : Int) then (laws_eqCert.f (rd_T118 l i).f0 (rd_T118 l i).f1 (rd_T118 l i).f2 (rd_T118 l i).f3 (rd_T118 l i).f4 (rd_T118 l i).f5 (rd_T118 m i).f0 (rd_T118 m i).f1 (rd_T118 m i).f2 (rd_T118 m i).f3 (rd_T118 m i).f4 (rd_T118 m i).f5).bind fun t => (if t = true then laws_eqCertS.l0 k l m (wrap64 (i + 1)) else some false) else none) else none) else some true
def laws_eqCertS.f (k : Nat) (l0 : List S118) (l1 : List S118) : Option Bool := if (l0.length : Int) = (l1.length : Int) then laws_eqCertS.l0 k l0 l1 0 else some false
set_option maxHeartbeats 8000000 in
set_option maxRecDepth 100000 in
theorem laws_eqCertS.calls (k : Nat) (A0 : Option Addr) (c0 : Nat) (l0 : List S118) (A1 : Option Addr) (c1 : Nat) (l1 : List S118) (r : Bool) (w : World) (hr0 : Kd.C k118 w A0 l0.length l0) (hc0 : l0.length ≤ c0) (hr1 : Kd.C k118 w A1 l1.length l1) (hc1 : l1.length ≤ c1) (h : laws_eqCertS.f k l0 l1 = some r) :
    Calls Try.prog 73 #[.slice A0 l0.length c0, .slice A1 l1.length c1] w fun e w' => e = .returned (.bool r) ∧ Below w.heap.size w w' := by
  have HR0 := Aside0.mk hr0
  have HR1 := Aside0.mk hr1
  unfold laws_eqCertS.f at h
  have hu118 := Try.underlying118
  by_cases hl : (l0.length : Int) = (l1.length : Int)
  case neg =>
    rw [if_neg hl] at h
    obtain rfl := Option.some.inj h
    have c1b : ((l0.length : Int) == (l1.length : Int)) = false := beq_eq_false_iff_ne.mpr hl
    have c2b : ((l0.length : Int) != (l1.length : Int)) = true := bne_iff_ne.mpr hl
    clear hr0 hc0 hr1 hc1 h hl
    go_enter Try.func73, Try.ntmps73
    go_wp2
    go_ret
    exact ⟨rfl, Below.refl _ _⟩
  rw [if_pos hl] at h
  have c1b : ((l0.length : Int) == (l1.length : Int)) = true := beq_iff_eq.mpr hl
  have c2b : ((l0.length : Int) != (l1.length : Int)) = false := bne_eq_false_iff_eq.mpr hl
  have H' := Aside0.mk h
  clear hr0 hc0 hr1 hc1 h hl
  go_enter Try.func73, Try.ntmps73
  go_wp2
  go_loopg [5] k (fun kq v5 w' => ∃ i : Int, v5 = .int .i64 i ∧ Aside0 (laws_eqCertS.l0 kq l0 l1 i = some r) ∧ Aside0 (Below w.heap.size w w'))
  case atStart => exact ⟨0, rfl, H', ⟨Below.refl _ _⟩⟩
  case round =>
    clear H' c1b c2b
    obtain ⟨i, rfl, HA, HB⟩ := hrel
    cases gk with
    | zero => exact absurd HA.out (by simp [laws_eqCertS.l0])
    | succ k1 =>
      have H := HA.out
      clear HA
      simp only [laws_eqCertS.l0] at H
      by_cases q1 : i < (l0.length : Int)
      case neg =>
        rw [if_neg q1] at H
        obtain rfl := Option.some.inj H
        have c3 : decide (i < (l0.length : Int)) = false := decide_eq_false q1
        clear q1 H
        go_wp2
        go_ret
        exact ⟨rfl, HB.out⟩
      rw [if_pos q1] at H
      by_cases p1 : 0 ≤ i
      case neg => rw [if_neg p1] at H; exact absurd H (by simp)
      rw [if_pos p1] at H
      by_cases q2 : i < (l1.length : Int)
      case neg => rw [if_neg q2] at H; exact absurd H (by simp)
      rw [if_pos q2] at H
      replace H := Option.bind_eq_some_iff.mp H
      obtain ⟨t, ht, H⟩ := H
      have c3 : decide (i < (l0.length : Int)) = true := decide_eq_true q1
      obtain ⟨ada, ea, ha0, ha1, ha2, ha3, ha4, ha5⟩ := at_T118 (Kd.C_below HR0.out HB.out) i p1 q1
      obtain ⟨adb, eb, hb0, hb1, hb2, hb3, hb4, hb5⟩ := at_T118 (Kd.C_below HR1.out HB.out) i p1 q2
      cases ea
      cases eb
      have ht_ := ht
      have H' := Aside0.mk H
      replace p1 := eq_true p1
      replace q1 := eq_true q1
      replace q2 := eq_true q2
      clear H ht
      go_wp2
      have HT := Aside0.mk ht_
      have hB_ := below_drew1 HB.out
      clear HB
      have HB := Aside0.mk hB_
      clear hB_
      refine start_ (n := 10) (S := fun w' => w'.cell? (ada.add (i.toNat * 6)) = some (.int .i64 ((rd_T118 l0 i).f0)) ∧ w'.cell? ⟨(ada.add (i.toNat * 6)).block, (ada.add (i.toNat * 6)).off + 1, none⟩ = some (.int .i64 ((rd_T118 l0 i).f1)) ∧ w'.cell? ⟨(ada.add (i.toNat * 6)).block, (ada.add (i.toNat * 6)).off + 2, none⟩ = some (.int .i64 ((rd_T118 l0 i).f2)) ∧ w'.cell? ⟨(ada.add (i.toNat * 6)).block, (ada.add (i.toNat * 6)).off + 3, none⟩ = some (.int .i64 ((rd_T118 l0 i).f3)) ∧ w'.cell? ⟨(ada.add (i.toNat * 6)).block, (ada.add (i.toNat * 6)).off + 4, none⟩ = some (.int .i64 ((rd_T118 l0 i).f4)) ∧ w'.cell? ⟨(ada.add (i.toNat * 6)).block, (ada.add (i.toNat * 6)).off + 5, none⟩ = some (.int .i64 ((rd_T118 l0 i).f5)) ∧ w'.cell? (adb.add (i.toNat * 6)) = some (.int .i64 ((rd_T118 l1 i).f0)) ∧ w'.cell? ⟨(adb.add (i.toNat * 6)).block, (adb.add (i.toNat * 6)).off + 1, none⟩ = some (.int .i64 ((rd_T118 l1 i).f1)) ∧ w'.cell? ⟨(adb.add (i.toNat * 6)).block, (adb.add (i.toNat * 6)).off + 2, none⟩ = some (.int .i64 ((rd_T118 l1 i).f2)) ∧ w'.cell? ⟨(adb.add (i.toNat * 6)).block, (adb.add (i.toNat * 6)).off + 3, none⟩ = some (.int .i64 ((rd_T118 l1 i).f3)) ∧ w'.cell? ⟨(adb.add (i.toNat * 6)).block, (adb.add (i.toNat * 6)).off + 4, none⟩ = some (.int .i64 ((rd_T118 l1 i).f4)) ∧ w'.cell? ⟨(adb.add (i.toNat * 6)).block, (adb.add (i.toNat * 6)).off + 5, none⟩ = some (.int .i64 ((rd_T118 l1 i).f5))) (ds := []) #[false, false, false, false, false, false, false, false, false, false] (by kernel_rfl) rfl rfl ⟨ha0, ha1, ha2, ha3, ha4, ha5, hb0, hb1, hb2, hb3, hb4, hb5⟩ (fun hHeld => ?_)
      clear ha0 ha1 ha2 ha3 ha4 ha5 hb0 hb1 hb2 hb3 hb4 hb5
      generalize wr.drew = wd at HB  hHeld ⊢
      refine pure_ (i := 0) (N := some 17) (v := ?_) (a' := ?_) #[true, false, false, false, false, false, false, false, false, false] rfl rfl (by kernel_rfl) (fun _ _ _ h => h) (Or.inl ⟨by rfl, ?_⟩) ?_ ?_
      rotate_left
      · intro w'
        go_simp
        with_reducible rfl
      rotate_left
      · simp only [Act.put, List.setIfInBounds_toArray, List.set_cons_zero, List.set_cons_succ, i64_w, i32_w]
        rfl
      refine pure_ (i := 1) (N := some 18) (v := ?_) (a' := ?_) #[true, true, false, false, false, false, false, false, false, false] rfl rfl (by kernel_rfl) (fun _ _ _ h => h) (Or.inl ⟨by rfl, ?_⟩) ?_ ?_
      rotate_left
      · intro w'
        go_simp
        with_reducible rfl
      rotate_left
      · simp only [Act.put, List.setIfInBounds_toArray, List.set_cons_zero, List.set_cons_succ, i64_w, i32_w]
        rfl
      refine pure_ (i := 2) (N := some 19) (v := ?_) (a' := ?_) #[true, true, true, false, false, false, false, false, false, false] rfl rfl (by kernel_rfl) (fun _ _ _ h => h) (Or.inl ⟨by rfl, ?_⟩) ?_ ?_
      rotate_left
      · intro w'
        go_simp
        with_reducible rfl
      rotate_left
      · simp only [Act.put, List.setIfInBounds_toArray, List.set_cons_zero, List.set_cons_succ, i64_w, i32_w]
        rfl
      refine pure_ (i := 4) (N := some 21) (v := ?_) (a' := ?_) #[true, true, true, false, true, false, false, false, false, false] rfl rfl (by kernel_rfl) (fun _ _ _ h => h) (Or.inl ⟨by rfl, ?_⟩) ?_ ?_
      rotate_left
      · intro w'
        go_simp
        with_reducible rfl
      rotate_left
      · simp only [Act.put, List.setIfInBounds_toArray, List.set_cons_zero, List.set_cons_succ, i64_w, i32_w]
        rfl
      refine pure_ (i := 5) (N := some 22) (v := ?_) (a' := ?_) #[true, true, true, false, true, true, false, false, false, false] rfl rfl (by kernel_rfl) (fun _ _ _ h => h) (Or.inl ⟨by rfl, ?_⟩) ?_ ?_
      rotate_left
      · intro w'
        go_simp
        with_reducible rfl
      rotate_left
      · simp only [Act.put, List.setIfInBounds_toArray, List.set_cons_zero, List.set_cons_succ, i64_w, i32_w]
        rfl
      refine pure_ (i := 6) (N := some 23) (v := ?_) (a' := ?_) #[true, true, true, false, true, true, true, false, false, false] rfl rfl (by kernel_rfl) (fun _ _ _ h => h) (Or.inl ⟨by rfl, ?_⟩) ?_ ?_
      rotate_left
      · intro w'
        go_simp
        with_reducible rfl
      rotate_left
      · simp only [Act.put, List.setIfInBounds_toArray, List.set_cons_zero, List.set_cons_succ, i64_w, i32_w]
        rfl
      refine take_ (i := 3) (N := some 20) (v := ?_) (a' := ?_) #[true, true, true, true, true, true, true, false, false, false] rfl rfl (by kernel_rfl) (fun _ _ _ h => h) (Or.inl ⟨by rfl, ?_⟩) hHeld ?_ ?_
      rotate_left
      · rintro w' ⟨s0, s1, s2, s3, s4, s5, s6, s7, s8, s9, s10, s11⟩
        go_simp
        with_reducible rfl
      rotate_left
      · simp only [Act.put, List.setIfInBounds_toArray, List.set_cons_zero, List.set_cons_succ, i64_w, i32_w]
        rfl
      refine take_ (i := 7) (N := some 24) (v := ?_) (a' := ?_) #[true, true, true, true, true, true, true, true, false, false] rfl rfl (by kernel_rfl) (fun _ _ _ h => h) (Or.inl ⟨by rfl, ?_⟩) hHeld ?_ ?_
      rotate_left
      · rintro w' ⟨s0, s1, s2, s3, s4, s5, s6, s7, s8, s9, s10, s11⟩
        go_simp
        with_reducible rfl
      rotate_left
      · simp only [Act.put, List.setIfInBounds_toArray, List.set_cons_zero, List.set_cons_succ, i64_w, i32_w]
        rfl
      refine one_ (i := 8) (N := some 25) #[true, true, true, true, true, true, true, true, true, false] rfl rfl (by kernel_rfl) (by decide) (fun K hK => ?_)
      have hcall := laws_eqCert.calls (rd_T118 l0 i).f0 (rd_T118 l0 i).f1 (rd_T118 l0 i).f2 (rd_T118 l0 i).f3 (rd_T118 l0 i).f4 (rd_T118 l0 i).f5 (rd_T118 l1 i).f0 (rd_T118 l1 i).f1 (rd_T118 l1 i).f2 (rd_T118 l1 i).f3 (rd_T118 l1 i).f4 (rd_T118 l1 i).f5 t wd  HT.out
      refine goes_ Try.func125 (by kernel_rfl) rfl #[.agg #[.int .i64 ((rd_T118 l0 i).f0), .int .i64 ((rd_T118 l0 i).f1), .int .i64 ((rd_T118 l0 i).f2), .int .i64 ((rd_T118 l0 i).f3), .int .i64 ((rd_T118 l0 i).f4), .int .i64 ((rd_T118 l0 i).f5)], .agg #[.int .i64 ((rd_T118 l1 i).f0), .int .i64 ((rd_T118 l1 i).f1), .int .i64 ((rd_T118 l1 i).f2), .int .i64 ((rd_T118 l1 i).f3), .int .i64 ((rd_T118 l1 i).f4), .int .i64 ((rd_T118 l1 i).f5)]] (by rfl) rfl rfl (by (try simp only [List.map_toArray, List.map_cons, List.map_nil]); first | done | rfl) ?_
      refine hcall.mono ?_
      rintro e w2 ⟨rfl, hd⟩
      refine ⟨_, rfl, ?_⟩
      clear hcall
      have HB2 := Aside0.mk (below_step HB.out hd)
      have hd2 := hd
      clear hd
      refine hK.out _ _ ⟨pw_cell_below hd2 (hHeld.1), pw_cell_below hd2 (hHeld.2.1), pw_cell_below hd2 (hHeld.2.2.1), pw_cell_below hd2 (hHeld.2.2.2.1), pw_cell_below hd2 (hHeld.2.2.2.2.1), pw_cell_below hd2 (hHeld.2.2.2.2.2.1), pw_cell_below hd2 (hHeld.2.2.2.2.2.2.1), pw_cell_below hd2 (hHeld.2.2.2.2.2.2.2.1), pw_cell_below hd2 (hHeld.2.2.2.2.2.2.2.2.1), pw_cell_below hd2 (hHeld.2.2.2.2.2.2.2.2.2.1), pw_cell_below hd2 (hHeld.2.2.2.2.2.2.2.2.2.2.1), pw_cell_below hd2 (hHeld.2.2.2.2.2.2.2.2.2.2.2)⟩ (fun hHeld => ?_)
      clear hK K
      refine norm_ (a' := ?_) ?_ ?_
      rotate_left
      · show Act.put _ (some 25) _ = _
        simp only [Act.put, List.setIfInBounds_toArray, List.set_cons_zero, List.set_cons_succ, i64_w, i32_w]
        rfl
      refine pure_ (i := 9) (N := some 26) (v := ?_) (a' := ?_) #[true, true, true, true, true, true, true, true, true, true] rfl rfl (by kernel_rfl) (fun _ _ _ h => h) (Or.inl ⟨by rfl, ?_⟩) ?_ ?_
      rotate_left
      · intro w'
        go_simp
        with_reducible rfl
      rotate_left
      · simp only [Act.put, List.setIfInBounds_toArray, List.set_cons_zero, List.set_cons_succ, i64_w, i32_w]
        rfl
      refine done_ (by kernel_rfl) ?_
      clear hHeld hd2
      have H := H'.out
      clear H'
      cases t with
      | false =>
        rw [if_neg (by simp)] at H
        obtain rfl := Option.some.inj H
        clear H
        go_wp2
        go_ret
        exact ⟨rfl, HB2.out⟩
      | true =>
        rw [if_pos rfl] at H
        have H' := Aside0.mk H
        clear H
        go_wp2
        go_roundg k1
        case measure => omega
        case rel => exact ⟨_, rfl, H', HB2⟩

/-! ### laws_eqCenter: function 29 -/
def laws_eqCenter.f (k : Nat) (l0_0 : List (S107)) (l0_1 : List (S40)) (l0_2 : List (S132)) (l0_3 : List (S99)) (a0_4 : Int) (l0_5 : List (S118)) (l1_0 : List (S107)) (l1_1 : List (S40)) (l1_2 : List (S132)) (l1_3 : List (S99)) (a1_4 : Int) (l1_5 : List (S118)) : Option (Bool) := (laws_eqIssuerS.f k l0_0 l1_0).bind fun t161 => (if t161 = true then ((laws_eqEpochS.f k l0_1 l1_1).bind fun t162 => (if t162 = true then ((laws_eqFactS.f k l0_2 l1_2).bind fun t163 => (if t163 = true then ((laws_eqRevokedS.f k l0_3 l1_3).bind fun t164 => (if t164 = true then (if a0_4 = a1_4 then ((laws_eqCertS.f k l0_5 l1_5).bind fun t165 => (if t165 = true then (some true) else (some false))) else (some false)) else (some false))) else (some false))) else (some false))) else (some false))
set_option maxHeartbeats 8000000 in
set_option maxRecDepth 100000 in
theorem laws_eqCenter.calls (k : Nat) (A0_0 : Option Addr) (c0_0 : Nat) (l0_0 : List (S107)) (A0_1 : Option Addr) (c0_1 : Nat) (l0_1 : List (S40)) (A0_2 : Option Addr) (c0_2 : Nat) (l0_2 : List (S132)) (A0_3 : Option Addr) (c0_3 : Nat) (l0_3 : List (S99)) (a0_4 : Int) (A0_5 : Option Addr) (c0_5 : Nat) (l0_5 : List (S118)) (A1_0 : Option Addr) (c1_0 : Nat) (l1_0 : List (S107)) (A1_1 : Option Addr) (c1_1 : Nat) (l1_1 : List (S40)) (A1_2 : Option Addr) (c1_2 : Nat) (l1_2 : List (S132)) (A1_3 : Option Addr) (c1_3 : Nat) (l1_3 : List (S99)) (a1_4 : Int) (A1_5 : Option Addr) (c1_5 : Nat) (l1_5 : List (S118)) (r : Bool) (w : World) (hr0_0 : Kd.C k107 w A0_0 l0_0.length l0_0) (hc0_0 : l0_0.length ≤ c0_0) (hr0_1 : Kd.C k40 w A0_1 l0_1.length l0_1) (hc0_1 : l0_1.length ≤ c0_1) (hr0_2 : Kd.C k132 w A0_2 l0_2.length l0_2) (hc0_2 : l0_2.length ≤ c0_2) (hr0_3 : Kd.C k99 w A0_3 l0_3.length l0_3) (hc0_3 : l0_3.length ≤ c0_3) (hr0_5 : Kd.C k118 w A0_5 l0_5.length l0_5) (hc0_5 : l0_5.length ≤ c0_5) (hr1_0 : Kd.C k107 w A1_0 l1_0.length l1_0) (hc1_0 : l1_0.length ≤ c1_0) (hr1_1 : Kd.C k40 w A1_1 l1_1.length l1_1) (hc1_1 : l1_1.length ≤ c1_1) (hr1_2 : Kd.C k132 w A1_2 l1_2.length l1_2) (hc1_2 : l1_2.length ≤ c1_2) (hr1_3 : Kd.C k99 w A1_3 l1_3.length l1_3) (hc1_3 : l1_3.length ≤ c1_3) (hr1_5 : Kd.C k118 w A1_5 l1_5.length l1_5) (hc1_5 : l1_5.length ≤ c1_5) (h : laws_eqCenter.f k l0_0 l0_1 l0_2 l0_3 a0_4 l0_5 l1_0 l1_1 l1_2 l1_3 a1_4 l1_5 = some r) :
    Calls Try.prog 29 #[.agg #[.slice A0_0 l0_0.length c0_0, .slice A0_1 l0_1.length c0_1, .slice A0_2 l0_2.length c0_2, .slice A0_3 l0_3.length c0_3, .int .i64 a0_4, .slice A0_5 l0_5.length c0_5], .agg #[.slice A1_0 l1_0.length c1_0, .slice A1_1 l1_1.length c1_1, .slice A1_2 l1_2.length c1_2, .slice A1_3 l1_3.length c1_3, .int .i64 a1_4, .slice A1_5 l1_5.length c1_5]] w fun e w' => e = .returned (.bool r) ∧ Below w.heap.size w w' := by
  have HR0_0 := Aside0.mk hr0_0
  have HC0_0 := Aside0.mk hc0_0
  clear hr0_0 hc0_0
  have HR0_1 := Aside0.mk hr0_1
  have HC0_1 := Aside0.mk hc0_1
  clear hr0_1 hc0_1
  have HR0_2 := Aside0.mk hr0_2
  have HC0_2 := Aside0.mk hc0_2
  clear hr0_2 hc0_2
  have HR0_3 := Aside0.mk hr0_3
  have HC0_3 := Aside0.mk hc0_3
  clear hr0_3 hc0_3
  have HR0_5 := Aside0.mk hr0_5
  have HC0_5 := Aside0.mk hc0_5
  clear hr0_5 hc0_5
  have HR1_0 := Aside0.mk hr1_0
  have HC1_0 := Aside0.mk hc1_0
  clear hr1_0 hc1_0
  have HR1_1 := Aside0.mk hr1_1
  have HC1_1 := Aside0.mk hc1_1
  clear hr1_1 hc1_1
  have HR1_2 := Aside0.mk hr1_2
  have HC1_2 := Aside0.mk hc1_2
  clear hr1_2 hc1_2
  have HR1_3 := Aside0.mk hr1_3
  have HC1_3 := Aside0.mk hc1_3
  clear hr1_3 hc1_3
  have HR1_5 := Aside0.mk hr1_5
  have HC1_5 := Aside0.mk hc1_5
  clear hr1_5 hc1_5
  have HB := Aside0.mk (Below.refl w.heap.size w)
  have H := h
  clear h
  unfold laws_eqCenter.f at H
  have hu64 := Try.underlying64
  go_enter Try.func29, Try.ntmps29
  have H'' := Aside0.mk H
  clear H
  go_wp2_with (first | ((with_reducible refine gate_dst (N := 2) rfl ?_); refine box_event ?hg (N := 2) ?hd (cs := #[.slice A0_0 l0_0.length c0_0, .slice A0_1 l0_1.length c0_1, .slice A0_2 l0_2.length c0_2, .slice A0_3 l0_3.length c0_3, .int .i64 a0_4, .slice A0_5 l0_5.length c0_5]) (t := 64) ?hr ?_; (case hd => rfl); (case hg => rfl); (case hr => first | (go_simp; done) | (go_simp; rfl)); intro gb1 hg W1 hbox hb; have Z1 := Aside0.mk hb.size; have E1 := Aside0.mk (And.intro hg (blk_lt hbox)); have BK1 := Aside0.mk hbox; have c_BK1 := blk_cell hbox; have z_BK1 := blk_frozen hbox; have hB_ := below_step HB.out hb; clear HB hb hbox hg; have HB := Aside0.mk hB_; clear hB_) | ((with_reducible refine gate_dst (N := 3) rfl ?_); refine box_event ?hg (N := 3) ?hd (cs := #[.slice A1_0 l1_0.length c1_0, .slice A1_1 l1_1.length c1_1, .slice A1_2 l1_2.length c1_2, .slice A1_3 l1_3.length c1_3, .int .i64 a1_4, .slice A1_5 l1_5.length c1_5]) (t := 64) ?hr ?_; (case hd => rfl); (case hg => rfl); (case hr => first | (go_simp; done) | (go_simp; rfl)); intro gb2 hg W2 hbox hb; have Z2 := Aside0.mk hb.size; have E2 := Aside0.mk (And.intro hg (blk_lt hbox)); have h_ := blk_below BK1.out hb; clear BK1 c_BK1 z_BK1; have BK1 := Aside0.mk h_; have c_BK1 := blk_cell h_; have z_BK1 := blk_frozen h_; clear h_; have BK2 := Aside0.mk hbox; have c_BK2 := blk_cell hbox; have z_BK2 := blk_frozen hbox; have hB_ := below_step HB.out hb; clear HB hb hbox hg; have HB := Aside0.mk hB_; clear hB_))
  have H := H''.out
  clear H''
  replace H := Option.bind_eq_some_iff.mp H
  obtain ⟨t161, hm, H⟩ := H
  try dsimp only at H
  have H' := Aside0.mk H
  clear H
  have hcall := laws_eqIssuerS.calls k _ _ l0_0 _ _ l1_0 t161 W2 (Kd.C_below HR0_0.out HB.out) HC0_0.out (Kd.C_below HR1_0.out HB.out) HC1_0.out hm
  clear hm
  try go_wp2_with fail
  refine hcall.mono ?_
  rintro e W3 ⟨rfl, hb⟩
  clear hcall
  have Z3 := Aside0.mk hb.size
  have h_ := blk_below BK1.out hb
  clear BK1 c_BK1 z_BK1
  have BK1 := Aside0.mk h_
  have c_BK1 := blk_cell h_
  have z_BK1 := blk_frozen h_
  clear h_
  have h_ := blk_below BK2.out hb
  clear BK2 c_BK2 z_BK2
  have BK2 := Aside0.mk h_
  have c_BK2 := blk_cell h_
  have z_BK2 := blk_frozen h_
  clear h_
  have hB_ := below_step HB.out hb
  clear HB hb
  have HB := Aside0.mk hB_
  clear hB_
  have H := H'.out
  clear H'
  by_cases c4 : t161 = true
  · rw [if_pos c4] at H
    subst c4
    replace H := Option.bind_eq_some_iff.mp H
    obtain ⟨t162, hm, H⟩ := H
    try dsimp only at H
    have H' := Aside0.mk H
    clear H
    have hcall := laws_eqEpochS.calls k _ _ l0_1 _ _ l1_1 t162 W3 (Kd.C_below HR0_1.out HB.out) HC0_1.out (Kd.C_below HR1_1.out HB.out) HC1_1.out hm
    clear hm
    go_wp2_with fail
    refine hcall.mono ?_
    rintro e W5 ⟨rfl, hb⟩
    clear hcall
    have Z5 := Aside0.mk hb.size
    have h_ := blk_below BK1.out hb
    clear BK1 c_BK1 z_BK1
    have BK1 := Aside0.mk h_
    have c_BK1 := blk_cell h_
    have z_BK1 := blk_frozen h_
    clear h_
    have h_ := blk_below BK2.out hb
    clear BK2 c_BK2 z_BK2
    have BK2 := Aside0.mk h_
    have c_BK2 := blk_cell h_
    have z_BK2 := blk_frozen h_
    clear h_
    have hB_ := below_step HB.out hb
    clear HB hb
    have HB := Aside0.mk hB_
    clear hB_
    have H := H'.out
    clear H'
    by_cases c6 : t162 = true
    · rw [if_pos c6] at H
      subst c6
      replace H := Option.bind_eq_some_iff.mp H
      obtain ⟨t163, hm, H⟩ := H
      try dsimp only at H
      have H' := Aside0.mk H
      clear H
      have hcall := laws_eqFactS.calls k _ _ l0_2 _ _ l1_2 t163 W5 (Kd.C_below HR0_2.out HB.out) HC0_2.out (Kd.C_below HR1_2.out HB.out) HC1_2.out hm
      clear hm
      go_wp2_with fail
      refine hcall.mono ?_
      rintro e W7 ⟨rfl, hb⟩
      clear hcall
      have Z7 := Aside0.mk hb.size
      have h_ := blk_below BK1.out hb
      clear BK1 c_BK1 z_BK1
      have BK1 := Aside0.mk h_
      have c_BK1 := blk_cell h_
      have z_BK1 := blk_frozen h_
      clear h_
      have h_ := blk_below BK2.out hb
      clear BK2 c_BK2 z_BK2
      have BK2 := Aside0.mk h_
      have c_BK2 := blk_cell h_
      have z_BK2 := blk_frozen h_
      clear h_
      have hB_ := below_step HB.out hb
      clear HB hb
      have HB := Aside0.mk hB_
      clear hB_
      have H := H'.out
      clear H'
      by_cases c8 : t163 = true
      · rw [if_pos c8] at H
        subst c8
        replace H := Option.bind_eq_some_iff.mp H
        obtain ⟨t164, hm, H⟩ := H
        try dsimp only at H
        have H' := Aside0.mk H
        clear H
        have hcall := laws_eqRevokedS.calls k _ _ l0_3 _ _ l1_3 t164 W7 (Kd.C_below HR0_3.out HB.out) HC0_3.out (Kd.C_below HR1_3.out HB.out) HC1_3.out hm
        clear hm
        go_wp2_with fail
        refine hcall.mono ?_
        rintro e W9 ⟨rfl, hb⟩
        clear hcall
        have Z9 := Aside0.mk hb.size
        have h_ := blk_below BK1.out hb
        clear BK1 c_BK1 z_BK1
        have BK1 := Aside0.mk h_
        have c_BK1 := blk_cell h_
        have z_BK1 := blk_frozen h_
        clear h_
        have h_ := blk_below BK2.out hb
        clear BK2 c_BK2 z_BK2
        have BK2 := Aside0.mk h_
        have c_BK2 := blk_cell h_
        have z_BK2 := blk_frozen h_
        clear h_
        have hB_ := below_step HB.out hb
        clear HB hb
        have HB := Aside0.mk hB_
        clear hB_
        have H := H'.out
        clear H'
        by_cases c10 : t164 = true
        · rw [if_pos c10] at H
          subst c10
          by_cases c11 : a0_4 = a1_4
          · rw [if_pos c11] at H
            have c11_1 : (a0_4 == a1_4) = true := beq_iff_eq.mpr c11
            have c11_2 : (a0_4 != a1_4) = false := bne_eq_false_iff_eq.mpr c11
            have c11_0 : decide (a0_4 = a1_4) = true := decide_eq_true c11
            clear c11
            replace H := Option.bind_eq_some_iff.mp H
            obtain ⟨t165, hm, H⟩ := H
            try dsimp only at H
            have H' := Aside0.mk H
            clear H
            have hcall := laws_eqCertS.calls k _ _ l0_5 _ _ l1_5 t165 W9 (Kd.C_below HR0_5.out HB.out) HC0_5.out (Kd.C_below HR1_5.out HB.out) HC1_5.out hm
            clear hm
            go_wp2_with fail
            refine hcall.mono ?_
            rintro e W12 ⟨rfl, hb⟩
            clear hcall
            have Z12 := Aside0.mk hb.size
            have h_ := blk_below BK1.out hb
            clear BK1 c_BK1 z_BK1
            have BK1 := Aside0.mk h_
            have c_BK1 := blk_cell h_
            have z_BK1 := blk_frozen h_
            clear h_
            have h_ := blk_below BK2.out hb
            clear BK2 c_BK2 z_BK2
            have BK2 := Aside0.mk h_
            have c_BK2 := blk_cell h_
            have z_BK2 := blk_frozen h_
            clear h_
            have hB_ := below_step HB.out hb
            clear HB hb
            have HB := Aside0.mk hB_
            clear hB_
            have H := H'.out
            clear H'
            by_cases c13 : t165 = true
            · rw [if_pos c13] at H
              subst c13
              obtain rfl := Option.some.inj H
              clear H
              go_wp2
              go_ret
              exact ⟨rfl, HB.out⟩
            · rw [if_neg c13] at H
              replace c13 : t165 = false := by simpa using c13
              subst c13
              obtain rfl := Option.some.inj H
              clear H
              go_wp2
              go_ret
              exact ⟨rfl, HB.out⟩
          · rw [if_neg c11] at H
            have c11_1 : (a0_4 == a1_4) = false := beq_eq_false_iff_ne.mpr c11
            have c11_2 : (a0_4 != a1_4) = true := bne_iff_ne.mpr c11
            have c11_0 : decide (a0_4 = a1_4) = false := decide_eq_false c11
            clear c11
            obtain rfl := Option.some.inj H
            clear H
            go_wp2
            go_ret
            exact ⟨rfl, HB.out⟩
        · rw [if_neg c10] at H
          replace c10 : t164 = false := by simpa using c10
          subst c10
          obtain rfl := Option.some.inj H
          clear H
          go_wp2
          go_ret
          exact ⟨rfl, HB.out⟩
      · rw [if_neg c8] at H
        replace c8 : t163 = false := by simpa using c8
        subst c8
        obtain rfl := Option.some.inj H
        clear H
        go_wp2
        go_ret
        exact ⟨rfl, HB.out⟩
    · rw [if_neg c6] at H
      replace c6 : t162 = false := by simpa using c6
      subst c6
      obtain rfl := Option.some.inj H
      clear H
      go_wp2
      go_ret
      exact ⟨rfl, HB.out⟩
  · rw [if_neg c4] at H
    replace c4 : t161 = false := by simpa using c4
    subst c4
    obtain rfl := Option.some.inj H
    clear H
    go_wp2
    go_ret
    exact ⟨rfl, HB.out⟩

/-! ### laws_markFactS: function 55 -/
def laws_markFactS.f (l0 : List S132) (a1 : Int) : Option Int := if (l0.length : Int) = 0 then some a1 else none
set_option maxHeartbeats 8000000 in
set_option maxRecDepth 100000 in
theorem laws_markFactS.calls (A0 : Option Addr) (c0 : Nat) (l0 : List S132) (a1 : Int) (r : Int) (w : World) (hr0 : Kd.C k132 w A0 l0.length l0) (hc0 : l0.length ≤ c0) (h : laws_markFactS.f l0 a1 = some r) :
    Calls Try.prog 55 #[.slice A0 l0.length c0, .int .i64 a1] w fun e w' => e = .returned (.int .i64 r) ∧ Drawn0 w w' := by
  unfold laws_markFactS.f at h
  by_cases c : (l0.length : Int) = 0
  case neg => rw [if_neg c] at h; exact absurd h (by simp)
  rw [if_pos c] at h
  obtain rfl := Option.some.inj h
  have HN := Aside0.mk c
  clear hr0 hc0 h c
  go_enter Try.func55, Try.ntmps55
  go_wp2
  go_loopg [1, 5] 0 (fun kq v1 v5 w' => ∃ i : Int, v1 = .int .i64 a1 ∧ v5 = .int .i64 i ∧ w' = w ∧ Aside0 (i = 0))
  case atStart => exact ⟨0, rfl, rfl, rfl, ⟨rfl⟩⟩
  case round =>
    obtain ⟨i, rfl, rfl, rfl, HI⟩ := hrel
    have c1 : decide (i < (l0.length : Int)) = false := decide_eq_false (by have := HI.out; have := HN.out; omega)
    clear HI HN
    go_wp2
    go_ret
    exact ⟨rfl, Drawn0.refl _⟩
theorem laws_markFactS.nil {l0 : List S132} {a1 r : Int} (h : laws_markFactS.f l0 a1 = some r) : l0 = [] ∧ a1 = r := by
  unfold laws_markFactS.f at h
  by_cases c : (l0.length : Int) = 0
  · rw [if_pos c] at h; exact ⟨List.length_eq_zero_iff.mp (by omega), Option.some.inj h⟩
  · rw [if_neg c] at h; exact absurd h (by simp)

/-! ### laws_markRevokedS: function 56 -/
def laws_markRevokedS.f (l0 : List S99) (a1 : Int) : Option Int := if (l0.length : Int) = 0 then some a1 else none
set_option maxHeartbeats 8000000 in
set_option maxRecDepth 100000 in
theorem laws_markRevokedS.calls (A0 : Option Addr) (c0 : Nat) (l0 : List S99) (a1 : Int) (r : Int) (w : World) (hr0 : Kd.C k99 w A0 l0.length l0) (hc0 : l0.length ≤ c0) (h : laws_markRevokedS.f l0 a1 = some r) :
    Calls Try.prog 56 #[.slice A0 l0.length c0, .int .i64 a1] w fun e w' => e = .returned (.int .i64 r) ∧ Drawn0 w w' := by
  unfold laws_markRevokedS.f at h
  by_cases c : (l0.length : Int) = 0
  case neg => rw [if_neg c] at h; exact absurd h (by simp)
  rw [if_pos c] at h
  obtain rfl := Option.some.inj h
  have HN := Aside0.mk c
  clear hr0 hc0 h c
  go_enter Try.func56, Try.ntmps56
  go_wp2
  go_loopg [1, 5] 0 (fun kq v1 v5 w' => ∃ i : Int, v1 = .int .i64 a1 ∧ v5 = .int .i64 i ∧ w' = w ∧ Aside0 (i = 0))
  case atStart => exact ⟨0, rfl, rfl, rfl, ⟨rfl⟩⟩
  case round =>
    obtain ⟨i, rfl, rfl, rfl, HI⟩ := hrel
    have c1 : decide (i < (l0.length : Int)) = false := decide_eq_false (by have := HI.out; have := HN.out; omega)
    clear HI HN
    go_wp2
    go_ret
    exact ⟨rfl, Drawn0.refl _⟩
theorem laws_markRevokedS.nil {l0 : List S99} {a1 r : Int} (h : laws_markRevokedS.f l0 a1 = some r) : l0 = [] ∧ a1 = r := by
  unfold laws_markRevokedS.f at h
  by_cases c : (l0.length : Int) = 0
  · rw [if_pos c] at h; exact ⟨List.length_eq_zero_iff.mp (by omega), Option.some.inj h⟩
  · rw [if_neg c] at h; exact absurd h (by simp)

/-! ### laws_markIntS: function 126 -/
def laws_markIntS.l0 : Nat → List Int → Int → Int → Option (Int × List Int)
  | 0, _, _, _ => none
  | k + 1, x0, x1, x5 => if x5 < (x0.length : Int) then (if 0 ≤ x5 then (laws_markIntS.l0 k (x0.set (x5 : Int).toNat x1) (wrap64 (x1 + 1)) (wrap64 (x5 + 1))) else (none)) else (some (x1, x0))
def laws_markIntS.f (k : Nat) (l0 : List Int) (a1 : Int) : Option (Int × List Int) := laws_markIntS.l0 k l0 a1 0
set_option maxHeartbeats 8000000 in
set_option maxRecDepth 100000 in
theorem laws_markIntS.calls (k : Nat) (P0_ : Nat → Prop) (u9000_ : Value) (l0 : List Int) (a1 : Int) (r1 : Int) (r2 : List Int) (w0 w : World) (hB : Below w0.heap.size w0 w) (ho0 : Kd.R (Kd.int .i64) 3 w w0.heap.size P0_ u9000_ l0) (h : laws_markIntS.f k l0 a1 = some (r1, r2)) :
    Calls Try.prog 126 #[u9000_, .int .i64 a1] w fun e w' => e = .returned (.int .i64 r1) ∧ Kd.R (Kd.int .i64) 3 w' w0.heap.size (fun k_ => (P0_ k_ ∨ w.heap.size ≤ k_)) u9000_ r2 ∧ Below w0.heap.size w0 w' ∧ Kept w w' (fun k_ => P0_ k_) := by
  have HO0 := Aside0.mk (show Kd.R (Kd.int .i64) 3 w w0.heap.size (fun k_ => (P0_ k_ ∨ w.heap.size ≤ k_)) u9000_ l0 from Kd.R_mono ho0 (fun k_ hk => (.inl hk)))
  have HK := Aside0.mk (Kept.refl w (fun k_ => P0_ k_))
  have HW0 := Aside0.mk hB.size
  have HB := Aside0.mk hB
  clear hB
  have H : (laws_markIntS.l0 k l0 a1 0) = some (r1, r2) := h
  clear h
  have H' := Aside0.mk H
  clear H
  go_enter Try.func126, Try.ntmps126
  go_wp2
  go_loopg [1, 5] k (fun kq v1 v5 w' => ∃ (x0_1 : List Int) (x1_1 : Int) (x5_1 : Int), v1 = .int .i64 x1_1 ∧ v5 = .int .i64 x5_1 ∧ Aside0 (laws_markIntS.l0 kq x0_1 x1_1 x5_1 = some (r1, r2)) ∧ Aside0 (kq ≤ k) ∧ Aside0 (Kd.R (Kd.int .i64) 3 w' w0.heap.size (fun k_ => (P0_ k_ ∨ w.heap.size ≤ k_)) u9000_ x0_1) ∧ Aside0 (Kept w w' (fun k_ => P0_ k_)) ∧ Aside0 (Below w0.heap.size w0 w'))
  case atStart => exact ⟨(l0), (a1), (0), (by first | rfl | (simp; done) | (simp [*]; done)), (by first | rfl | (simp; done) | (simp [*]; done)), H', ⟨Nat.le_refl _⟩, ⟨by (with_reducible repeat (first | apply Kd.R_alloc | apply Kd.R_drewN | apply Kd.R_drew)); exact HO0.out⟩, ⟨by repeat (first | (with_reducible first | exact HK.out | apply Kept.alloc | apply Kept.drewN | apply Kept.drew) | exact HK.out)⟩, ⟨by repeat (first | (with_reducible first | exact HB.out | apply below_alloc | apply pw_below_drewN | apply below_drew1) | exact HB.out)⟩⟩
  case round =>
    clear H'
    try clear c1
    try clear p2
    obtain ⟨x0_1, x1_1, x5_1, rfl, rfl, HA, HK1, HO_0, HK, HB⟩ := hrel
    cases gk with
    | zero => exact absurd HA.out (by simp [laws_markIntS.l0])
    | succ k1 =>
      have H := HA.out
      clear HA
      simp only [laws_markIntS.l0] at H
      by_cases c3 : x5_1 < (x0_1.length : Int)
      · rw [if_pos c3] at H
        have c3b0 : decide (x5_1 < (x0_1.length : Int)) = true := decide_eq_true c3
        clear c3
        by_cases c4 : 0 ≤ x5_1
        · rw [if_pos c4] at H
          have c4b0 : decide (0 ≤ x5_1) = true := decide_eq_true c4
          clear c4
          obtain ⟨y166, hy166⟩ : ∃ y_ : List Int, y_ = (x0_1.set (x5_1 : Int).toNat x1_1) := ⟨_, rfl⟩
          replace H : (laws_markIntS.l0 k1 y166 (wrap64 (x1_1 + 1)) (wrap64 (x5_1 + 1))) = some (r1, r2) := by first | (rw [hy166]; with_reducible exact H) | (have H2_ := (Option.bind_some _ _).symm.trans H; rw [hy166]; with_reducible exact H2_) | (have H2_ := (Option.bind_some _ _).symm.trans H; with_reducible exact H2_) | with_reducible exact H | (rw [hy166]; exact H) | exact H
          have Ny166 := Aside0.mk hy166
          clear hy166
          have H' := Aside0.mk H
          clear H
          obtain ⟨Ao6, co6, eo6⟩ := Kd.R_slice HO_0.out
          subst eo6
          have p5 : 0 ≤ (x5_1 : Int) := of_decide_eq_true (by first | (with_reducible assumption) | assumption)
          have q5 : (x5_1 : Int) < ((x0_1.length : Int) : Int) := of_decide_eq_true (by first | (with_reducible assumption) | assumption)
          obtain ⟨go5, co5, eo5, gb5, gl5, cl5, HG5⟩ := Kd.R_form HO_0.out (by omega)
          (first | cases eo5 | (injection eo5 with ea_ en_ ec_; (first | subst ea_ | (injection ea_ with ea_; subst ea_)); subst ec_; clear en_))
          have GB5 := Aside0.mk gb5
          have GG5 := Aside0.mk HG5
          clear gb5 gl5 HG5
          have HMgo5 := Aside0.mk (show (P0_ go5 ∨ w.heap.size ≤ go5) from (HO_0.out.1 _ rfl))
          obtain ⟨hx5_0, hf5_0⟩ := Kd.R_celln 0 HO_0.out (x5_1 : Int) p5 q5
          replace p5 := eq_true p5
          replace q5 := eq_true q5
          have HP7 := Kd.R_putg HO_0.out (x5_1 : Int) x1_1
          go_wp2_with (first | ((with_reducible refine gate_store (t := 3) (p := 15) rfl ?_); refine store_event (t := 3) (p := 15) (v := ?vo_w8) (w1 := (wr.setCell ⟨go5, (x5_1 : Int).toNat, none⟩ (.int .i64 x1_1))) ?hg ?ho ?hn ?hr ?_; (case ho => rfl); (case hg => rfl); (case hn => rfl); (case hr => first | (go_simp; done) | (go_simp; rfl)); intro w8 hw; have hg : wr.grownBy w8 (some go5) := (by rw [hw]; exact HP7.2); have hp_ : Kd.R (Kd.int .i64) 3 w8 w0.heap.size (fun k_ => (P0_ k_ ∨ w.heap.size ≤ k_)) (.slice (some ⟨go5, 0, none⟩) x0_1.length co6) y166 := (by rw [hw, Ny166.out]; exact HP7.1); clear HP7; have n0_ := Aside0.mk (hp_); have n1_ := Aside0.mk ((by rw [hw]; exact below_set (HB.out) GB5.out : Below w0.heap.size w0 w8)); have n2_ := Aside0.mk (Kept.of_grown (S := (fun k_ => P0_ k_)) hg (by repeat (first | (with_reducible first | exact HK.out | apply Kept.alloc | apply Kept.drewN | apply Kept.drew) | exact HK.out)) (fun k_ e_ => (HO_0.out.1 k_ e_))); clear HO_0; clear HB; clear HK; have HO_0 := n0_; have HB := n1_; have HK := n2_; clear n0_ n1_ n2_; clear hg hw hp_))
          go_roundg k1
          case measure => have := HK1.out; omega
          case rel => exact ⟨(y166), (wrap64 (x1_1 + 1)), (wrap64 (x5_1 + 1)), (by first | rfl | (simp; done) | (simp [*]; done)), (by first | rfl | (simp; done) | (simp [*]; done)), H', ⟨by have := HK1.out; omega⟩, ⟨by (with_reducible repeat (first | apply Kd.R_alloc | apply Kd.R_drewN | apply Kd.R_drew)); exact HO_0.out⟩, ⟨by repeat (first | (with_reducible first | exact HK.out | apply Kept.alloc | apply Kept.drewN | apply Kept.drew) | exact HK.out)⟩, ⟨by repeat (first | (with_reducible first | exact HB.out | apply below_alloc | apply pw_below_drewN | apply below_drew1) | exact HB.out)⟩⟩
        · rw [if_neg c4] at H
          exact absurd H (by simp)
      · rw [if_neg c3] at H
        have c3b0 : decide (x5_1 < (x0_1.length : Int)) = false := decide_eq_false c3
        clear c3
        simp only [Option.some.injEq, Prod.mk.injEq] at H
        obtain ⟨rfl, rfl⟩ := H
        obtain ⟨Ao9, co9, eo9⟩ := Kd.R_slice HO_0.out
        subst eo9
        go_wp2
        go_ret
        exact ⟨by first | rfl | (simp [errW_none, errW_some] <;> rfl) | (simp [*, errW_none, errW_some] <;> rfl), by (with_reducible repeat (first | apply Kd.R_alloc | apply Kd.R_drewN | apply Kd.R_drew)); exact HO_0.out, by repeat (first | (with_reducible first | exact HB.out | apply below_alloc | apply pw_below_drewN | apply below_drew1) | exact HB.out), by repeat (first | (with_reducible first | exact HK.out | apply Kept.alloc | apply Kept.drewN | apply Kept.drew) | exact HK.out)⟩

/-! ### laws_markIssuerS: function 74 -/
def laws_markIssuerS.l0 : Nat → List S107 → Int → Int → Option (Int × List S107)
  | 0, _, _, _ => none
  | k + 1, l, n, i => if i < (l.length : Int) then (laws_markIntS.f k (rd_T107 l i).f1 (wrap64 (n + 1))).bind fun r0 => laws_markIssuerS.l0 k (l.set i.toNat (⟨n, r0.2, r0.1⟩ : S107)) (wrap64 (r0.1 + 1)) (wrap64 (i + 1)) else some (n, l)
def laws_markIssuerS.f (k : Nat) (l0 : List S107) (a1 : Int) : Option (Int × List S107) := laws_markIssuerS.l0 k l0 a1 0
set_option maxHeartbeats 8000000 in
set_option maxRecDepth 100000 in
open Go.Proofs.YtineejdlpcgnkaaM in
theorem laws_markIssuerS.calls (k : Nat) (P0_ : Nat → Prop) (A0 : Option Addr) (n0 c0 : Nat) (l0 : List S107) (a1 : Int) (r1 : Int) (r2 : List S107) (w0 w : World) (hB : Below w0.heap.size w0 w) (ho0 : Kd.S k107 107 w w0.heap.size P0_ (.slice A0 n0 c0) l0) (h : laws_markIssuerS.f k l0 a1 = some (r1, r2)) :
    Calls Try.prog 74 #[.slice A0 n0 c0, .int .i64 a1] w fun e w' => e = .returned (.int .i64 r1) ∧ Kd.S k107 107 w' w0.heap.size P0_ (.slice A0 n0 c0) r2 ∧ Below w0.heap.size w0 w' ∧ Kept w w' P0_ := by
  have HS := Aside0.mk ho0
  have hN : Aside0 (n0 = l0.length) := ⟨(Kd.S_reads' ho0).1⟩
  have HLEN : Aside0 (n0 ≤ 9223372036854775807) := ⟨by have h_ := (Kd.S_reads' ho0).2.2.2.1; have := hN.out; omega⟩
  have HB := Aside0.mk hB
  have H' := Aside0.mk (show laws_markIssuerS.l0 k l0 a1 0 = some (r1, r2) from h)
  have HK := Aside0.mk (Kept.refl w P0_)
  clear h hB ho0
  have hu107 := Try.underlying107
  go_enter Try.func74, Try.ntmps74
  go_wp2
  go_loopg [1, 5] k (fun kq v1 v5 w' => ∃ (l : List S107) (n i : Int), v1 = .int .i64 n ∧ v5 = .int .i64 i ∧ Aside0 (laws_markIssuerS.l0 kq l n i = some (r1, r2)) ∧ Aside0 (0 ≤ i ∧ n0 = l.length) ∧ Aside0 (Kd.S k107 107 w' w0.heap.size P0_ (.slice A0 n0 c0) l) ∧ Aside0 (Below w0.heap.size w0 w') ∧ Aside0 (Kept w w' P0_))
  case atStart => exact ⟨l0, a1, 0, rfl, rfl, H', ⟨by omega, hN.out⟩, HS, HB, HK⟩
  case round =>
    clear H' HS HB HK hN
    obtain ⟨l, n, i, rfl, rfl, HA, HX, HS, HB, HK⟩ := hrel
    cases gk with
    | zero => exact absurd HA.out (by simp [laws_markIssuerS.l0])
    | succ k1 =>
      have H := HA.out
      clear HA
      simp only [laws_markIssuerS.l0] at H
      by_cases hlt : i < (l.length : Int)
      · rw [if_pos hlt] at H
        obtain ⟨r0, hm0, H⟩ := Option.bind_eq_some_iff.mp H
        have HM0 := Aside0.mk hm0
        have p1 : 0 ≤ i := HX.out.1
        have q1 : i < (n0 : Int) := by have := HX.out.2; omega
        have c1 : decide (i < (n0 : Int)) = true := decide_eq_true q1
        obtain ⟨go, co, eo, gb, gl, cl, HG⟩ := Kd.S_form HS.out (by have := HX.out.2; omega)
        cases eo
        obtain ⟨oki, ce, hcl, hM, hcc, hfr, hoki, hH⟩ := Kd.S_elem HS.out z107 i p1 q1
        obtain ⟨v1, rfl, g1⟩ := k107_openM hM
        obtain ⟨A1, c1, rfl⟩ := Kd.R_slice g1
        have HH := Aside0.mk hH
        have HO := Aside0.mk hoki
        have H' := Aside0.mk H
        have GB := Aside0.mk gb
        have HGO : Aside0 (P0_ go ∨ w.heap.size ≤ go) := ⟨.inl ((Kd.S_R HS.out).1 go rfl)⟩
        have HP := Aside0.mk p1
        have HQ := Aside0.mk q1
        have hx0 : wr.cell? ⟨go, i.toNat * 3, none⟩ = some (.int .i64 ((rd_T107 l i).f0)) := hcc 0 _ rfl
        have hf0 : wr.frozen? ⟨go, i.toNat * 3, none⟩ = false := hfr 0
        have hx1 : wr.cell? ⟨go, i.toNat * 3 + 1, none⟩ = some (.slice A1 (rd_T107 l i).f1.length c1) := hcc 1 _ rfl
        have hf1 : wr.frozen? ⟨go, i.toNat * 3 + 1, none⟩ = false := hfr 1
        have G1 : Aside0 (Kd.R (Kd.int .i64) 3 wr w0.heap.size oki (.slice A1 (rd_T107 l i).f1.length c1) (rd_T107 l i).f1) := ⟨g1⟩
        clear hm0 H hM hcc hfr hcl hH HG gb gl hlt hoki g1
        replace p1 := eq_true p1
        replace q1 := eq_true q1
        go_wp2_with fail
        refine (laws_markIntS.calls k1 oki _ _ _ r0.1 r0.2 w0 _ (below_set (HB.out) GB.out) (Kd.R_far (p := ⟨go, i.toNat * 3, none⟩) (G1.out) (fun k_ h_ => (HO.out k_ h_).2) (.int .i64 (n))) HM0.out).mono ?_
        rintro e w1 ⟨rfl, h4, hb4, hk4⟩
        have H5_1 := Aside0.mk (Kd.R_reok (ok := oki) rfl h4 (fun k_ e_ => G1.out.1 k_ e_))
        have HH1 := Aside0.mk (H_call (H_cell (HH.out) HP.out HQ.out 0 (.int .i64 (n)) (by decide) rfl rfl) hk4)
        have HK1 : Aside0 (Kept w w1 P0_) := ⟨Kept.then_ (Kept.setCell (HK.out) HGO.out _) hk4 (fun k_ h_ => .inl (HO.out k_ h_).1)⟩
        have HB1 := Aside0.mk hb4
        clear h4 hb4 hk4 hx0 hf0 hx1 hf1
        have hx2 : w1.cell? ⟨go, i.toNat * 3 + 2, none⟩ = some (.int .i64 ((rd_T107 l i).f2)) := H_cells HH1.out HP.out HQ.out 2 rfl
        have hf2 : w1.frozen? ⟨go, i.toNat * 3 + 2, none⟩ = false := H_fr HH1.out HP.out HQ.out 2
        go_wp2
        have he : wrap64 (i + 1) = i + 1 := Go.Proofs.YtineejdlpcgnkaaH.wrap_up HP.out HQ.out HLEN.out
        go_roundg k1
        case measure => omega
        case rel =>
          refine ⟨_, _, _, rfl, rfl, H', ⟨by have := HP.out; omega, by rw [List.length_set]⟩, ⟨?_⟩, ⟨below_set (HB1.out) GB.out⟩, ⟨Kept.setCell (HK1.out) HGO.out _⟩⟩
          exact Kd.H_back (H_cell (HH1.out) HP.out HQ.out 2 (.int .i64 (r0.1)) (by decide) rfl rfl) (k107_mkM _ _ oki (⟨n, r0.2, r0.1⟩ : S107) (Kd.R_far (p := ⟨go, i.toNat * 3 + 2, none⟩) (H5_1.out) (fun k_ h_ => (HO.out k_ h_).2) (.int .i64 (r0.1)))) (fun _ h_ => h_)
      · rw [if_neg hlt] at H
        simp only [Option.some.injEq, Prod.mk.injEq] at H
        obtain ⟨rfl, rfl⟩ := H
        have q1 : ¬ i < (n0 : Int) := by have := HX.out.2; omega
        have c1 : decide (i < (n0 : Int)) = false := decide_eq_false q1
        clear q1 hlt
        go_wp2
        go_ret
        exact ⟨rfl, HS.out, HB.out, HK.out⟩

end Go.Proofs.Ytineejdlpcgnkaa.QFnExactNewCenter
