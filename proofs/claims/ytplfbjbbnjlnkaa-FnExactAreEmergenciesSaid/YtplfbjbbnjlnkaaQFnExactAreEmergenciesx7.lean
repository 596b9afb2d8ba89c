/- The machine side of FnExactAreEmergencies: what each function that it reaches computes, and that the machine's call gives just that. -/
import Derived.Test.YtplfbjbbnjlnkaaQFnExactAreEmergenciesx0
import Derived.Test.YtplfbjbbnjlnkaaQFnExactAreEmergenciesx6
namespace Go.Proofs.Ytplfbjbbnjlnkaa.QFnExactAreEmergencies
open Go.RowKit Go.Proofs.YtplfbjbbnjlnkaaW.PrintWords Go.Proofs.YtplfbjbbnjlnkaaW.PrintLast Go.Proofs.YtplfbjbbnjlnkaaW.PrintMore
attribute [local go_sem] max2_int min2_int max_two min_two max_three min_three max_four min_four   -- for this text's walks alone
set_option linter.unusedVariables false
set_option linter.unusedSimpArgs false

/-! ### laws_eqEmergencyS: function 46 -/
def laws_eqEmergencyS.l0 : Nat → List S144 → List S144 → Int → Option Bool
  | 0, _, _, _ => none
  | k + 1, l, m, i => if i < (l.length : Int) then (if 0 ≤ i then (if i < (m.length : Int) then (laws_eqEmergency.f k (rd_T144 l i).f0 (rd_T144 l i).f1 (rd_T144 l i).f2 (rd_T144 l i).f3 (rd_T144 l i).f4 (rd_T144 l i).f5 (rd_T144 m i).f0 (rd_T144 m i).f1 (rd_T144 m i).f2 (rd_T144 m i).f3 (rd_T144 m i).f4 (rd_T144 m i).f5).bind fun t => (if t = true then laws_eqEmergencyS.l0 k l m (wrap64 (i + 1)) else some false) else none) else none) else some true
def laws_eqEmergencyS.f (k : Nat) (l0 : List S144) (l1 : List S144) : Option Bool := if (l0.length : Int) = (l1.length : Int) then laws_eqEmergencyS.l0 k l0 l1 0 else some false
set_option maxHeartbeats 8000000 in
set_option maxRecDepth 100000 in
theorem laws_eqEmergencyS.calls (k : Nat) (A0 : Option Addr) (c0 : Nat) (l0 : List S144) (A1 : Option Addr) (c1 : Nat) (l1 : List S144) (r : Bool) (w : World) (hr0 : Kd.C k144 w A0 l0.length l0) (hc0 : l0.length ≤ c0) (hr1 : Kd.C k144 w A1 l1.length l1) (hc1 : l1.length ≤ c1) (h : laws_eqEmergencyS.f k l0 l1 = some r) :
    Calls Try.prog 46 #[.slice A0 l0.length c0, .slice A1 l1.length c1] w fun e w' => e = .returned (.bool r) ∧ Below w.heap.size w w' := by
  have HR0 := Aside0.mk hr0
  have HR1 := Aside0.mk hr1
  unfold laws_eqEmergencyS.f at h
  have hu144 := Try.underlying144
  by_cases hl : (l0.length : Int) = (l1.length : Int)
  case neg =>
    rw [if_neg hl] at h
    obtain rfl := Option.some.inj h
    have c1b : ((l0.length : Int) == (l1.length : Int)) = false := beq_eq_false_iff_ne.mpr hl
    have c2b : ((l0.length : Int) != (l1.length : Int)) = true := bne_iff_ne.mpr hl
    clear hr0 hc0 hr1 hc1 h hl
    go_enter Try.func46, Try.ntmps46
    go_wp2
    go_ret
    exact ⟨rfl, Below.refl _ _⟩
  rw [if_pos hl] at h
  have c1b : ((l0.length : Int) == (l1.length : Int)) = true := beq_iff_eq.mpr hl
  have c2b : ((l0.length : Int) != (l1.length : Int)) = false := bne_eq_false_iff_eq.mpr hl
  have H' := Aside0.mk h
  clear hr0 hc0 hr1 hc1 h hl
  go_enter Try.func46, Try.ntmps46
  go_wp2
  go_loopg [5] k (fun kq v5 w' => ∃ i : Int, v5 = .int .i64 i ∧ Aside0 (laws_eqEmergencyS.l0 kq l0 l1 i = some r) ∧ Aside0 (Below w.heap.size w w'))
  case atStart => exact ⟨0, rfl, H', ⟨Below.refl _ _⟩⟩
  case round =>
    clear H' c1b c2b
    obtain ⟨i, rfl, HA, HB⟩ := hrel
    cases gk with
    | zero => exact absurd HA.out (by simp [laws_eqEmergencyS.l0])
    | succ k1 =>
      have H := HA.out
      clear HA
      simp only [laws_eqEmergencyS.l0] at H
      by_cases q1 : i < (l0.length : Int)
      case neg =>
        rw [if_neg q1] at H
        obtain rfl := Option.some.inj H
        have c3 : decide (i < (l0.length : Int)) = false := decide_eq_false q1
        clear q1 H
        go_wp2
        go_ret
        exact ⟨rfl, HB.out⟩
      rw [if_pos q1] at H
      by_cases p1 : 0 ≤ i
      case neg => rw [if_neg p1] at H; exact absurd H (by simp)
      rw [if_pos p1] at H
      by_cases q2 : i < (l1.length : Int)
      case neg => rw [if_neg q2] at H; exact absurd H (by simp)
      rw [if_pos q2] at H
      replace H := Option.bind_eq_some_iff.mp H
      obtain ⟨t, ht, H⟩ := H
      have c3 : decide (i < (l0.length : Int)) = true := decide_eq_true q1
      obtain ⟨ada, E4, d4, ea, ha0, ha1, ha2, ha3, ha4, ha5, la4, ga4⟩ := at_T144 (Kd.C_below HR0.out HB.out) i p1 q1
      obtain ⟨adb, G4, h4, eb, hb0, hb1, hb2, hb3, hb4, hb5, lb4, gb4⟩ := at_T144 (Kd.C_below HR1.out HB.out) i p1 q2
      cases ea
      cases eb
      have ht_ := ht
      have H' := Aside0.mk H
      replace p1 := eq_true p1
      replace q1 := eq_true q1
      replace q2 := eq_true q2
      clear H ht
      go_wp2
      have HT := Aside0.mk ht_
      have la4 := Aside0.mk la4; have ga4 := Aside0.mk (Kd.C_below ga4 (below_drew1 (Below.refl wr.heap.size wr)))
      have lb4 := Aside0.mk lb4; have gb4 := Aside0.mk (Kd.C_below gb4 (below_drew1 (Below.refl wr.heap.size wr)))
      have hB_ := below_drew1 HB.out
      clear HB
      have HB := Aside0.mk hB_
      clear hB_
      refine start_ (n := 10) (S := fun w' => w'.cell? (ada.add (i.toNat * 6)) = some (.int .i64 ((rd_T144 l0 i).f0)) ∧ w'.cell? ⟨(ada.add (i.toNat * 6)).block, (ada.add (i.toNat * 6)).off + 1, none⟩ = some (.int .i64 ((rd_T144 l0 i).f1)) ∧ w'.cell? ⟨(ada.add (i.toNat * 6)).block, (ada.add (i.toNat * 6)).off + 2, none⟩ = some (.int .i64 ((rd_T144 l0 i).f2)) ∧ w'.cell? ⟨(ada.add (i.toNat * 6)).block, (ada.add (i.toNat * 6)).off + 3, none⟩ = some (.int .i64 ((rd_T144 l0 i).f3)) ∧ w'.cell? ⟨(ada.add (i.toNat * 6)).block, (ada.add (i.toNat * 6)).off + 4, none⟩ = some (.slice E4 (rd_T144 l0 i).f4.length d4) ∧ w'.cell? ⟨(ada.add (i.toNat * 6)).block, (ada.add (i.toNat * 6)).off + 5, none⟩ = some (.bool ((rd_T144 l0 i).f5)) ∧ w'.cell? (adb.add (i.toNat * 6)) = some (.int .i64 ((rd_T144 l1 i).f0)) ∧ w'.cell? ⟨(adb.add (i.toNat * 6)).block, (adb.add (i.toNat * 6)).off + 1, none⟩ = some (.int .i64 ((rd_T144 l1 i).f1)) ∧ w'.cell? ⟨(adb.add (i.toNat * 6)).block, (adb.add (i.toNat * 6)).off + 2, none⟩ = some (.int .i64 ((rd_T144 l1 i).f2)) ∧ w'.cell? ⟨(adb.add (i.toNat * 6)).block, (adb.add (i.toNat * 6)).off + 3, none⟩ = some (.int .i64 ((rd_T144 l1 i).f3)) ∧ w'.cell? ⟨(adb.add (i.toNat * 6)).block, (adb.add (i.toNat * 6)).off + 4, none⟩ = some (.slice G4 (rd_T144 l1 i).f4.length h4) ∧ w'.cell? ⟨(adb.add (i.toNat * 6)).block, (adb.add (i.toNat * 6)).off + 5, none⟩ = some (.bool ((rd_T144 l1 i).f5))) (ds := []) #[false, false, false, false, false, false, false, false, false, false] (by kernel_rfl) rfl rfl ⟨ha0, ha1, ha2, ha3, ha4, ha5, hb0, hb1, hb2, hb3, hb4, hb5⟩ (fun hHeld => ?_)
      clear ha0 ha1 ha2 ha3 ha4 ha5 hb0 hb1 hb2 hb3 hb4 hb5
      generalize wr.drew = wd at HB ga4 gb4 hHeld ⊢
      refine pure_ (i := 0) (N := some 17) (v := ?_) (a' := ?_) #[true, false, false, false, false, false, false, false, false, false] rfl rfl (by kernel_rfl) (fun _ _ _ h => h) (Or.inl ⟨by rfl, ?_⟩) ?_ ?_
      rotate_left
      · intro w'
        go_simp
        with_reducible rfl
      rotate_left
      · simp only [Act.put, List.setIfInBounds_toArray, List.set_cons_zero, List.set_cons_succ, i64_w, i32_w]
        rfl
      refine pure_ (i := 1) (N := some 18) (v := ?_) (a' := ?_) #[true, true, false, false, false, false, false, false, false, false] rfl rfl (by kernel_rfl) (fun _ _ _ h => h) (Or.inl ⟨by rfl, ?_⟩) ?_ ?_
      rotate_left
      · intro w'
        go_simp
        with_reducible rfl
      rotate_left
      · simp only [Act.put, List.setIfInBounds_toArray, List.set_cons_zero, List.set_cons_succ, i64_w, i32_w]
        rfl
      refine pure_ (i := 2) (N := some 19) (v := ?_) (a' := ?_) #[true, true, true, false, false, false, false, false, false, false] rfl rfl (by kernel_rfl) (fun _ _ _ h => h) (Or.inl ⟨by rfl, ?_⟩) ?_ ?_
      rotate_left
      · intro w'
        go_simp
        with_reducible rfl
      rotate_left
      · simp only [Act.put, List.setIfInBounds_toArray, List.set_cons_zero, List.set_cons_succ, i64_w, i32_w]
        rfl
      refine pure_ (i := 4) (N := some 21) (v := ?_) (a' := ?_) #[true, true, true, false, true, false, false, false, false, false] rfl rfl (by kernel_rfl) (fun _ _ _ h => h) (Or.inl ⟨by rfl, ?_⟩) ?_ ?_
      rotate_left
      · intro w'
        go_simp
        with_reducible rfl
      rotate_left
      · simp only [Act.put, List.setIfInBounds_toArray, List.set_cons_zero, List.set_cons_succ, i64_w, i32_w]
        rfl
      refine pure_ (i := 5) (N := some 22) (v := ?_) (a' := ?_) #[true, true, true, false, true, true, false, false, false, false] rfl rfl (by kernel_rfl) (fun _ _ _ h => h) (Or.inl ⟨by rfl, ?_⟩) ?_ ?_
      rotate_left
      · intro w'
        go_simp
        with_reducible rfl
      rotate_left
      · simp only [Act.put, List.setIfInBounds_toArray, List.set_cons_zero, List.set_cons_succ, i64_w, i32_w]
        rfl
      refine pure_ (i := 6) (N := some 23) (v := ?_) (a' := ?_) #[true, true, true, false, true, true, true, false, false, false] rfl rfl (by kernel_rfl) (fun _ _ _ h => h) (Or.inl ⟨by rfl, ?_⟩) ?_ ?_
      rotate_left
      · intro w'
        go_simp
        with_reducible rfl
      rotate_left
      · simp only [Act.put, List.setIfInBounds_toArray, List.set_cons_zero, List.set_cons_succ, i64_w, i32_w]
        rfl
      refine take_ (i := 3) (N := some 20) (v := ?_) (a' := ?_) #[true, true, true, true, true, true, true, false, false, false] rfl rfl (by kernel_rfl) (fun _ _ _ h => h) (Or.inl ⟨by rfl, ?_⟩) hHeld ?_ ?_
      rotate_left
      · rintro w' ⟨s0, s1, s2, s3, s4, s5, s6, s7, s8, s9, s10, s11⟩
        go_simp
        with_reducible rfl
      rotate_left
      · simp only [Act.put, List.setIfInBounds_toArray, List.set_cons_zero, List.set_cons_succ, i64_w, i32_w]
        rfl
      refine take_ (i := 7) (N := some 24) (v := ?_) (a' := ?_) #[true, true, true, true, true, true, true, true, false, false] rfl rfl (by kernel_rfl) (fun _ _ _ h => h) (Or.inl ⟨by rfl, ?_⟩) hHeld ?_ ?_
      rotate_left
      · rintro w' ⟨s0, s1, s2, s3, s4, s5, s6, s7, s8, s9, s10, s11⟩
        go_simp
        with_reducible rfl
      rotate_left
      · simp only [Act.put, List.setIfInBounds_toArray, List.set_cons_zero, List.set_cons_succ, i64_w, i32_w]
        rfl
      refine one_ (i := 8) (N := some 25) #[true, true, true, true, true, true, true, true, true, false] rfl rfl (by kernel_rfl) (by decide) (fun K hK => ?_)
      have hcall := laws_eqEmergency.calls k1 (rd_T144 l0 i).f0 (rd_T144 l0 i).f1 (rd_T144 l0 i).f2 (rd_T144 l0 i).f3 _ _ (rd_T144 l0 i).f4 (rd_T144 l0 i).f5 (rd_T144 l1 i).f0 (rd_T144 l1 i).f1 (rd_T144 l1 i).f2 (rd_T144 l1 i).f3 _ _ (rd_T144 l1 i).f4 (rd_T144 l1 i).f5 t wd ga4.out la4.out gb4.out lb4.out HT.out
      refine goes_ Try.func112 (by kernel_rfl) rfl #[.agg #[.int .i64 ((rd_T144 l0 i).f0), .int .i64 ((rd_T144 l0 i).f1), .int .i64 ((rd_T144 l0 i).f2), .int .i64 ((rd_T144 l0 i).f3), .slice E4 (rd_T144 l0 i).f4.length d4, .bool ((rd_T144 l0 i).f5)], .agg #[.int .i64 ((rd_T144 l1 i).f0), .int .i64 ((rd_T144 l1 i).f1), .int .i64 ((rd_T144 l1 i).f2), .int .i64 ((rd_T144 l1 i).f3), .slice G4 (rd_T144 l1 i).f4.length h4, .bool ((rd_T144 l1 i).f5)]] (by rfl) rfl rfl (by (try simp only [List.map_toArray, List.map_cons, List.map_nil]); first | done | rfl) ?_
      refine hcall.mono ?_
      rintro e w2 ⟨rfl, hd⟩
      refine ⟨_, rfl, ?_⟩
      clear hcall
      have HB2 := Aside0.mk (below_step HB.out hd)
      have hd2 := hd
      clear hd
      refine hK.out _ _ ⟨pw_cell_below hd2 (hHeld.1), pw_cell_below hd2 (hHeld.2.1), pw_cell_below hd2 (hHeld.2.2.1), pw_cell_below hd2 (hHeld.2.2.2.1), pw_cell_below hd2 (hHeld.2.2.2.2.1), pw_cell_below hd2 (hHeld.2.2.2.2.2.1), pw_cell_below hd2 (hHeld.2.2.2.2.2.2.1), pw_cell_below hd2 (hHeld.2.2.2.2.2.2.2.1), pw_cell_below hd2 (hHeld.2.2.2.2.2.2.2.2.1), pw_cell_below hd2 (hHeld.2.2.2.2.2.2.2.2.2.1), pw_cell_below hd2 (hHeld.2.2.2.2.2.2.2.2.2.2.1), pw_cell_below hd2 (hHeld.2.2.2.2.2.2.2.2.2.2.2)⟩ (fun hHeld => ?_)
      clear hK K
      refine norm_ (a' := ?_) ?_ ?_
      rotate_left
      · show Act.put _ (some 25) _ = _
        simp only [Act.put, List.setIfInBounds_toArray, List.set_cons_zero, List.set_cons_succ, i64_w, i32_w]
        rfl
      refine pure_ (i := 9) (N := some 26) (v := ?_) (a' := ?_) #[true, true, true, true, true, true, true, true, true, true] rfl rfl (by kernel_rfl) (fun _ _ _ h => h) (Or.inl ⟨by rfl, ?_⟩) ?_ ?_
      rotate_left
      · intro w'
        go_simp
        with_reducible rfl
      rotate_left
      · simp only [Act.put, List.setIfInBounds_toArray, List.set_cons_zero, List.set_cons_succ, i64_w, i32_w]
        rfl
      refine done_ (by kernel_rfl) ?_
      clear hHeld hd2
      have H := H'.out
      clear H'
      cases t with
      | false =>
        rw [if_neg (by simp)] at H
        obtain rfl := Option.some.inj H
        clear H
        go_wp2
        go_ret
        exact ⟨rfl, HB2.out⟩
      | true =>
        rw [if_pos rfl] at H
        have H' := Aside0.mk H
        clear H
        go_wp2
        go_roundg k1
        case measure => omega
        case rel => exact ⟨_, rfl, H', HB2⟩

end Go.Proofs.Ytplfbjbbnjlnkaa.QFnExactAreEmergencies
