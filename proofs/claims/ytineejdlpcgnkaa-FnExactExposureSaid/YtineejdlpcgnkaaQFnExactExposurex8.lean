/- The machine side of FnExactExposure: what each function that it reaches computes, and that the machine's call gives just that. -/
import Derived.Test.YtineejdlpcgnkaaQFnExactExposurex0
import Derived.Test.YtineejdlpcgnkaaQFnExactExposurex5
import Derived.Test.YtineejdlpcgnkaaQFnExactExposurex6
import Derived.Test.YtineejdlpcgnkaaQFnExactExposurex7
namespace Go.Proofs.Ytineejdlpcgnkaa.QFnExactExposure
open Go.RowKit Go.Proofs.YtineejdlpcgnkaaW.PrintWords Go.Proofs.YtineejdlpcgnkaaW.PrintLast Go.Proofs.YtineejdlpcgnkaaW.PrintMore
attribute [local go_sem] max2_int min2_int max_two min_two max_three min_three max_four min_four   -- for this text's walks alone
set_option linter.unusedVariables false
set_option linter.unusedSimpArgs false

/-! ### laws_eqEpochS: function 72 -/
def laws_eqEpochS.l0 : Nat → List S40 → List S40 → Int → Option Bool
  | 0, _, _, _ => none
  | k + 1, l, m, i => if i < (l.length : Int) then (if 0 ≤ i then (if i < (m.length : Int) then (laws_eqEpoch.f k (rd_T40 l i).f0 (rd_T40 l i).f1 (rd_T40 l i).f2 (rd_T40 l i).f3.f0 (rd_T40 l i).f3.f1 (rd_T40 m i).f0 (rd_T40 m i).f1 (rd_T40 m i).f2 (rd_T40 m i).f3.f0 (rd_T40 m i).f3.f1).bind fun t => (if t = true then laws_eqEpochS.l0 k l m (wrap64 (i + 1)) else some false) else none) else none) else some true
def laws_eqEpochS.f (k : Nat) (l0 : List S40) (l1 : List S40) : Option Bool := if (l0.length : Int) = (l1.length : Int) then laws_eqEpochS.l0 k l0 l1 0 else some false
set_option maxHeartbeats 8000000 in
set_option maxRecDepth 100000 in
theorem laws_eqEpochS.calls (k : Nat) (A0 : Option Addr) (c0 : Nat) (l0 : List S40) (A1 : Option Addr) (c1 : Nat) (l1 : List S40) (r : Bool) (w : World) (hr0 : Kd.C k40 w A0 l0.length l0) (hc0 : l0.length ≤ c0) (hr1 : Kd.C k40 w A1 l1.length l1) (hc1 : l1.length ≤ c1) (h : laws_eqEpochS.f k l0 l1 = some r) :
    Calls Try.prog 72 #[.slice A0 l0.length c0, .slice A1 l1.length c1] w fun e w' => e = .returned (.bool r) ∧ Below w.heap.size w w' := by
  have HR0 := Aside0.mk hr0
  have HR1 := Aside0.mk hr1
  unfold laws_eqEpochS.f at h
  have hu40 := Try.underlying40
  by_cases hl : (l0.length : Int) = (l1.length : Int)
  case neg =>
    rw [if_neg hl] at h
    obtain rfl := Option.some.inj h
    have c1b : ((l0.length : Int) == (l1.length : Int)) = false := beq_eq_false_iff_ne.mpr hl
    have c2b : ((l0.length : Int) != (l1.length : Int)) = true := bne_iff_ne.mpr hl
    clear hr0 hc0 hr1 hc1 h hl
    go_enter Try.func72, Try.ntmps72
    go_wp2
    go_ret
    exact ⟨rfl, Below.refl _ _⟩
  rw [if_pos hl] at h
  have c1b : ((l0.length : Int) == (l1.length : Int)) = true := beq_iff_eq.mpr hl
  have c2b : ((l0.length : Int) != (l1.length : Int)) = false := bne_eq_false_iff_eq.mpr hl
  have H' := Aside0.mk h
  clear hr0 hc0 hr1 hc1 h hl
  go_enter Try.func72, Try.ntmps72
  go_wp2
  go_loopg [5] k (fun kq v5 w' => ∃ i : Int, v5 = .int .i64 i ∧ Aside0 (laws_eqEpochS.l0 kq l0 l1 i = some r) ∧ Aside0 (Below w.heap.size w w'))
  case atStart => exact ⟨0, rfl, H', ⟨Below.refl _ _⟩⟩
  case round =>
    clear H' c1b c2b
    obtain ⟨i, rfl, HA, HB⟩ := hrel
    cases gk with
    | zero => exact absurd HA.out (by simp [laws_eqEpochS.l0])
    | succ k1 =>
      have H := HA.out
      clear HA
      simp only [laws_eqEpochS.l0] at H
      by_cases q1 : i < (l0.length : Int)
      case neg =>
        rw [if_neg q1] at H
        obtain rfl := Option.some.inj H
        have c3 : decide (i < (l0.length : Int)) = false := decide_eq_false q1
        clear q1 H
        go_wp2
        go_ret
        exact ⟨rfl, HB.out⟩
      rw [if_pos q1] at H
      by_cases p1 : 0 ≤ i
      case neg => rw [if_neg p1] at H; exact absurd H (by simp)
      rw [if_pos p1] at H
      by_cases q2 : i < (l1.length : Int)
      case neg => rw [if_neg q2] at H; exact absurd H (by simp)
      rw [if_pos q2] at H
      replace H := Option.bind_eq_some_iff.mp H
      obtain ⟨t, ht, H⟩ := H
      have c3 : decide (i < (l0.length : Int)) = true := decide_eq_true q1
      obtain ⟨ada, E2, d2, E4, d4, ea, ha0, ha1, ha2, ha3, ha4, la2, ga2, la4, ga4⟩ := at_T40 (Kd.C_below HR0.out HB.out) i p1 q1
      obtain ⟨adb, G2, h2, G4, h4, eb, hb0, hb1, hb2, hb3, hb4, lb2, gb2, lb4, gb4⟩ := at_T40 (Kd.C_below HR1.out HB.out) i p1 q2
      cases ea
      cases eb
      have ht_ := ht
      have H' := Aside0.mk H
      replace p1 := eq_true p1
      replace q1 := eq_true q1
      replace q2 := eq_true q2
      clear H ht
      go_wp2
      have HT := Aside0.mk ht_
      have la2 := Aside0.mk la2; have ga2 := Aside0.mk (Kd.C_below ga2 (below_drew1 (Below.refl wr.heap.size wr)))
      have la4 := Aside0.mk la4; have ga4 := Aside0.mk (Kd.C_below ga4 (below_drew1 (Below.refl wr.heap.size wr)))
      have lb2 := Aside0.mk lb2; have gb2 := Aside0.mk (Kd.C_below gb2 (below_drew1 (Below.refl wr.heap.size wr)))
      have lb4 := Aside0.mk lb4; have gb4 := Aside0.mk (Kd.C_below gb4 (below_drew1 (Below.refl wr.heap.size wr)))
      have hB_ := below_drew1 HB.out
      clear HB
      have HB := Aside0.mk hB_
      clear hB_
      refine start_ (n := 10) (S := fun w' => w'.cell? (ada.add (i.toNat * 5)) = some (.int .i64 ((rd_T40 l0 i).f0)) ∧ w'.cell? ⟨(ada.add (i.toNat * 5)).block, (ada.add (i.toNat * 5)).off + 1, none⟩ = some (.int .i64 ((rd_T40 l0 i).f1)) ∧ w'.cell? ⟨(ada.add (i.toNat * 5)).block, (ada.add (i.toNat * 5)).off + 2, none⟩ = some (.slice E2 (rd_T40 l0 i).f2.length d2) ∧ w'.cell? ⟨(ada.add (i.toNat * 5)).block, (ada.add (i.toNat * 5)).off + 3, none⟩ = some (.int .i64 ((rd_T40 l0 i).f3.f0)) ∧ w'.cell? ⟨(ada.add (i.toNat * 5)).block, (ada.add (i.toNat * 5)).off + 4, none⟩ = some (.slice E4 (rd_T40 l0 i).f3.f1.length d4) ∧ w'.cell? (adb.add (i.toNat * 5)) = some (.int .i64 ((rd_T40 l1 i).f0)) ∧ w'.cell? ⟨(adb.add (i.toNat * 5)).block, (adb.add (i.toNat * 5)).off + 1, none⟩ = some (.int .i64 ((rd_T40 l1 i).f1)) ∧ w'.cell? ⟨(adb.add (i.toNat * 5)).block, (adb.add (i.toNat * 5)).off + 2, none⟩ = some (.slice G2 (rd_T40 l1 i).f2.length h2) ∧ w'.cell? ⟨(adb.add (i.toNat * 5)).block, (adb.add (i.toNat * 5)).off + 3, none⟩ = some (.int .i64 ((rd_T40 l1 i).f3.f0)) ∧ w'.cell? ⟨(adb.add (i.toNat * 5)).block, (adb.add (i.toNat * 5)).off + 4, none⟩ = some (.slice G4 (rd_T40 l1 i).f3.f1.length h4)) (ds := []) #[false, false, false, false, false, false, false, false, false, false] (by kernel_rfl) rfl rfl ⟨ha0, ha1, ha2, ha3, ha4, hb0, hb1, hb2, hb3, hb4⟩ (fun hHeld => ?_)
      clear ha0 ha1 ha2 ha3 ha4 hb0 hb1 hb2 hb3 hb4
      generalize wr.drew = wd at HB ga2 ga4 gb2 gb4 hHeld ⊢
      refine pure_ (i := 0) (N := some 17) (v := ?_) (a' := ?_) #[true, false, false, false, false, false, false, false, false, false] rfl rfl (by kernel_rfl) (fun _ _ _ h => h) (Or.inl ⟨by rfl, ?_⟩) ?_ ?_
      rotate_left
      · intro w'
        go_simp
        with_reducible rfl
      rotate_left
      · simp only [Act.put, List.setIfInBounds_toArray, List.set_cons_zero, List.set_cons_succ, i64_w, i32_w]
        rfl
      refine pure_ (i := 1) (N := some 18) (v := ?_) (a' := ?_) #[true, true, false, false, false, false, false, false, false, false] rfl rfl (by kernel_rfl) (fun _ _ _ h => h) (Or.inl ⟨by rfl, ?_⟩) ?_ ?_
      rotate_left
      · intro w'
        go_simp
        with_reducible rfl
      rotate_left
      · simp only [Act.put, List.setIfInBounds_toArray, List.set_cons_zero, List.set_cons_succ, i64_w, i32_w]
        rfl
      refine pure_ (i := 2) (N := some 19) (v := ?_) (a' := ?_) #[true, true, true, false, false, false, false, false, false, false] rfl rfl (by kernel_rfl) (fun _ _ _ h => h) (Or.inl ⟨by rfl, ?_⟩) ?_ ?_
      rotate_left
      · intro w'
        go_simp
        with_reducible rfl
      rotate_left
      · simp only [Act.put, List.setIfInBounds_toArray, List.set_cons_zero, List.set_cons_succ, i64_w, i32_w]
        rfl
      refine pure_ (i := 4) (N := some 21) (v := ?_) (a' := ?_) #[true, true, true, false, true, false, false, false, false, false] rfl rfl (by kernel_rfl) (fun _ _ _ h => h) (Or.inl ⟨by rfl, ?_⟩) ?_ ?_
      rotate_left
      · intro w'
        go_simp
        with_reducible rfl
      rotate_left
      · simp only [Act.put, List.setIfInBounds_toArray, List.set_cons_zero, List.set_cons_succ, i64_w, i32_w]
        rfl
      refine pure_ (i := 5) (N := some 22) (v := ?_) (a' := ?_) #[true, true, true, false, true, true, false, false, false, false] rfl rfl (by kernel_rfl) (fun _ _ _ h => h) (Or.inl ⟨by rfl, ?_⟩) ?_ ?_
      rotate_left
      · intro w'
        go_simp
        with_reducible rfl
      rotate_left
      · simp only [Act.put, List.setIfInBounds_toArray, List.set_cons_zero, List.set_cons_succ, i64_w, i32_w]
        rfl
      refine pure_ (i := 6) (N := some 23) (v := ?_) (a' := ?_) #[true, true, true, false, true, true, true, false, false, false] rfl rfl (by kernel_rfl) (fun _ _ _ h => h) (Or.inl ⟨by rfl, ?_⟩) ?_ ?_
      rotate_left
      · intro w'
        go_simp
        with_reducible rfl
      rotate_left
      · simp only [Act.put, List.setIfInBounds_toArray, List.set_cons_zero, List.set_cons_succ, i64_w, i32_w]
        rfl
      refine take_ (i := 3) (N := some 20) (v := ?_) (a' := ?_) #[true, true, true, true, true, true, true, false, false, false] rfl rfl (by kernel_rfl) (fun _ _ _ h => h) (Or.inl ⟨by rfl, ?_⟩) hHeld ?_ ?_
      rotate_left
      · rintro w' ⟨s0, s1, s2, s3, s4, s5, s6, s7, s8, s9⟩
        go_simp
        with_reducible rfl
      rotate_left
      · simp only [Act.put, List.setIfInBounds_toArray, List.set_cons_zero, List.set_cons_succ, i64_w, i32_w]
        rfl
      refine take_ (i := 7) (N := some 24) (v := ?_) (a' := ?_) #[true, true, true, true, true, true, true, true, false, false] rfl rfl (by kernel_rfl) (fun _ _ _ h => h) (Or.inl ⟨by rfl, ?_⟩) hHeld ?_ ?_
      rotate_left
      · rintro w' ⟨s0, s1, s2, s3, s4, s5, s6, s7, s8, s9⟩
        go_simp
        with_reducible rfl
      rotate_left
      · simp only [Act.put, List.setIfInBounds_toArray, List.set_cons_zero, List.set_cons_succ, i64_w, i32_w]
        rfl
      refine one_ (i := 8) (N := some 25) #[true, true, true, true, true, true, true, true, true, false] rfl rfl (by kernel_rfl) (by decide) (fun K hK => ?_)
      have hcall := laws_eqEpoch.calls k1 (rd_T40 l0 i).f0 (rd_T40 l0 i).f1 _ _ (rd_T40 l0 i).f2 (rd_T40 l0 i).f3.f0 _ _ (rd_T40 l0 i).f3.f1 (rd_T40 l1 i).f0 (rd_T40 l1 i).f1 _ _ (rd_T40 l1 i).f2 (rd_T40 l1 i).f3.f0 _ _ (rd_T40 l1 i).f3.f1 t wd ga2.out la2.out ga4.out la4.out gb2.out lb2.out gb4.out lb4.out HT.out
      refine goes_ Try.func50 (by kernel_rfl) rfl #[.agg #[.int .i64 ((rd_T40 l0 i).f0), .int .i64 ((rd_T40 l0 i).f1), .slice E2 (rd_T40 l0 i).f2.length d2, .int .i64 ((rd_T40 l0 i).f3.f0), .slice E4 (rd_T40 l0 i).f3.f1.length d4], .agg #[.int .i64 ((rd_T40 l1 i).f0), .int .i64 ((rd_T40 l1 i).f1), .slice G2 (rd_T40 l1 i).f2.length h2, .int .i64 ((rd_T40 l1 i).f3.f0), .slice G4 (rd_T40 l1 i).f3.f1.length h4]] (by rfl) rfl rfl (by (try simp only [List.map_toArray, List.map_cons, List.map_nil]); first | done | rfl) ?_
      refine hcall.mono ?_
      rintro e w2 ⟨rfl, hd⟩
      refine ⟨_, rfl, ?_⟩
      clear hcall
      have HB2 := Aside0.mk (below_step HB.out hd)
      have hd2 := hd
      clear hd
      refine hK.out _ _ ⟨pw_cell_below hd2 (hHeld.1), pw_cell_below hd2 (hHeld.2.1), pw_cell_below hd2 (hHeld.2.2.1), pw_cell_below hd2 (hHeld.2.2.2.1), pw_cell_below hd2 (hHeld.2.2.2.2.1), pw_cell_below hd2 (hHeld.2.2.2.2.2.1), pw_cell_below hd2 (hHeld.2.2.2.2.2.2.1), pw_cell_below hd2 (hHeld.2.2.2.2.2.2.2.1), pw_cell_below hd2 (hHeld.2.2.2.2.2.2.2.2.1), pw_cell_below hd2 (hHeld.2.2.2.2.2.2.2.2.2)⟩ (fun hHeld => ?_)
      clear hK K
      refine norm_ (a' := ?_) ?_ ?_
      rotate_left
      · show Act.put _ (some 25) _ = _
        simp only [Act.put, List.setIfInBounds_toArray, List.set_cons_zero, List.set_cons_succ, i64_w, i32_w]
        rfl
      refine pure_ (i := 9) (N := some 26) (v := ?_) (a' := ?_) #[true, true, true, true, true, true, true, true, true, true] rfl rfl (by kernel_rfl) (fun _ _ _ h => h) (Or.inl ⟨by rfl, ?_⟩) ?_ ?_
      rotate_left
      · intro w'
        go_simp
        with_reducible rfl
      rotate_left
      · simp only [Act.put, List.setIfInBounds_toArray, List.set_cons_zero, List.set_cons_succ, i64_w, i32_w]
        rfl
      refine done_ (by kernel_rfl) ?_
      clear hHeld hd2
      have H := H'.out
      clear H'
      cases t with
      | false =>
        rw [if_neg (by simp)] at H
        obtain rfl := Option.some.inj H
        clear H
        go_wp2
        go_ret
        exact ⟨rfl, HB2.out⟩
      | true =>
        rw [if_pos rfl] at H
        have H' := Aside0.mk H
        clear H
        go_wp2
        go_roundg k1
        case measure => omega
        case rel => exact ⟨_, rfl, H', HB2⟩

/-! ### laws_eqCert: function 125 -/
def laws_eqCert.f (a0_0 : Int) (a0_1 : Int) (a0_2 : Int) (a0_3 : Int) (a0_4 : Int) (a0_5 : Int) (a1_0 : Int) (a1_1 : Int) (a1_2 : Int) (a1_3 : Int) (a1_4 : Int) (a1_5 : Int) : Option (Bool) := if a0_0 = a1_0 then (if a0_1 = a1_1 then (if a0_2 = a1_2 then (if a0_3 = a1_3 then (if a0_4 = a1_4 then (if a0_5 = a1_5 then (some true) else (some false)) else (some false)) else (some false)) else (some false)) else (some false)) else (some false)
set_option maxHeartbeats 8000000 in
set_option maxRecDepth 100000 in
theorem laws_eqCert.calls (a0_0 : Int) (a0_1 : Int) (a0_2 : Int) (a0_3 : Int) (a0_4 : Int) (a0_5 : Int) (a1_0 : Int) (a1_1 : Int) (a1_2 : Int) (a1_3 : Int) (a1_4 : Int) (a1_5 : Int) (r : Bool) (w : World) (h : laws_eqCert.f a0_0 a0_1 a0_2 a0_3 a0_4 a0_5 a1_0 a1_1 a1_2 a1_3 a1_4 a1_5 = some r) :
    Calls Try.prog 125 #[.agg #[.int .i64 a0_0, .int .i64 a0_1, .int .i64 a0_2, .int .i64 a0_3, .int .i64 a0_4, .int .i64 a0_5], .agg #[.int .i64 a1_0, .int .i64 a1_1, .int .i64 a1_2, .int .i64 a1_3, .int .i64 a1_4, .int .i64 a1_5]] w fun e w' => e = .returned (.bool r) ∧ Below w.heap.size w w' := by
  have HB := Aside0.mk (Below.refl w.heap.size w)
  have H := h
  clear h
  unfold laws_eqCert.f at H
  have hu118 := Try.underlying118
  go_enter Try.func125, Try.ntmps125
  by_cases c3 : a0_0 = a1_0
  · rw [if_pos c3] at H
    have c3_1 : (a0_0 == a1_0) = true := beq_iff_eq.mpr c3
    have c3_2 : (a0_0 != a1_0) = false := bne_eq_false_iff_eq.mpr c3
    have c3_0 : decide (a0_0 = a1_0) = true := decide_eq_true c3
    clear c3
    by_cases c4 : a0_1 = a1_1
    · rw [if_pos c4] at H
      have c4_1 : (a0_1 == a1_1) = true := beq_iff_eq.mpr c4
      have c4_2 : (a0_1 != a1_1) = false := bne_eq_false_iff_eq.mpr c4
      have c4_0 : decide (a0_1 = a1_1) = true := decide_eq_true c4
      clear c4
      by_cases c5 : a0_2 = a1_2
      · rw [if_pos c5] at H
        have c5_1 : (a0_2 == a1_2) = true := beq_iff_eq.mpr c5
        have c5_2 : (a0_2 != a1_2) = false := bne_eq_false_iff_eq.mpr c5
        have c5_0 : decide (a0_2 = a1_2) = true := decide_eq_true c5
        clear c5
        by_cases c6 : a0_3 = a1_3
        · rw [if_pos c6] at H
          have c6_1 : (a0_3 == a1_3) = true := beq_iff_eq.mpr c6
          have c6_2 : (a0_3 != a1_3) = false := bne_eq_false_iff_eq.mpr c6
          have c6_0 : decide (a0_3 = a1_3) = true := decide_eq_true c6
          clear c6
          by_cases c7 : a0_4 = a1_4
          · rw [if_pos c7] at H
            have c7_1 : (a0_4 == a1_4) = true := beq_iff_eq.mpr c7
            have c7_2 : (a0_4 != a1_4) = false := bne_eq_false_iff_eq.mpr c7
            have c7_0 : decide (a0_4 = a1_4) = true := decide_eq_true c7
            clear c7
            by_cases c8 : a0_5 = a1_5
            · rw [if_pos c8] at H
              have c8_1 : (a0_5 == a1_5) = true := beq_iff_eq.mpr c8
              have c8_2 : (a0_5 != a1_5) = false := bne_eq_false_iff_eq.mpr c8
              have c8_0 : decide (a0_5 = a1_5) = true := decide_eq_true c8
              clear c8
              have H'' := Aside0.mk H
              clear H
              go_wp2_with (first | ((with_reducible refine gate_dst (N := 2) rfl ?_); refine box_event ?hg (N := 2) ?hd (cs := #[.int .i64 a0_0, .int .i64 a0_1, .int .i64 a0_2, .int .i64 a0_3, .int .i64 a0_4, .int .i64 a0_5]) (t := 118) ?hr ?_; (case hd => rfl); (case hg => rfl); (case hr => first | (go_simp; done) | (go_simp; rfl)); intro gb1 hg W1 hbox hb; have Z1 := Aside0.mk hb.size; have E1 := Aside0.mk (And.intro hg (blk_lt hbox)); have BK1 := Aside0.mk hbox; have c_BK1 := blk_cell hbox; have z_BK1 := blk_frozen hbox; have hB_ := below_step HB.out hb; clear HB hb hbox hg; have HB := Aside0.mk hB_; clear hB_) | ((with_reducible refine gate_dst (N := 3) rfl ?_); refine box_event ?hg (N := 3) ?hd (cs := #[.int .i64 a1_0, .int .i64 a1_1, .int .i64 a1_2, .int .i64 a1_3, .int .i64 a1_4, .int .i64 a1_5]) (t := 118) ?hr ?_; (case hd => rfl); (case hg => rfl); (case hr => first | (go_simp; done) | (go_simp; rfl)); intro gb2 hg W2 hbox hb; have Z2 := Aside0.mk hb.size; have E2 := Aside0.mk (And.intro hg (blk_lt hbox)); have h_ := blk_below BK1.out hb; clear BK1 c_BK1 z_BK1; have BK1 := Aside0.mk h_; have c_BK1 := blk_cell h_; have z_BK1 := blk_frozen h_; clear h_; have BK2 := Aside0.mk hbox; have c_BK2 := blk_cell hbox; have z_BK2 := blk_frozen hbox; have hB_ := below_step HB.out hb; clear HB hb hbox hg; have HB := Aside0.mk hB_; clear hB_))
              have H := H''.out
              clear H''
              obtain rfl := Option.some.inj H
              clear H
              try go_wp2
              go_ret
              exact ⟨rfl, HB.out⟩
            · rw [if_neg c8] at H
              have c8_1 : (a0_5 == a1_5) = false := beq_eq_false_iff_ne.mpr c8
              have c8_2 : (a0_5 != a1_5) = true := bne_iff_ne.mpr c8
              have c8_0 : decide (a0_5 = a1_5) = false := decide_eq_false c8
              clear c8
              have H'' := Aside0.mk H
              clear H
              go_wp2_with (first | ((with_reducible refine gate_dst (N := 2) rfl ?_); refine box_event ?hg (N := 2) ?hd (cs := #[.int .i64 a0_0, .int .i64 a0_1, .int .i64 a0_2, .int .i64 a0_3, .int .i64 a0_4, .int .i64 a0_5]) (t := 118) ?hr ?_; (case hd => rfl); (case hg => rfl); (case hr => first | (go_simp; done) | (go_simp; rfl)); intro gb1 hg W1 hbox hb; have Z1 := Aside0.mk hb.size; have E1 := Aside0.mk (And.intro hg (blk_lt hbox)); have BK1 := Aside0.mk hbox; have c_BK1 := blk_cell hbox; have z_BK1 := blk_frozen hbox; have hB_ := below_step HB.out hb; clear HB hb hbox hg; have HB := Aside0.mk hB_; clear hB_) | ((with_reducible refine gate_dst (N := 3) rfl ?_); refine box_event ?hg (N := 3) ?hd (cs := #[.int .i64 a1_0, .int .i64 a1_1, .int .i64 a1_2, .int .i64 a1_3, .int .i64 a1_4, .int .i64 a1_5]) (t := 118) ?hr ?_; (case hd => rfl); (case hg => rfl); (case hr => first | (go_simp; done) | (go_simp; rfl)); intro gb2 hg W2 hbox hb; have Z2 := Aside0.mk hb.size; have E2 := Aside0.mk (And.intro hg (blk_lt hbox)); have h_ := blk_below BK1.out hb; clear BK1 c_BK1 z_BK1; have BK1 := Aside0.mk h_; have c_BK1 := blk_cell h_; have z_BK1 := blk_frozen h_; clear h_; have BK2 := Aside0.mk hbox; have c_BK2 := blk_cell hbox; have z_BK2 := blk_frozen hbox; have hB_ := below_step HB.out hb; clear HB hb hbox hg; have HB := Aside0.mk hB_; clear hB_))
              have H := H''.out
              clear H''
              obtain rfl := Option.some.inj H
              clear H
              try go_wp2
              go_ret
              exact ⟨rfl, HB.out⟩
          · rw [if_neg c7] at H
            have c7_1 : (a0_4 == a1_4) = false := beq_eq_false_iff_ne.mpr c7
            have c7_2 : (a0_4 != a1_4) = true := bne_iff_ne.mpr c7
            have c7_0 : decide (a0_4 = a1_4) = false := decide_eq_false c7
            clear c7
            have H'' := Aside0.mk H
            clear H
            go_wp2_with (first | ((with_reducible refine gate_dst (N := 2) rfl ?_); refine box_event ?hg (N := 2) ?hd (cs := #[.int .i64 a0_0, .int .i64 a0_1, .int .i64 a0_2, .int .i64 a0_3, .int .i64 a0_4, .int .i64 a0_5]) (t := 118) ?hr ?_; (case hd => rfl); (case hg => rfl); (case hr => first | (go_simp; done) | (go_simp; rfl)); intro gb1 hg W1 hbox hb; have Z1 := Aside0.mk hb.size; have E1 := Aside0.mk (And.intro hg (blk_lt hbox)); have BK1 := Aside0.mk hbox; have c_BK1 := blk_cell hbox; have z_BK1 := blk_frozen hbox; have hB_ := below_step HB.out hb; clear HB hb hbox hg; have HB := Aside0.mk hB_; clear hB_) | ((with_reducible refine gate_dst (N := 3) rfl ?_); refine box_event ?hg (N := 3) ?hd (cs := #[.int .i64 a1_0, .int .i64 a1_1, .int .i64 a1_2, .int .i64 a1_3, .int .i64 a1_4, .int .i64 a1_5]) (t := 118) ?hr ?_; (case hd => rfl); (case hg => rfl); (case hr => first | (go_simp; done) | (go_simp; rfl)); intro gb2 hg W2 hbox hb; have Z2 := Aside0.mk hb.size; have E2 := Aside0.mk (And.intro hg (blk_lt hbox)); have h_ := blk_below BK1.out hb; clear BK1 c_BK1 z_BK1; have BK1 := Aside0.mk h_; have c_BK1 := blk_cell h_; have z_BK1 := blk_frozen h_; clear h_; have BK2 := Aside0.mk hbox; have c_BK2 := blk_cell hbox; have z_BK2 := blk_frozen hbox; have hB_ := below_step HB.out hb; clear HB hb hbox hg; have HB := Aside0.mk hB_; clear hB_))
            have H := H''.out
            clear H''
            obtain rfl := Option.some.inj H
            clear H
            try go_wp2
            go_ret
            exact ⟨rfl, HB.out⟩
        · rw [if_neg c6] at H
          have c6_1 : (a0_3 == a1_3) = false := beq_eq_false_iff_ne.mpr c6
          have c6_2 : (a0_3 != a1_3) = true := bne_iff_ne.mpr c6
          have c6_0 : decide (a0_3 = a1_3) = false := decide_eq_false c6
          clear c6
          have H'' := Aside0.mk H
          clear H
          go_wp2_with (first | ((with_reducible refine gate_dst (N := 2) rfl ?_); refine box_event ?hg (N := 2) ?hd (cs := #[.int .i64 a0_0, .int .i64 a0_1, .int .i64 a0_2, .int .i64 a0_3, .int .i64 a0_4, .int .i64 a0_5]) (t := 118) ?hr ?_; (case hd => rfl); (case hg => rfl); (case hr => first | (go_simp; done) | (go_simp; rfl)); intro gb1 hg W1 hbox hb; have Z1 := Aside0.mk hb.size; have E1 := Aside0.mk (And.intro hg (blk_lt hbox)); have BK1 := Aside0.mk hbox; have c_BK1 := blk_cell hbox; have z_BK1 := blk_frozen hbox; have hB_ := below_step HB.out hb; clear HB hb hbox hg; have HB := Aside0.mk hB_; clear hB_) | ((with_reducible refine gate_dst (N := 3) rfl ?_); refine box_event ?hg (N := 3) ?hd (cs := #[.int .i64 a1_0, .int .i64 a1_1, .int .i64 a1_2, .int .i64 a1_3, .int .i64 a1_4, .int .i64 a1_5]) (t := 118) ?hr ?_; (case hd => rfl); (case hg => rfl); (case hr => first | (go_simp; done) | (go_simp; rfl)); intro gb2 hg W2 hbox hb; have Z2 := Aside0.mk hb.size; have E2 := Aside0.mk (And.intro hg (blk_lt hbox)); have h_ := blk_below BK1.out hb; clear BK1 c_BK1 z_BK1; have BK1 := Aside0.mk h_; have c_BK1 := blk_cell h_; have z_BK1 := blk_frozen h_; clear h_; have BK2 := Aside0.mk hbox; have c_BK2 := blk_cell hbox; have z_BK2 := blk_frozen hbox; have hB_ := below_step HB.out hb; clear HB hb hbox hg; have HB := Aside0.mk hB_; clear hB_))
          have H := H''.out
          clear H''
          obtain rfl := Option.some.inj H
          clear H
          try go_wp2
          go_ret
          exact ⟨rfl, HB.out⟩
      · rw [if_neg c5] at H
        have c5_1 : (a0_2 == a1_2) = false := beq_eq_false_iff_ne.mpr c5
        have c5_2 : (a0_2 != a1_2) = true := bne_iff_ne.mpr c5
        have c5_0 : decide (a0_2 = a1_2) = false := decide_eq_false c5
        clear c5
        have H'' := Aside0.mk H
        clear H
        go_wp2_with (first | ((with_reducible refine gate_dst (N := 2) rfl ?_); refine box_event ?hg (N := 2) ?hd (cs := #[.int .i64 a0_0, .int .i64 a0_1, .int .i64 a0_2, .int .i64 a0_3, .int .i64 a0_4, .int .i64 a0_5]) (t := 118) ?hr ?_; (case hd => rfl); (case hg => rfl); (case hr => first | (go_simp; done) | (go_simp; rfl)); intro gb1 hg W1 hbox hb; have Z1 := Aside0.mk hb.size; have E1 := Aside0.mk (And.intro hg (blk_lt hbox)); have BK1 := Aside0.mk hbox; have c_BK1 := blk_cell hbox; have z_BK1 := blk_frozen hbox; have hB_ := below_step HB.out hb; clear HB hb hbox hg; have HB := Aside0.mk hB_; clear hB_) | ((with_reducible refine gate_dst (N := 3) rfl ?_); refine box_event ?hg (N := 3) ?hd (cs := #[.int .i64 a1_0, .int .i64 a1_1, .int .i64 a1_2, .int .i64 a1_3, .int .i64 a1_4, .int .i64 a1_5]) (t := 118) ?hr ?_; (case hd => rfl); (case hg => rfl); (case hr => first | (go_simp; done) | (go_simp; rfl)); intro gb2 hg W2 hbox hb; have Z2 := Aside0.mk hb.size; have E2 := Aside0.mk (And.intro hg (blk_lt hbox)); have h_ := blk_below BK1.out hb; clear BK1 c_BK1 z_BK1; have BK1 := Aside0.mk h_; have c_BK1 := blk_cell h_; have z_BK1 := blk_frozen h_; clear h_; have BK2 := Aside0.mk hbox; have c_BK2 := blk_cell hbox; have z_BK2 := blk_frozen hbox; have hB_ := below_step HB.out hb; clear HB hb hbox hg; have HB := Aside0.mk hB_; clear hB_))
        have H := H''.out
        clear H''
        obtain rfl := Option.some.inj H
        clear H
        try go_wp2
        go_ret
        exact ⟨rfl, HB.out⟩
    · rw [if_neg c4] at H
      have c4_1 : (a0_1 == a1_1) = false := beq_eq_false_iff_ne.mpr c4
      have c4_2 : (a0_1 != a1_1) = true := bne_iff_ne.mpr c4
      have c4_0 : decide (a0_1 = a1_1) = false := decide_eq_false c4
      clear c4
      have H'' := Aside0.mk H
      clear H
      go_wp2_with (first | ((with_reducible refine gate_dst (N := 2) rfl ?_); refine box_event ?hg (N := 2) ?hd (cs := #[.int .i64 a0_0, .int .i64 a0_1, .int .i64 a0_2, .int .i64 a0_3, .int .i64 a0_4, .int .i64 a0_5]) (t := 118) ?hr ?_; (case hd => rfl); (case hg => rfl); (case hr => first | (go_simp; done) | (go_simp; rfl)); intro gb1 hg W1 hbox hb; have Z1 := Aside0.mk hb.size; have E1 := Aside0.mk (And.intro hg (blk_lt hbox)); have BK1 := Aside0.mk hbox; have c_BK1 := blk_cell hbox; have z_BK1 := blk_frozen hbox; have hB_ := below_step HB.out hb; clear HB hb hbox hg; have HB := Aside0.mk hB_; clear hB_) | ((with_reducible refine gate_dst (N := 3) rfl ?_); refine box_event ?hg (N := 3) ?hd (cs := #[.int .i64 a1_0, .int .i64 a1_1, .int .i64 a1_2, .int .i64 a1_3, .int .i64 a1_4, .int .i64 a1_5]) (t := 118) ?hr ?_; (case hd => rfl); (case hg => rfl); (case hr => first | (go_simp; done) | (go_simp; rfl)); intro gb2 hg W2 hbox hb; have Z2 := Aside0.mk hb.size; have E2 := Aside0.mk (And.intro hg (blk_lt hbox)); have h_ := blk_below BK1.out hb; clear BK1 c_BK1 z_BK1; have BK1 := Aside0.mk h_; have c_BK1 := blk_cell h_; have z_BK1 := blk_frozen h_; clear h_; have BK2 := Aside0.mk hbox; have c_BK2 := blk_cell hbox; have z_BK2 := blk_frozen hbox; have hB_ := below_step HB.out hb; clear HB hb hbox hg; have HB := Aside0.mk hB_; clear hB_))
      have H := H''.out
      clear H''
      obtain rfl := Option.some.inj H
      clear H
      try go_wp2
      go_ret
      exact ⟨rfl, HB.out⟩
  · rw [if_neg c3] at H
    have c3_1 : (a0_0 == a1_0) = false := beq_eq_false_iff_ne.mpr c3
    have c3_2 : (a0_0 != a1_0) = true := bne_iff_ne.mpr c3
    have c3_0 : decide (a0_0 = a1_0) = false := decide_eq_false c3
    clear c3
    have H'' := Aside0.mk H
    clear H
    go_wp2_with (first | ((with_reducible refine gate_dst (N := 2) rfl ?_); refine box_event ?hg (N := 2) ?hd (cs := #[.int .i64 a0_0, .int .i64 a0_1, .int .i64 a0_2, .int .i64 a0_3, .int .i64 a0_4, .int .i64 a0_5]) (t := 118) ?hr ?_; (case hd => rfl); (case hg => rfl); (case hr => first | (go_simp; done) | (go_simp; rfl)); intro gb1 hg W1 hbox hb; have Z1 := Aside0.mk hb.size; have E1 := Aside0.mk (And.intro hg (blk_lt hbox)); have BK1 := Aside0.mk hbox; have c_BK1 := blk_cell hbox; have z_BK1 := blk_frozen hbox; have hB_ := below_step HB.out hb; clear HB hb hbox hg; have HB := Aside0.mk hB_; clear hB_) | ((with_reducible refine gate_dst (N := 3) rfl ?_); refine box_event ?hg (N := 3) ?hd (cs := #[.int .i64 a1_0, .int .i64 a1_1, .int .i64 a1_2, .int .i64 a1_3, .int .i64 a1_4, .int .i64 a1_5]) (t := 118) ?hr ?_; (case hd => rfl); (case hg => rfl); (case hr => first | (go_simp; done) | (go_simp; rfl)); intro gb2 hg W2 hbox hb; have Z2 := Aside0.mk hb.size; have E2 := Aside0.mk (And.intro hg (blk_lt hbox)); have h_ := blk_below BK1.out hb; clear BK1 c_BK1 z_BK1; have BK1 := Aside0.mk h_; have c_BK1 := blk_cell h_; have z_BK1 := blk_frozen h_; clear h_; have BK2 := Aside0.mk hbox; have c_BK2 := blk_cell hbox; have z_BK2 := blk_frozen hbox; have hB_ := below_step HB.out hb; clear HB hb hbox hg; have HB := Aside0.mk hB_; clear hB_))
    have H := H''.out
    clear H''
    obtain rfl := Option.some.inj H
    clear H
    try go_wp2
    go_ret
    exact ⟨rfl, HB.out⟩

/-! ### laws_eqCertS: function 73 -/
def laws_eqCertS.l0 : Nat → List S118 → List S118 → Int → Option Bool
  | 0, _, _, _ => none
  | k + 1, l, m, i => if i < (l.length : Int) then (if 0 ≤ i then (if i < (m.length : Int) then (laws_eqCert.f (rd_T118 l i).f0 (rd_T118 l i).f1 (rd_T118 l i).f2 (rd_T118 l i).f3 (rd_T118 l i).f4 (rd_T118 l i).f5 (rd_T118 m i).f0 (rd_T118 m i).f1 (rd_T118 m i).f2 (rd_T118 m i).f3 (rd_T118 m i).f4 (rd_T118 m i).f5).bind fun t => (if t = true then laws_eqCertS.l0 k l m (wrap64 (i + 1)) else some false) else none) else none) else some true
def laws_eqCertS.f (k : Nat) (l0 : List S118) (l1 : List S118) : Option Bool := if (l0.length : Int) = (l1.length : Int) then laws_eqCertS.l0 k l0 l1 0 else some false
set_option maxHeartbeats 8000000 in
set_option maxRecDepth 100000 in
theorem laws_eqCertS.calls (k : Nat) (A0 : Option Addr) (c0 : Nat) (l0 : List S118) (A1 : Option Addr) (c1 : Nat) (l1 : List S118) (r : Bool) (w : World) (hr0 : Kd.C k118 w A0 l0.length l0) (hc0 : l0.length ≤ c0) (hr1 : Kd.C k118 w A1 l1.length l1) (hc1 : l1.length ≤ c1) (h : laws_eqCertS.f k l0 l1 = some r) :
    Calls Try.prog 73 #[.slice A0 l0.length c0, .slice A1 l1.length c1] w fun e w' => e = .returned (.bool r) ∧ Below w.heap.size w w' := by
  have HR0 := Aside0.mk hr0
  have HR1 := Aside0.mk hr1
  unfold laws_eqCertS.f at h
  have hu118 := Try.underlying118
  by_cases hl : (l0.length : Int) = (l1.length : Int)
  case neg =>
    rw [if_neg hl] at h
    obtain rfl := Option.some.inj h
    have c1b : ((l0.length : Int) == (l1.length : Int)) = false := beq_eq_false_iff_ne.mpr hl
    have c2b : ((l0.length : Int) != (l1.length : Int)) = true := bne_iff_ne.mpr hl
    clear hr0 hc0 hr1 hc1 h hl
    go_enter Try.func73, Try.ntmps73
    go_wp2
    go_ret
    exact ⟨rfl, Below.refl _ _⟩
  rw [if_pos hl] at h
  have c1b : ((l0.length : Int) == (l1.length : Int)) = true := beq_iff_eq.mpr hl
  have c2b : ((l0.length : Int) != (l1.length : Int)) = false := bne_eq_false_iff_eq.mpr hl
  have H' := Aside0.mk h
  clear hr0 hc0 hr1 hc1 h hl
  go_enter Try.func73, Try.ntmps73
  go_wp2
  go_loopg [5] k (fun kq v5 w' => ∃ i : Int, v5 = .int .i64 i ∧ Aside0 (laws_eqCertS.l0 kq l0 l1 i = some r) ∧ Aside0 (Below w.heap.size w w'))
  case atStart => exact ⟨0, rfl, H', ⟨Below.refl _ _⟩⟩
  case round =>
    clear H' c1b c2b
    obtain ⟨i, rfl, HA, HB⟩ := hrel
    cases gk with
    | zero => exact absurd HA.out (by simp [laws_eqCertS.l0])
    | succ k1 =>
      have H := HA.out
      clear HA
      simp only [laws_eqCertS.l0] at H
      by_cases q1 : i < (l0.length : Int)
      case neg =>
        rw [if_neg q1] at H
        obtain rfl := Option.some.inj H
        have c3 : decide (i < (l0.length : Int)) = false := decide_eq_false q1
        clear q1 H
        go_wp2
        go_ret
        exact ⟨rfl, HB.out⟩
      rw [if_pos q1] at H
      by_cases p1 : 0 ≤ i
      case neg => rw [if_neg p1] at H; exact absurd H (by simp)
      rw [if_pos p1] at H
      by_cases q2 : i < (l1.length : Int)
      case neg => rw [if_neg q2] at H; exact absurd H (by simp)
      rw [if_pos q2] at H
      replace H := Option.bind_eq_some_iff.mp H
      obtain ⟨t, ht, H⟩ := H
      have c3 : decide (i < (l0.length : Int)) = true := decide_eq_true q1
      obtain ⟨ada, ea, ha0, ha1, ha2, ha3, ha4, ha5⟩ := at_T118 (Kd.C_below HR0.out HB.out) i p1 q1
      obtain ⟨adb, eb, hb0, hb1, hb2, hb3, hb4, hb5⟩ := at_T118 (Kd.C_below HR1.out HB.out) i p1 q2
      cases ea
      cases eb
      have ht_ := ht
      have H' := Aside0.mk H
      replace p1 := eq_true p1
      replace q1 := eq_true q1
      replace q2 := eq_true q2
      clear H ht
      go_wp2
      have HT := Aside0.mk ht_
      have hB_ := below_drew1 HB.out
      clear HB
      have HB := Aside0.mk hB_
      clear hB_
      refine start_ (n := 10) (S := fun w' => w'.cell? (ada.add (i.toNat * 6)) = some (.int .i64 ((rd_T118 l0 i).f0)) ∧ w'.cell? ⟨(ada.add (i.toNat * 6)).block, (ada.add (i.toNat * 6)).off + 1, none⟩ = some (.int .i64 ((rd_T118 l0 i).f1)) ∧ w'.cell? ⟨(ada.add (i.toNat * 6)).block, (ada.add (i.toNat * 6)).off + 2, none⟩ = some (.int .i64 ((rd_T118 l0 i).f2)) ∧ w'.cell? ⟨(ada.add (i.toNat * 6)).block, (ada.add (i.toNat * 6)).off + 3, none⟩ = some (.int .i64 ((rd_T118 l0 i).f3)) ∧ w'.cell? ⟨(ada.add (i.toNat * 6)).block, (ada.add (i.toNat * 6)).off + 4, none⟩ = some (.int .i64 ((rd_T118 l0 i).f4)) ∧ w'.cell? ⟨(ada.add (i.toNat * 6)).block, (ada.add (i.toNat * 6)).off + 5, none⟩ = some (.int .i64 ((rd_T118 l0 i).f5)) ∧ w'.cell? (adb.add (i.toNat * 6)) = some (.int .i64 ((rd_T118 l1 i).f0)) ∧ w'.cell? ⟨(adb.add (i.toNat * 6)).block, (adb.add (i.toNat * 6)).off + 1, none⟩ = some (.int .i64 ((rd_T118 l1 i).f1)) ∧ w'.cell? ⟨(adb.add (i.toNat * 6)).block, (adb.add (i.toNat * 6)).off + 2, none⟩ = some (.int .i64 ((rd_T118 l1 i).f2)) ∧ w'.cell? ⟨(adb.add (i.toNat * 6)).block, (adb.add (i.toNat * 6)).off + 3, none⟩ = some (.int .i64 ((rd_T118 l1 i).f3)) ∧ w'.cell? ⟨(adb.add (i.toNat * 6)).block, (adb.add (i.toNat * 6)).off + 4, none⟩ = some (.int .i64 ((rd_T118 l1 i).f4)) ∧ w'.cell? ⟨(adb.add (i.toNat * 6)).block, (adb.add (i.toNat * 6)).off + 5, none⟩ = some (.int .i64 ((rd_T118 l1 i).f5))) (ds := []) #[false, false, false, false, false, false, false, false, false, false] (by kernel_rfl) rfl rfl ⟨ha0, ha1, ha2, ha3, ha4, ha5, hb0, hb1, hb2, hb3, hb4, hb5⟩ (fun hHeld => ?_)
      clear ha0 ha1 ha2 ha3 ha4 ha5 hb0 hb1 hb2 hb3 hb4 hb5
      generalize wr.drew = wd at HB  hHeld ⊢
      refine pure_ (i := 0) (N := some 17) (v := ?_) (a' := ?_) #[true, false, false, false, false, false, false, false, false, false] rfl rfl (by kernel_rfl) (fun _ _ _ h => h) (Or.inl ⟨by rfl, ?_⟩) ?_ ?_
      rotate_left
      · intro w'
        go_simp
        with_reducible rfl
      rotate_left
      · simp only [Act.put, List.setIfInBounds_toArray, List.set_cons_zero, List.set_cons_succ, i64_w, i32_w]
        rfl
      refine pure_ (i := 1) (N := some 18) (v := ?_) (a' := ?_) #[true, true, false, false, false, false, false, false, false, false] rfl rfl (by kernel_rfl) (fun _ _ _ h => h) (Or.inl ⟨by rfl, ?_⟩) ?_ ?_
      rotate_left
      · intro w'
        go_simp
        with_reducible rfl
      rotate_left
      · simp only [Act.put, List.setIfInBounds_toArray, List.set_cons_zero, List.set_cons_succ, i64_w, i32_w]
        rfl
      refine pure_ (i := 2) (N := some 19) (v := ?_) (a' := ?_) #[true, true, true, false, false, false, false, false, false, false] rfl rfl (by kernel_rfl) (fun _ _ _ h => h) (Or.inl ⟨by rfl, ?_⟩) ?_ ?_
      rotate_left
      · intro w'
        go_simp
        with_reducible rfl
      rotate_left
      · simp only [Act.put, List.setIfInBounds_toArray, List.set_cons_zero, List.set_cons_succ, i64_w, i32_w]
        rfl
      refine pure_ (i := 4) (N := some 21) (v := ?_) (a' := ?_) #[true, true, true, false, true, false, false, false, false, false] rfl rfl (by kernel_rfl) (fun _ _ _ h => h) (Or.inl ⟨by rfl, ?_⟩) ?_ ?_
      rotate_left
      · intro w'
        go_simp
        with_reducible rfl
      rotate_left
      · simp only [Act.put, List.setIfInBounds_toArray, List.set_cons_zero, List.set_cons_succ, i64_w, i32_w]
        rfl
      refine pure_ (i := 5) (N := some 22) (v := ?_) (a' := ?_) #[true, true, true, false, true, true, false, false, false, false] rfl rfl (by kernel_rfl) (fun _ _ _ h => h) (Or.inl ⟨by rfl, ?_⟩) ?_ ?_
      rotate_left
      · intro w'
        go_simp
        with_reducible rfl
      rotate_left
      · simp only [Act.put, List.setIfInBounds_toArray, List.set_cons_zero, List.set_cons_succ, i64_w, i32_w]
        rfl
      refine pure_ (i := 6) (N := some 23) (v := ?_) (a' := ?_) #[true, true, true, false, true, true, true, false, false, false] rfl rfl (by kernel_rfl) (fun _ _ _ h => h) (Or.inl ⟨by rfl, ?_⟩) ?_ ?_
      rotate_left
      · intro w'
        go_simp
        with_reducible rfl
      rotate_left
      · simp only [Act.put, List.setIfInBounds_toArray, List.set_cons_zero, List.set_cons_succ, i64_w, i32_w]
        rfl
      refine take_ (i := 3) (N := some 20) (v := ?_) (a' := ?_) #[true, true, true, true, true, true, true, false, false, false] rfl rfl (by kernel_rfl) (fun _ _ _ h => h) (Or.inl ⟨by rfl, ?_⟩) hHeld ?_ ?_
      rotate_left
      · rintro w' ⟨s0, s1, s2, s3, s4, s5, s6, s7, s8, s9, s10, s11⟩
        go_simp
        with_reducible rfl
      rotate_left
      · simp only [Act.put, List.setIfInBounds_toArray, List.set_cons_zero, List.set_cons_succ, i64_w, i32_w]
        rfl
      refine take_ (i := 7) (N := some 24) (v := ?_) (a' := ?_) #[true, true, true, true, true, true, true, true, false, false] rfl rfl (by kernel_rfl) (fun _ _ _ h => h) (Or.inl ⟨by rfl, ?_⟩) hHeld ?_ ?_
      rotate_left
      · rintro w' ⟨s0, s1, s2, s3, s4, s5, s6, s7, s8, s9, s10, s11⟩
        go_simp
        with_reducible rfl
      rotate_left
      · simp only [Act.put, List.setIfInBounds_toArray, List.set_cons_zero, List.set_cons_succ, i64_w, i32_w]
        rfl
      refine one_ (i := 8) (N := some 25) #[true, true, true, true, true, true, true, true, true, false] rfl rfl (by kernel_rfl) (by decide) (fun K hK => ?_)
      have hcall := laws_eqCert.calls (rd_T118 l0 i).f0 (rd_T118 l0 i).f1 (rd_T118 l0 i).f2 (rd_T118 l0 i).f3 (rd_T118 l0 i).f4 (rd_T118 l0 i).f5 (rd_T118 l1 i).f0 (rd_T118 l1 i).f1 (rd_T118 l1 i).f2 (rd_T118 l1 i).f3 (rd_T118 l1 i).f4 (rd_T118 l1 i).f5 t wd  HT.out
      refine goes_ Try.func125 (by kernel_rfl) rfl #[.agg #[.int .i64 ((rd_T118 l0 i).f0), .int .i64 ((rd_T118 l0 i).f1), .int .i64 ((rd_T118 l0 i).f2), .int .i64 ((rd_T118 l0 i).f3), .int .i64 ((rd_T118 l0 i).f4), .int .i64 ((rd_T118 l0 i).f5)], .agg #[.int .i64 ((rd_T118 l1 i).f0), .int .i64 ((rd_T118 l1 i).f1), .int .i64 ((rd_T118 l1 i).f2), .int .i64 ((rd_T118 l1 i).f3), .int .i64 ((rd_T118 l1 i).f4), .int .i64 ((rd_T118 l1 i).f5)]] (by rfl) rfl rfl (by (try simp only [List.map_toArray, List.map_cons, List.map_nil]); first | done | rfl) ?_
      refine hcall.mono ?_
      rintro e w2 ⟨rfl, hd⟩
      refine ⟨_, rfl, ?_⟩
      clear hcall
      have HB2 := Aside0.mk (below_step HB.out hd)
      have hd2 := hd
      clear hd
      refine hK.out _ _ ⟨pw_cell_below hd2 (hHeld.1), pw_cell_below hd2 (hHeld.2.1), pw_cell_below hd2 (hHeld.2.2.1), pw_cell_below hd2 (hHeld.2.2.2.1), pw_cell_below hd2 (hHeld.2.2.2.2.1), pw_cell_below hd2 (hHeld.2.2.2.2.2.1), pw_cell_below hd2 (hHeld.2.2.2.2.2.2.1), pw_cell_below hd2 (hHeld.2.2.2.2.2.2.2.1), pw_cell_below hd2 (hHeld.2.2.2.2.2.2.2.2.1), pw_cell_below hd2 (hHeld.2.2.2.2.2.2.2.2.2.1), pw_cell_below hd2 (hHeld.2.2.2.2.2.2.2.2.2.2.1), pw_cell_below hd2 (hHeld.2.2.2.2.2.2.2.2.2.2.2)⟩ (fun hHeld => ?_)
      clear hK K
      refine norm_ (a' := ?_) ?_ ?_
      rotate_left
      · show Act.put _ (some 25) _ = _
        simp only [Act.put, List.setIfInBounds_toArray, List.set_cons_zero, List.set_cons_succ, i64_w, i32_w]
        rfl
      refine pure_ (i := 9) (N := some 26) (v := ?_) (a' := ?_) #[true, true, true, true, true, true, true, true, true, true] rfl rfl (by kernel_rfl) (fun _ _ _ h => h) (Or.inl ⟨by rfl, ?_⟩) ?_ ?_
      rotate_left
      · intro w'
        go_simp
        with_reducible rfl
      rotate_left
      · simp only [Act.put, List.setIfInBounds_toArray, List.set_cons_zero, List.set_cons_succ, i64_w, i32_w]
        rfl
      refine done_ (by kernel_rfl) ?_
      clear hHeld hd2
      have H := H'.out
      clear H'
      cases t with
      | false =>
        rw [if_neg (by simp)] at H
        obtain rfl := Option.some.inj H
        clear H
        go_wp2
        go_ret
        exact ⟨rfl, HB2.out⟩
      | true =>
        rw [if_pos rfl] at H
        have H' := Aside0.mk H
        clear H
        go_wp2
        go_roundg k1
        case measure => omega
        case rel => exact ⟨_, rfl, H', HB2⟩

/-! ### laws_eqCenter: function 29 -/
def laws_eqCenter.f (k : Nat) (l0_0 : List (S107)) (l0_1 : List (S40)) (l0_2 : List (S132)) (l0_3 : List (S99)) (a0_4 : Int) (l0_5 : List (S118)) (l1_0 : List (S107)) (l1_1 : List (S40)) (l1_2 : List (S132)) (l1_3 : List (S99)) (a1_4 : Int) (l1_5 : List (S118)) : Option (Bool) := (laws_eqIssuerS.f k l0_0 l1_0).bind fun t297 => (if t297 = true then ((laws_eqEpochS.f k l0_1 l1_1).bind fun t298 => (if t298 = true then ((laws_eqFactS.f k l0_2 l1_2).bind fun t299 => (if t299 = true then ((laws_eqRevokedS.f k l0_3 l1_3).bind fun t300 => (if t300 = true then (if a0_4 = a1_4 then ((laws_eqCertS.f k l0_5 l1_5).bind fun t301 => (if t301 = true then (some true) else (some false))) else (some false)) else (some false))) else (some false))) else (some false))) else (some false))
set_option maxHeartbeats 8000000 in
set_option maxRecDepth 100000 in
theorem laws_eqCenter.calls (k : Nat) (A0_0 : Option Addr) (c0_0 : Nat) (l0_0 : List (S107)) (A0_1 : Option Addr) (c0_1 : Nat) (l0_1 : List (S40)) (A0_2 : Option Addr) (c0_2 : Nat) (l0_2 : List (S132)) (A0_3 : Option Addr) (c0_3 : Nat) (l0_3 : List (S99)) (a0_4 : Int) (A0_5 : Option Addr) (c0_5 : Nat) (l0_5 : List (S118)) (A1_0 : Option Addr) (c1_0 : Nat) (l1_0 : List (S107)) (A1_1 : Option Addr) (c1_1 : Nat) (l1_1 : List (S40)) (A1_2 : Option Addr) (c1_2 : Nat) (l1_2 : List (S132)) (A1_3 : Option Addr) (c1_3 : Nat) (l1_3 : List (S99)) (a1_4 : Int) (A1_5 : Option Addr) (c1_5 : Nat) (l1_5 : List (S118)) (r : Bool) (w : World) (hr0_0 : Kd.C k107 w A0_0 l0_0.length l0_0) (hc0_0 : l0_0.length ≤ c0_0) (hr0_1 : Kd.C k40 w A0_1 l0_1.length l0_1) (hc0_1 : l0_1.length ≤ c0_1) (hr0_2 : Kd.C k132 w A0_2 l0_2.length l0_2) (hc0_2 : l0_2.length ≤ c0_2) (hr0_3 : Kd.C k99 w A0_3 l0_3.length l0_3) (hc0_3 : l0_3.length ≤ c0_3) (hr0_5 : Kd.C k118 w A0_5 l0_5.length l0_5) (hc0_5 : l0_5.length ≤ c0_5) (hr1_0 : Kd.C k107 w A1_0 l1_0.length l1_0) (hc1_0 : l1_0.length ≤ c1_0) (hr1_1 : Kd.C k40 w A1_1 l1_1.length l1_1) (hc1_1 : l1_1.length ≤ c1_1) (hr1_2 : Kd.C k132 w A1_2 l1_2.length l1_2) (hc1_2 : l1_2.length ≤ c1_2) (hr1_3 : Kd.C k99 w A1_3 l1_3.length l1_3) (hc1_3 : l1_3.length ≤ c1_3) (hr1_5 : Kd.C k118 w A1_5 l1_5.length l1_5) (hc1_5 : l1_5.length ≤ c1_5) (h : laws_eqCenter.f k l0_0 l0_1 l0_2 l0_3 a0_4 l0_5 l1_0 l1_1 l1_2 l1_3 a1_4 l1_5 = some r) :
    Calls Try.prog 29 #[.agg #[.slice A0_0 l0_0.length c0_0, .slice A0_1 l0_1.length c0_1, .slice A0_2 l0_2.length c0_2, .slice A0_3 l0_3.length c0_3, .int .i64 a0_4, .slice A0_5 l0_5.length c0_5], .agg #[.slice A1_0 l1_0.length c1_0, .slice A1_1 l1_1.length c1_1, .slice A1_2 l1_2.length c1_2, .slice A1_3 l1_3.length c1_3, .int .i64 a1_4, .slice A1_5 l1_5.length c1_5]] w fun e w' => e = .returned (.bool r) ∧ Below w.heap.size w w' := by
  have HR0_0 := Aside0.mk hr0_0
  have HC0_0 := Aside0.mk hc0_0
  clear hr0_0 hc0_0
  have HR0_1 := Aside0.mk hr0_1
  have HC0_1 := Aside0.mk hc0_1
  clear hr0_1 hc0_1
  have HR0_2 := Aside0.mk hr0_2
  have HC0_2 := Aside0.mk hc0_2
  clear hr0_2 hc0_2
  have HR0_3 := Aside0.mk hr0_3
  have HC0_3 := Aside0.mk hc0_3
  clear hr0_3 hc0_3
  have HR0_5 := Aside0.mk hr0_5
  have HC0_5 := Aside0.mk hc0_5
  clear hr0_5 hc0_5
  have HR1_0 := Aside0.mk hr1_0
  have HC1_0 := Aside0.mk hc1_0
  clear hr1_0 hc1_0
  have HR1_1 := Aside0.mk hr1_1
  have HC1_1 := Aside0.mk hc1_1
  clear hr1_1 hc1_1
  have HR1_2 := Aside0.mk hr1_2
  have HC1_2 := Aside0.mk hc1_2
  clear hr1_2 hc1_2
  have HR1_3 := Aside0.mk hr1_3
  have HC1_3 := Aside0.mk hc1_3
  clear hr1_3 hc1_3
  have HR1_5 := Aside0.mk hr1_5
  have HC1_5 := Aside0.mk hc1_5
  clear hr1_5 hc1_5
  have HB := Aside0.mk (Below.refl w.heap.size w)
  have H := h
  clear h
  unfold laws_eqCenter.f at H
  have hu64 := Try.underlying64
  go_enter Try.func29, Try.ntmps29
  have H'' := Aside0.mk H
  clear H
  go_wp2_with (first | ((with_reducible refine gate_dst (N := 2) rfl ?_); refine box_event ?hg (N := 2) ?hd (cs := #[.slice A0_0 l0_0.length c0_0, .slice A0_1 l0_1.length c0_1, .slice A0_2 l0_2.length c0_2, .slice A0_3 l0_3.length c0_3, .int .i64 a0_4, .slice A0_5 l0_5.length c0_5]) (t := 64) ?hr ?_; (case hd => rfl); (case hg => rfl); (case hr => first | (go_simp; done) | (go_simp; rfl)); intro gb1 hg W1 hbox hb; have Z1 := Aside0.mk hb.size; have E1 := Aside0.mk (And.intro hg (blk_lt hbox)); have BK1 := Aside0.mk hbox; have c_BK1 := blk_cell hbox; have z_BK1 := blk_frozen hbox; have hB_ := below_step HB.out hb; clear HB hb hbox hg; have HB := Aside0.mk hB_; clear hB_) | ((with_reducible refine gate_dst (N := 3) rfl ?_); refine box_event ?hg (N := 3) ?hd (cs := #[.slice A1_0 l1_0.length c1_0, .slice A1_1 l1_1.length c1_1, .slice A1_2 l1_2.length c1_2, .slice A1_3 l1_3.length c1_3, .int .i64 a1_4, .slice A1_5 l1_5.length c1_5]) (t := 64) ?hr ?_; (case hd => rfl); (case hg => rfl); (case hr => first | (go_simp; done) | (go_simp; rfl)); intro gb2 hg W2 hbox hb; have Z2 := Aside0.mk hb.size; have E2 := Aside0.mk (And.intro hg (blk_lt hbox)); have h_ := blk_below BK1.out hb; clear BK1 c_BK1 z_BK1; have BK1 := Aside0.mk h_; have c_BK1 := blk_cell h_; have z_BK1 := blk_frozen h_; clear h_; have BK2 := Aside0.mk hbox; have c_BK2 := blk_cell hbox; have z_BK2 := blk_frozen hbox; have hB_ := below_step HB.out hb; clear HB hb hbox hg; have HB := Aside0.mk hB_; clear hB_))
  have H := H''.out
  clear H''
  replace H := Option.bind_eq_some_iff.mp H
  obtain ⟨t297, hm, H⟩ := H
  try dsimp only at H
  have H' := Aside0.mk H
  clear H
  have hcall := laws_eqIssuerS.calls k _ _ l0_0 _ _ l1_0 t297 W2 (Kd.C_below HR0_0.out HB.out) HC0_0.out (Kd.C_below HR1_0.out HB.out) HC1_0.out hm
  clear hm
  try go_wp2_with fail
  refine hcall.mono ?_
  rintro e W3 ⟨rfl, hb⟩
  clear hcall
  have Z3 := Aside0.mk hb.size
  have h_ := blk_below BK1.out hb
  clear BK1 c_BK1 z_BK1
  have BK1 := Aside0.mk h_
  have c_BK1 := blk_cell h_
  have z_BK1 := blk_frozen h_
  clear h_
  have h_ := blk_below BK2.out hb
  clear BK2 c_BK2 z_BK2
  have BK2 := Aside0.mk h_
  have c_BK2 := blk_cell h_
  have z_BK2 := blk_frozen h_
  clear h_
  have hB_ := below_step HB.out hb
  clear HB hb
  have HB := Aside0.mk hB_
  clear hB_
  have H := H'.out
  clear H'
  by_cases c4 : t297 = true
  · rw [if_pos c4] at H
    subst c4
    replace H := Option.bind_eq_some_iff.mp H
    obtain ⟨t298, hm, H⟩ := H
    try dsimp only at H
    have H' := Aside0.mk H
    clear H
    have hcall := laws_eqEpochS.calls k _ _ l0_1 _ _ l1_1 t298 W3 (Kd.C_below HR0_1.out HB.out) HC0_1.out (Kd.C_below HR1_1.out HB.out) HC1_1.out hm
    clear hm
    go_wp2_with fail
    refine hcall.mono ?_
    rintro e W5 ⟨rfl, hb⟩
    clear hcall
    have Z5 := Aside0.mk hb.size
    have h_ := blk_below BK1.out hb
    clear BK1 c_BK1 z_BK1
    have BK1 := Aside0.mk h_
    have c_BK1 := blk_cell h_
    have z_BK1 := blk_frozen h_
    clear h_
    have h_ := blk_below BK2.out hb
    clear BK2 c_BK2 z_BK2
    have BK2 := Aside0.mk h_
    have c_BK2 := blk_cell h_
    have z_BK2 := blk_frozen h_
    clear h_
    have hB_ := below_step HB.out hb
    clear HB hb
    have HB := Aside0.mk hB_
    clear hB_
    have H := H'.out
    clear H'
    by_cases c6 : t298 = true
    · rw [if_pos c6] at H
      subst c6
      replace H := Option.bind_eq_some_iff.mp H
      obtain ⟨t299, hm, H⟩ := H
      try dsimp only at H
      have H' := Aside0.mk H
      clear H
      have hcall := laws_eqFactS.calls k _ _ l0_2 _ _ l1_2 t299 W5 (Kd.C_below HR0_2.out HB.out) HC0_2.out (Kd.C_below HR1_2.out HB.out) HC1_2.out hm
      clear hm
      go_wp2_with fail
      refine hcall.mono ?_
      rintro e W7 ⟨rfl, hb⟩
      clear hcall
      have Z7 := Aside0.mk hb.size
      have h_ := blk_below BK1.out hb
      clear BK1 c_BK1 z_BK1
      have BK1 := Aside0.mk h_
      have c_BK1 := blk_cell h_
      have z_BK1 := blk_frozen h_
      clear h_
      have h_ := blk_below BK2.out hb
      clear BK2 c_BK2 z_BK2
      have BK2 := Aside0.mk h_
      have c_BK2 := blk_cell h_
      have z_BK2 := blk_frozen h_
      clear h_
      have hB_ := below_step HB.out hb
      clear HB hb
      have HB := Aside0.mk hB_
      clear hB_
      have H := H'.out
      clear H'
      by_cases c8 : t299 = true
      · rw [if_pos c8] at H
        subst c8
        replace H := Option.bind_eq_some_iff.mp H
        obtain ⟨t300, hm, H⟩ := H
        try dsimp only at H
        have H' := Aside0.mk H
        clear H
        have hcall := laws_eqRevokedS.calls k _ _ l0_3 _ _ l1_3 t300 W7 (Kd.C_below HR0_3.out HB.out) HC0_3.out (Kd.C_below HR1_3.out HB.out) HC1_3.out hm
        clear hm
        go_wp2_with fail
        refine hcall.mono ?_
        rintro e W9 ⟨rfl, hb⟩
        clear hcall
        have Z9 := Aside0.mk hb.size
        have h_ := blk_below BK1.out hb
        clear BK1 c_BK1 z_BK1
        have BK1 := Aside0.mk h_
        have c_BK1 := blk_cell h_
        have z_BK1 := blk_frozen h_
        clear h_
        have h_ := blk_below BK2.out hb
        clear BK2 c_BK2 z_BK2
        have BK2 := Aside0.mk h_
        have c_BK2 := blk_cell h_
        have z_BK2 := blk_frozen h_
        clear h_
        have hB_ := below_step HB.out hb
        clear HB hb
        have HB := Aside0.mk hB_
        clear hB_
        have H := H'.out
        clear H'
        by_cases c10 : t300 = true
        · rw [if_pos c10] at H
          subst c10
          by_cases c11 : a0_4 = a1_4
          · rw [if_pos c11] at H
            have c11_1 : (a0_4 == a1_4) = true := beq_iff_eq.mpr c11
            have c11_2 : (a0_4 != a1_4) = false := bne_eq_false_iff_eq.mpr c11
            have c11_0 : decide (a0_4 = a1_4) = true := decide_eq_true c11
            clear c11
            replace H := Option.bind_eq_some_iff.mp H
            obtain ⟨t301, hm, H⟩ := H
            try dsimp only at H
            have H' := Aside0.mk H
            clear H
            have hcall := laws_eqCertS.calls k _ _ l0_5 _ _ l1_5 t301 W9 (Kd.C_below HR0_5.out HB.out) HC0_5.out (Kd.C_below HR1_5.out HB.out) HC1_5.out hm
            clear hm
            go_wp2_with fail
            refine hcall.mono ?_
            rintro e W12 ⟨rfl, hb⟩
            clear hcall
            have Z12 := Aside0.mk hb.size
            have h_ := blk_below BK1.out hb
            clear BK1 c_BK1 z_BK1
            have BK1 := Aside0.mk h_
            have c_BK1 := blk_cell h_
            have z_BK1 := blk_frozen h_
            clear h_
            have h_ := blk_below BK2.out hb
            clear BK2 c_BK2 z_BK2
            have BK2 := Aside0.mk h_
            have c_BK2 := blk_cell h_
            have z_BK2 := blk_frozen h_
            clear h_
            have hB_ := below_step HB.out hb
            clear HB hb
            have HB := Aside0.mk hB_
            clear hB_
            have H := H'.out
            clear H'
            by_cases c13 : t301 = true
            · rw [if_pos c13] at H
              subst c13
              obtain rfl := Option.some.inj H
              clear H
              go_wp2
              go_ret
              exact ⟨rfl, HB.out⟩
            · rw [if_neg c13] at H
              replace c13 : t301 = false := by simpa using c13
              subst c13
              obtain rfl := Option.some.inj H
              clear H
              go_wp2
              go_ret
              exact ⟨rfl, HB.out⟩
          · rw [if_neg c11] at H
            have c11_1 : (a0_4 == a1_4) = false := beq_eq_false_iff_ne.mpr c11
            have c11_2 : (a0_4 != a1_4) = true := bne_iff_ne.mpr c11
            have c11_0 : decide (a0_4 = a1_4) = false := decide_eq_false c11
            clear c11
            obtain rfl := Option.some.inj H
            clear H
            go_wp2
            go_ret
            exact ⟨rfl, HB.out⟩
        · rw [if_neg c10] at H
          replace c10 : t300 = false := by simpa using c10
          subst c10
          obtain rfl := Option.some.inj H
          clear H
          go_wp2
          go_ret
          exact ⟨rfl, HB.out⟩
      · rw [if_neg c8] at H
        replace c8 : t299 = false := by simpa using c8
        subst c8
        obtain rfl := Option.some.inj H
        clear H
        go_wp2
        go_ret
        exact ⟨rfl, HB.out⟩
    · rw [if_neg c6] at H
      replace c6 : t298 = false := by simpa using c6
      subst c6
      obtain rfl := Option.some.inj H
      clear H
      go_wp2
      go_ret
      exact ⟨rfl, HB.out⟩
  · rw [if_neg c4] at H
    replace c4 : t297 = false := by simpa using c4
    subst c4
    obtain rfl := Option.some.inj H
    clear H
    go_wp2
    go_ret
    exact ⟨rfl, HB.out⟩

end Go.Proofs.Ytineejdlpcgnkaa.QFnExactExposure
