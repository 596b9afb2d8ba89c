/- The machine side of FnExactOldestSync: what each function that it reaches computes, and that the machine's call gives just that. -/
import Derived.Test.YtineejdlpcgnkaaQFnExactOldestSyncx0
import Derived.Test.YtineejdlpcgnkaaQFnExactOldestSyncx7
import Derived.Test.YtineejdlpcgnkaaQFnExactOldestSyncx8
import Derived.Test.YtineejdlpcgnkaaQFnExactOldestSyncx9
namespace Go.Proofs.Ytineejdlpcgnkaa.QFnExactOldestSync
open Go.RowKit Go.Proofs.YtineejdlpcgnkaaW.PrintWords Go.Proofs.YtineejdlpcgnkaaW.PrintLast Go.Proofs.YtineejdlpcgnkaaW.PrintMore
attribute [local go_sem] max2_int min2_int max_two min_two max_three min_three max_four min_four   -- for this text's walks alone
set_option linter.unusedVariables false
set_option linter.unusedSimpArgs false

/-! ### laws_eqPoint: function 15 -/
def laws_eqPoint.f (k : Nat) (a0_0 : Int) (a0_1 : Int) (a0_2 : Int) (l0_3 : List (S149)) (a0_4 : Int) (l0_5 : List (S174)) (l0_6 : List (S132)) (l0_7 : List (S99)) (a0_8 : Int) (l0_9 : List (S103)) (a1_0 : Int) (a1_1 : Int) (a1_2 : Int) (l1_3 : List (S149)) (a1_4 : Int) (l1_5 : List (S174)) (l1_6 : List (S132)) (l1_7 : List (S99)) (a1_8 : Int) (l1_9 : List (S103)) : Option (Bool) := if a0_0 = a1_0 then ((laws_eqEpoch.f k a0_1 a0_2 l0_3 a0_4 l0_5 a1_1 a1_2 l1_3 a1_4 l1_5).bind fun t332 => (if t332 = true then ((laws_eqFactS.f k l0_6 l1_6).bind fun t333 => (if t333 = true then ((laws_eqRevokedS.f k l0_7 l1_7).bind fun t334 => (if t334 = true then (if a0_8 = a1_8 then ((laws_eqSavedS.f k l0_9 l1_9).bind fun t335 => (if t335 = true then (some true) else (some false))) else (some false)) else (some false))) else (some false))) else (some false))) else (some false)
theorem laws_eqPoint.mono : ∀ a0 a1 a2 a3 a4 a5 a6 a7 a8 a9 a10 a11 a12 a13 a14 a15 a16 a17 a18 a19 k, LeO (laws_eqPoint.f k a0 a1 a2 a3 a4 a5 a6 a7 a8 a9 a10 a11 a12 a13 a14 a15 a16 a17 a18 a19) (laws_eqPoint.f (k + 1) a0 a1 a2 a3 a4 a5 a6 a7 a8 a9 a10 a11 a12 a13 a14 a15 a16 a17 a18 a19) := by
  intro a0 a1 a2 a3 a4 a5 a6 a7 a8 a9 a10 a11 a12 a13 a14 a15 a16 a17 a18 a19 k
  unfold laws_eqPoint.f
  repeat' first
      | (with_reducible exact laws_eqEpoch.mono _ _ _ _ _ _ _ _ _ _ _)
      | (with_reducible exact laws_eqFactS.mono _ _ _)
      | (with_reducible exact laws_eqRevokedS.mono _ _ _)
      | (with_reducible exact laws_eqSavedS.mono _ _ _)
      | (with_reducible exact LeO.refl _)
      | (with_reducible exact LeO.none _)
      | (with_reducible refine LeO.ite ?_ ?_)
      | (with_reducible refine LeO.bind ?_ (fun _ => ?_))
      | exact laws_eqEpoch.mono _ _ _ _ _ _ _ _ _ _ _
      | exact laws_eqFactS.mono _ _ _
      | exact laws_eqRevokedS.mono _ _ _
      | exact laws_eqSavedS.mono _ _ _
      | exact LeO.none _
      | refine LeO.ite ?_ ?_
      | refine LeO.bind ?_ (fun _ => ?_)
set_option maxHeartbeats 8000000 in
set_option maxRecDepth 100000 in
theorem laws_eqPoint.calls (k : Nat) (a0_0 : Int) (a0_1 : Int) (a0_2 : Int) (A0_3 : Option Addr) (c0_3 : Nat) (l0_3 : List (S149)) (a0_4 : Int) (A0_5 : Option Addr) (c0_5 : Nat) (l0_5 : List (S174)) (A0_6 : Option Addr) (c0_6 : Nat) (l0_6 : List (S132)) (A0_7 : Option Addr) (c0_7 : Nat) (l0_7 : List (S99)) (a0_8 : Int) (A0_9 : Option Addr) (c0_9 : Nat) (l0_9 : List (S103)) (a1_0 : Int) (a1_1 : Int) (a1_2 : Int) (A1_3 : Option Addr) (c1_3 : Nat) (l1_3 : List (S149)) (a1_4 : Int) (A1_5 : Option Addr) (c1_5 : Nat) (l1_5 : List (S174)) (A1_6 : Option Addr) (c1_6 : Nat) (l1_6 : List (S132)) (A1_7 : Option Addr) (c1_7 : Nat) (l1_7 : List (S99)) (a1_8 : Int) (A1_9 : Option Addr) (c1_9 : Nat) (l1_9 : List (S103)) (r : Bool) (w : World) (hr0_3 : Kd.C k149 w A0_3 l0_3.length l0_3) (hc0_3 : l0_3.length ≤ c0_3) (hr0_5 : Kd.C k174 w A0_5 l0_5.length l0_5) (hc0_5 : l0_5.length ≤ c0_5) (hr0_6 : Kd.C k132 w A0_6 l0_6.length l0_6) (hc0_6 : l0_6.length ≤ c0_6) (hr0_7 : Kd.C k99 w A0_7 l0_7.length l0_7) (hc0_7 : l0_7.length ≤ c0_7) (hr0_9 : Kd.C k103 w A0_9 l0_9.length l0_9) (hc0_9 : l0_9.length ≤ c0_9) (hr1_3 : Kd.C k149 w A1_3 l1_3.length l1_3) (hc1_3 : l1_3.length ≤ c1_3) (hr1_5 : Kd.C k174 w A1_5 l1_5.length l1_5) (hc1_5 : l1_5.length ≤ c1_5) (hr1_6 : Kd.C k132 w A1_6 l1_6.length l1_6) (hc1_6 : l1_6.length ≤ c1_6) (hr1_7 : Kd.C k99 w A1_7 l1_7.length l1_7) (hc1_7 : l1_7.length ≤ c1_7) (hr1_9 : Kd.C k103 w A1_9 l1_9.length l1_9) (hc1_9 : l1_9.length ≤ c1_9) (h : laws_eqPoint.f k a0_0 a0_1 a0_2 l0_3 a0_4 l0_5 l0_6 l0_7 a0_8 l0_9 a1_0 a1_1 a1_2 l1_3 a1_4 l1_5 l1_6 l1_7 a1_8 l1_9 = some r) :
    Calls Try.prog 15 #[.agg #[.int .i64 a0_0, .int .i64 a0_1, .int .i64 a0_2, .slice A0_3 l0_3.length c0_3, .int .i64 a0_4, .slice A0_5 l0_5.length c0_5, .slice A0_6 l0_6.length c0_6, .slice A0_7 l0_7.length c0_7, .int .i64 a0_8, .slice A0_9 l0_9.length c0_9], .agg #[.int .i64 a1_0, .int .i64 a1_1, .int .i64 a1_2, .slice A1_3 l1_3.length c1_3, .int .i64 a1_4, .slice A1_5 l1_5.length c1_5, .slice A1_6 l1_6.length c1_6, .slice A1_7 l1_7.length c1_7, .int .i64 a1_8, .slice A1_9 l1_9.length c1_9]] w fun e w' => e = .returned (.bool r) ∧ Below w.heap.size w w' := by
  have HR0_3 := Aside0.mk hr0_3
  have HC0_3 := Aside0.mk hc0_3
  clear hr0_3 hc0_3
  have HR0_5 := Aside0.mk hr0_5
  have HC0_5 := Aside0.mk hc0_5
  clear hr0_5 hc0_5
  have HR0_6 := Aside0.mk hr0_6
  have HC0_6 := Aside0.mk hc0_6
  clear hr0_6 hc0_6
  have HR0_7 := Aside0.mk hr0_7
  have HC0_7 := Aside0.mk hc0_7
  clear hr0_7 hc0_7
  have HR0_9 := Aside0.mk hr0_9
  have HC0_9 := Aside0.mk hc0_9
  clear hr0_9 hc0_9
  have HR1_3 := Aside0.mk hr1_3
  have HC1_3 := Aside0.mk hc1_3
  clear hr1_3 hc1_3
  have HR1_5 := Aside0.mk hr1_5
  have HC1_5 := Aside0.mk hc1_5
  clear hr1_5 hc1_5
  have HR1_6 := Aside0.mk hr1_6
  have HC1_6 := Aside0.mk hc1_6
  clear hr1_6 hc1_6
  have HR1_7 := Aside0.mk hr1_7
  have HC1_7 := Aside0.mk hc1_7
  clear hr1_7 hc1_7
  have HR1_9 := Aside0.mk hr1_9
  have HC1_9 := Aside0.mk hc1_9
  clear hr1_9 hc1_9
  have HB := Aside0.mk (Below.refl w.heap.size w)
  have H := h
  clear h
  unfold laws_eqPoint.f at H
  have hu40 := Try.underlying40
  have hu45 := Try.underlying45
  go_enter Try.func15, Try.ntmps15
  by_cases c3 : a0_0 = a1_0
  · rw [if_pos c3] at H
    have c3_1 : (a0_0 == a1_0) = true := beq_iff_eq.mpr c3
    have c3_2 : (a0_0 != a1_0) = false := bne_eq_false_iff_eq.mpr c3
    have c3_0 : decide (a0_0 = a1_0) = true := decide_eq_true c3
    clear c3
    have H'' := Aside0.mk H
    clear H
    go_wp2_with (first | ((with_reducible refine gate_dst (N := 2) rfl ?_); refine box_event ?hg (N := 2) ?hd (cs := #[.int .i64 a0_0, .int .i64 a0_1, .int .i64 a0_2, .slice A0_3 l0_3.length c0_3, .int .i64 a0_4, .slice A0_5 l0_5.length c0_5, .slice A0_6 l0_6.length c0_6, .slice A0_7 l0_7.length c0_7, .int .i64 a0_8, .slice A0_9 l0_9.length c0_9]) (t := 45) ?hr ?_; (case hd => rfl); (case hg => rfl); (case hr => first | (go_simp; done) | (go_simp; rfl)); intro gb1 hg W1 hbox hb; have Z1 := Aside0.mk hb.size; have E1 := Aside0.mk (And.intro hg (blk_lt hbox)); have BK1 := Aside0.mk hbox; have c_BK1 := blk_cell hbox; have z_BK1 := blk_frozen hbox; have hB_ := below_step HB.out hb; clear HB hb hbox hg; have HB := Aside0.mk hB_; clear hB_) | ((with_reducible refine gate_dst (N := 3) rfl ?_); refine box_event ?hg (N := 3) ?hd (cs := #[.int .i64 a1_0, .int .i64 a1_1, .int .i64 a1_2, .slice A1_3 l1_3.length c1_3, .int .i64 a1_4, .slice A1_5 l1_5.length c1_5, .slice A1_6 l1_6.length c1_6, .slice A1_7 l1_7.length c1_7, .int .i64 a1_8, .slice A1_9 l1_9.length c1_9]) (t := 45) ?hr ?_; (case hd => rfl); (case hg => rfl); (case hr => first | (go_simp; done) | (go_simp; rfl)); intro gb2 hg W2 hbox hb; have Z2 := Aside0.mk hb.size; have E2 := Aside0.mk (And.intro hg (blk_lt hbox)); have h_ := blk_below BK1.out hb; clear BK1 c_BK1 z_BK1; have BK1 := Aside0.mk h_; have c_BK1 := blk_cell h_; have z_BK1 := blk_frozen h_; clear h_; have BK2 := Aside0.mk hbox; have c_BK2 := blk_cell hbox; have z_BK2 := blk_frozen hbox; have hB_ := below_step HB.out hb; clear HB hb hbox hg; have HB := Aside0.mk hB_; clear hB_))
    have H := H''.out
    clear H''
    obtain ⟨t332, hm, H⟩ := Option.bind_eq_some_iff.mp H
    try dsimp only at H
    have H' := Aside0.mk H
    clear H
    have hcall := laws_eqEpoch.calls k a0_1 a0_2 _ _ l0_3 a0_4 _ _ l0_5 a1_1 a1_2 _ _ l1_3 a1_4 _ _ l1_5 t332 W2 (Kd.C_below HR0_3.out HB.out) HC0_3.out (Kd.C_below HR0_5.out HB.out) HC0_5.out (Kd.C_below HR1_3.out HB.out) HC1_3.out (Kd.C_below HR1_5.out HB.out) HC1_5.out hm
    clear hm
    try go_wp2_with fail
    refine hcall.mono ?_
    rintro e W4 ⟨rfl, hb⟩
    clear hcall
    have Z4 := Aside0.mk hb.size
    have h_ := blk_below BK1.out hb
    clear BK1 c_BK1 z_BK1
    have BK1 := Aside0.mk h_
    have c_BK1 := blk_cell h_
    have z_BK1 := blk_frozen h_
    clear h_
    have h_ := blk_below BK2.out hb
    clear BK2 c_BK2 z_BK2
    have BK2 := Aside0.mk h_
    have c_BK2 := blk_cell h_
    have z_BK2 := blk_frozen h_
    clear h_
    have hB_ := below_step HB.out hb
    clear HB hb
    have HB := Aside0.mk hB_
    clear hB_
    have H := H'.out
    clear H'
    by_cases c5 : t332 = true
    · rw [if_pos c5] at H
      subst c5
      obtain ⟨t333, hm, H⟩ := Option.bind_eq_some_iff.mp H
      try dsimp only at H
      have H' := Aside0.mk H
      clear H
      have hcall := laws_eqFactS.calls k _ _ l0_6 _ _ l1_6 t333 W4 (Kd.C_below HR0_6.out HB.out) HC0_6.out (Kd.C_below HR1_6.out HB.out) HC1_6.out hm
      clear hm
      go_wp2_with fail
      refine hcall.mono ?_
      rintro e W6 ⟨rfl, hb⟩
      clear hcall
      have Z6 := Aside0.mk hb.size
      have h_ := blk_below BK1.out hb
      clear BK1 c_BK1 z_BK1
      have BK1 := Aside0.mk h_
      have c_BK1 := blk_cell h_
      have z_BK1 := blk_frozen h_
      clear h_
      have h_ := blk_below BK2.out hb
      clear BK2 c_BK2 z_BK2
      have BK2 := Aside0.mk h_
      have c_BK2 := blk_cell h_
      have z_BK2 := blk_frozen h_
      clear h_
      have hB_ := below_step HB.out hb
      clear HB hb
      have HB := Aside0.mk hB_
      clear hB_
      have H := H'.out
      clear H'
      by_cases c7 : t333 = true
      · rw [if_pos c7] at H
        subst c7
        obtain ⟨t334, hm, H⟩ := Option.bind_eq_some_iff.mp H
        try dsimp only at H
        have H' := Aside0.mk H
        clear H
        have hcall := laws_eqRevokedS.calls k _ _ l0_7 _ _ l1_7 t334 W6 (Kd.C_below HR0_7.out HB.out) HC0_7.out (Kd.C_below HR1_7.out HB.out) HC1_7.out hm
        clear hm
        go_wp2_with fail
        refine hcall.mono ?_
        rintro e W8 ⟨rfl, hb⟩
        clear hcall
        have Z8 := Aside0.mk hb.size
        have h_ := blk_below BK1.out hb
        clear BK1 c_BK1 z_BK1
        have BK1 := Aside0.mk h_
        have c_BK1 := blk_cell h_
        have z_BK1 := blk_frozen h_
        clear h_
        have h_ := blk_below BK2.out hb
        clear BK2 c_BK2 z_BK2
        have BK2 := Aside0.mk h_
        have c_BK2 := blk_cell h_
        have z_BK2 := blk_frozen h_
        clear h_
        have hB_ := below_step HB.out hb
        clear HB hb
        have HB := Aside0.mk hB_
        clear hB_
        have H := H'.out
        clear H'
        by_cases c9 : t334 = true
        · rw [if_pos c9] at H
          subst c9
          by_cases c10 : a0_8 = a1_8
          · rw [if_pos c10] at H
            have c10_1 : (a0_8 == a1_8) = true := beq_iff_eq.mpr c10
            have c10_2 : (a0_8 != a1_8) = false := bne_eq_false_iff_eq.mpr c10
            have c10_0 : decide (a0_8 = a1_8) = true := decide_eq_true c10
            clear c10
            obtain ⟨t335, hm, H⟩ := Option.bind_eq_some_iff.mp H
            try dsimp only at H
            have H' := Aside0.mk H
            clear H
            have hcall := laws_eqSavedS.calls k _ _ l0_9 _ _ l1_9 t335 W8 (Kd.C_below HR0_9.out HB.out) HC0_9.out (Kd.C_below HR1_9.out HB.out) HC1_9.out hm
            clear hm
            go_wp2_with fail
            refine hcall.mono ?_
            rintro e W11 ⟨rfl, hb⟩
            clear hcall
            have Z11 := Aside0.mk hb.size
            have h_ := blk_below BK1.out hb
            clear BK1 c_BK1 z_BK1
            have BK1 := Aside0.mk h_
            have c_BK1 := blk_cell h_
            have z_BK1 := blk_frozen h_
            clear h_
            have h_ := blk_below BK2.out hb
            clear BK2 c_BK2 z_BK2
            have BK2 := Aside0.mk h_
            have c_BK2 := blk_cell h_
            have z_BK2 := blk_frozen h_
            clear h_
            have hB_ := below_step HB.out hb
            clear HB hb
            have HB := Aside0.mk hB_
            clear hB_
            have H := H'.out
            clear H'
            by_cases c12 : t335 = true
            · rw [if_pos c12] at H
              subst c12
              obtain rfl := Option.some.inj H
              clear H
              go_wp2
              go_ret
              exact ⟨rfl, HB.out⟩
            · rw [if_neg c12] at H
              replace c12 : t335 = false := by simpa using c12
              subst c12
              obtain rfl := Option.some.inj H
              clear H
              go_wp2
              go_ret
              exact ⟨rfl, HB.out⟩
          · rw [if_neg c10] at H
            have c10_1 : (a0_8 == a1_8) = false := beq_eq_false_iff_ne.mpr c10
            have c10_2 : (a0_8 != a1_8) = true := bne_iff_ne.mpr c10
            have c10_0 : decide (a0_8 = a1_8) = false := decide_eq_false c10
            clear c10
            obtain rfl := Option.some.inj H
            clear H
            go_wp2
            go_ret
            exact ⟨rfl, HB.out⟩
        · rw [if_neg c9] at H
          replace c9 : t334 = false := by simpa using c9
          subst c9
          obtain rfl := Option.some.inj H
          clear H
          go_wp2
          go_ret
          exact ⟨rfl, HB.out⟩
      · rw [if_neg c7] at H
        replace c7 : t333 = false := by simpa using c7
        subst c7
        obtain rfl := Option.some.inj H
        clear H
        go_wp2
        go_ret
        exact ⟨rfl, HB.out⟩
    · rw [if_neg c5] at H
      replace c5 : t332 = false := by simpa using c5
      subst c5
      obtain rfl := Option.some.inj H
      clear H
      go_wp2
      go_ret
      exact ⟨rfl, HB.out⟩
  · rw [if_neg c3] at H
    have c3_1 : (a0_0 == a1_0) = false := beq_eq_false_iff_ne.mpr c3
    have c3_2 : (a0_0 != a1_0) = true := bne_iff_ne.mpr c3
    have c3_0 : decide (a0_0 = a1_0) = false := decide_eq_false c3
    clear c3
    have H'' := Aside0.mk H
    clear H
    go_wp2_with (first | ((with_reducible refine gate_dst (N := 2) rfl ?_); refine box_event ?hg (N := 2) ?hd (cs := #[.int .i64 a0_0, .int .i64 a0_1, .int .i64 a0_2, .slice A0_3 l0_3.length c0_3, .int .i64 a0_4, .slice A0_5 l0_5.length c0_5, .slice A0_6 l0_6.length c0_6, .slice A0_7 l0_7.length c0_7, .int .i64 a0_8, .slice A0_9 l0_9.length c0_9]) (t := 45) ?hr ?_; (case hd => rfl); (case hg => rfl); (case hr => first | (go_simp; done) | (go_simp; rfl)); intro gb1 hg W1 hbox hb; have Z1 := Aside0.mk hb.size; have E1 := Aside0.mk (And.intro hg (blk_lt hbox)); have BK1 := Aside0.mk hbox; have c_BK1 := blk_cell hbox; have z_BK1 := blk_frozen hbox; have hB_ := below_step HB.out hb; clear HB hb hbox hg; have HB := Aside0.mk hB_; clear hB_) | ((with_reducible refine gate_dst (N := 3) rfl ?_); refine box_event ?hg (N := 3) ?hd (cs := #[.int .i64 a1_0, .int .i64 a1_1, .int .i64 a1_2, .slice A1_3 l1_3.length c1_3, .int .i64 a1_4, .slice A1_5 l1_5.length c1_5, .slice A1_6 l1_6.length c1_6, .slice A1_7 l1_7.length c1_7, .int .i64 a1_8, .slice A1_9 l1_9.length c1_9]) (t := 45) ?hr ?_; (case hd => rfl); (case hg => rfl); (case hr => first | (go_simp; done) | (go_simp; rfl)); intro gb2 hg W2 hbox hb; have Z2 := Aside0.mk hb.size; have E2 := Aside0.mk (And.intro hg (blk_lt hbox)); have h_ := blk_below BK1.out hb; clear BK1 c_BK1 z_BK1; have BK1 := Aside0.mk h_; have c_BK1 := blk_cell h_; have z_BK1 := blk_frozen h_; clear h_; have BK2 := Aside0.mk hbox; have c_BK2 := blk_cell hbox; have z_BK2 := blk_frozen hbox; have hB_ := below_step HB.out hb; clear HB hb hbox hg; have HB := Aside0.mk hB_; clear hB_))
    have H := H''.out
    clear H''
    obtain rfl := Option.some.inj H
    clear H
    try go_wp2
    go_ret
    exact ⟨rfl, HB.out⟩

/-! ### laws_eqPointS: function 20 -/
def laws_eqPointS.l0 : Nat → List (S45) → List (S45) → Int → Option (Bool)
  | 0, _, _, _ => none
  | k + 1, x0, x1, x5 => if x5 < (x0.length : Int) then (if 0 ≤ x5 then (if x5 < (x1.length : Int) then ((laws_eqPoint.f k ((rd_T45 x0 x5).f0) ((rd_T45 x0 x5).f1.f0) ((rd_T45 x0 x5).f1.f1) ((rd_T45 x0 x5).f1.f2) ((rd_T45 x0 x5).f1.f3.f0) ((rd_T45 x0 x5).f1.f3.f1) ((rd_T45 x0 x5).f2) ((rd_T45 x0 x5).f3) ((rd_T45 x0 x5).f4) ((rd_T45 x0 x5).f5) ((rd_T45 x1 x5).f0) ((rd_T45 x1 x5).f1.f0) ((rd_T45 x1 x5).f1.f1) ((rd_T45 x1 x5).f1.f2) ((rd_T45 x1 x5).f1.f3.f0) ((rd_T45 x1 x5).f1.f3.f1) ((rd_T45 x1 x5).f2) ((rd_T45 x1 x5).f3) ((rd_T45 x1 x5).f4) ((rd_T45 x1 x5).f5)).bind fun t338 => (if t338 = true then (laws_eqPointS.l0 k x0 x1 (wrap64 (x5 + 1))) else (some false))) else (none)) else (none)) else (some true)
def laws_eqPointS.f (k : Nat) (l0 : List (S45)) (l1 : List (S45)) : Option (Bool) := if (l0.length : Int) = (l1.length : Int) then (laws_eqPointS.l0 k l0 l1 0) else (some false)
theorem laws_eqPointS.mono_l : ∀ k, (∀ y0 y1 y2, LeO (laws_eqPointS.l0 k y0 y1 y2) (laws_eqPointS.l0 (k + 1) y0 y1 y2))
  | 0 => fun _ _ _ r h => by simp [laws_eqPointS.l0] at h
  | k + 1 => by
    have ih0 := laws_eqPointS.mono_l k
    · intro y0 y1 y2
      unfold laws_eqPointS.l0
      repeat' first
      | (with_reducible exact ih0 _ _ _)
      | (with_reducible exact laws_eqPoint.mono _ _ _ _ _ _ _ _ _ _ _ _ _ _ _ _ _ _ _ _ _)
      | (with_reducible exact LeO.refl _)
      | (with_reducible exact LeO.none _)
      | (with_reducible refine LeO.ite ?_ ?_)
      | (with_reducible refine LeO.bind ?_ (fun _ => ?_))
      | exact ih0 _ _ _
      | exact laws_eqPoint.mono _ _ _ _ _ _ _ _ _ _ _ _ _ _ _ _ _ _ _ _ _
      | exact LeO.none _
      | refine LeO.ite ?_ ?_
      | refine LeO.bind ?_ (fun _ => ?_)
theorem laws_eqPointS.mono : ∀ a0 a1 k, LeO (laws_eqPointS.f k a0 a1) (laws_eqPointS.f (k + 1) a0 a1) := by
  intro a0 a1 k
  have ih0 := laws_eqPointS.mono_l k
  unfold laws_eqPointS.f
  repeat' first
      | (with_reducible exact ih0 _ _ _)
      | (with_reducible exact laws_eqPoint.mono _ _ _ _ _ _ _ _ _ _ _ _ _ _ _ _ _ _ _ _ _)
      | (with_reducible exact LeO.refl _)
      | (with_reducible exact LeO.none _)
      | (with_reducible refine LeO.ite ?_ ?_)
      | (with_reducible refine LeO.bind ?_ (fun _ => ?_))
      | exact ih0 _ _ _
      | exact laws_eqPoint.mono _ _ _ _ _ _ _ _ _ _ _ _ _ _ _ _ _ _ _ _ _
      | exact LeO.none _
      | refine LeO.ite ?_ ?_
      | refine LeO.bind ?_ (fun _ => ?_)
def laws_eqPointS.T6 : Bool × List (List Nat × List Nat) := (true, [([], []), ([], []), ([0, 1], [0, 1]), ([2], [2]), ([], []), ([], []), ([4, 5], [4, 5]), ([6], [6]), ([3, 7], [3, 7]), ([8], [8])])
def laws_eqPointS.B6 : List Nat := [0, 0, 3, 7, 0, 0, 48, 112, 255, 511]
theorem laws_eqPointS.tab6 : rtab .any (opsOf Try.f20 6) = laws_eqPointS.T6 := by kernel_rfl
theorem laws_eqPointS.bits6 : waitsOk laws_eqPointS.T6.2 laws_eqPointS.B6 = true := by kernel_rfl
set_option maxHeartbeats 8000000 in
set_option maxRecDepth 100000 in
theorem laws_eqPointS.calls (k : Nat) (A0 : Option Addr) (c0 : Nat) (l0 : List (S45)) (A1 : Option Addr) (c1 : Nat) (l1 : List (S45)) (r : Bool) (w : World) (hr0 : Kd.C k45 w A0 l0.length l0) (hc0 : l0.length ≤ c0) (hr1 : Kd.C k45 w A1 l1.length l1) (hc1 : l1.length ≤ c1) (h : laws_eqPointS.f k l0 l1 = some r) :
    Calls Try.prog 20 #[.slice A0 l0.length c0, .slice A1 l1.length c1] w fun e w' => e = .returned (.bool r) ∧ Below w.heap.size w w' := by
  have hu45 := Try.underlying45
  have HR0 := Aside0.mk hr0
  have HC0 := Aside0.mk hc0
  clear hr0 hc0
  have HR1 := Aside0.mk hr1
  have HC1 := Aside0.mk hc1
  clear hr1 hc1
  have HB := Aside0.mk (Below.refl w.heap.size w)
  have H : (if (l0.length : Int) = (l1.length : Int) then (laws_eqPointS.l0 k l0 l1 0) else (some false)) = some r := h
  clear h
  by_cases c3 : (l0.length : Int) = (l1.length : Int)
  · rw [if_pos c3] at H
    have c3b0 : ((l0.length : Int) == (l1.length : Int)) = true := beq_iff_eq.mpr c3
    have c3b1 : ((l0.length : Int) != (l1.length : Int)) = false := bne_eq_false_iff_eq.mpr c3
    have c3b2 : (l0.length == l1.length) = true := by first | simpa using c3 | (simp at c3 ⊢; omega)
    clear c3
    have H' := Aside0.mk H
    clear H
    go_enter Try.func20, Try.ntmps20
    go_wp2
    go_loopg [5] k (fun kq v5 w' => ∃ (x5_1 : Int), v5 = .int .i64 x5_1 ∧ Aside0 (laws_eqPointS.l0 kq l0 l1 x5_1 = some r) ∧ Aside0 (kq ≤ k) ∧ Aside0 (Below w.heap.size w w'))
    case atStart => exact ⟨(0), (by first | rfl | (simp; done) | (simp [*]; done)), H', ⟨Nat.le_refl _⟩, ⟨by repeat (first | (with_reducible first | exact HB.out | apply below_alloc | apply pw_below_drewN | apply below_drew1) | exact HB.out)⟩⟩
    case round =>
      clear H'
      try clear c1
      try clear c2
      try clear p2
      try clear c3
      try clear c3b0
      try clear c3b1
      try clear c3b2
      obtain ⟨x5_1, rfl, HA, HK1, HB⟩ := hrel
      cases gk with
      | zero => exact absurd HA.out (by simp [laws_eqPointS.l0])
      | succ k1 =>
        have H := HA.out
        clear HA
        simp only [laws_eqPointS.l0] at H
        by_cases c4 : x5_1 < (l0.length : Int)
        · rw [if_pos c4] at H
          have c4b0 : decide (x5_1 < (l0.length : Int)) = true := decide_eq_true c4
          clear c4
          by_cases c5 : 0 ≤ x5_1
          · rw [if_pos c5] at H
            have c5b0 : decide (0 ≤ x5_1) = true := decide_eq_true c5
            clear c5
            by_cases c6 : x5_1 < (l1.length : Int)
            · rw [if_pos c6] at H
              have c6b0 : decide (x5_1 < (l1.length : Int)) = true := decide_eq_true c6
              clear c6
              replace H := Option.bind_eq_some_iff.mp H
              obtain ⟨t338, A70, H⟩ := H
              replace H : (if t338 = true then (laws_eqPointS.l0 k1 l0 l1 (wrap64 (x5_1 + 1))) else (some false)) = some r := H
              have A7 := Aside0.mk A70
              clear A70
              by_cases c8 : t338 = true
              · subst c8
                have H1 : (laws_eqPointS.l0 k1 l0 l1 (wrap64 (x5_1 + 1))) = some r := by rw [if_pos rfl] at H; exact H
                clear H
                have H := H1
                clear H1
                have H' := Aside0.mk H
                clear H
                try go_wp2
                have n0_ := Aside0.mk (below_drew1 HB.out)
                clear HB
                have HB := n0_
                clear n0_
                have p336 : 0 ≤ (x5_1 : Int) := of_decide_eq_true (by first | (with_reducible assumption) | assumption)
                have q336 : x5_1 < (l0.length : Int) := of_decide_eq_true (by first | (with_reducible assumption) | assumption)
                obtain ⟨ad336, A336_3, c336_3, A336_5, c336_5, A336_6, c336_6, A336_7, c336_7, A336_9, c336_9, e336, hx336_0, hx336_1, hx336_2, hx336_3, hx336_4, hx336_5, hx336_6, hx336_7, hx336_8, hx336_9, hl336_3, hi336_3, hl336_5, hi336_5, hl336_6, hi336_6, hl336_7, hi336_7, hl336_9, hi336_9⟩ := at_T45 HR0.out x5_1 p336 q336
                have hw336_9 := hx336_9
                have hw336_8 := hx336_8
                have hw336_7 := hx336_7
                have hw336_6 := hx336_6
                have hw336_5 := hx336_5
                have hw336_4 := hx336_4
                have hw336_3 := hx336_3
                have hw336_2 := hx336_2
                have hw336_1 := hx336_1
                have hw336_0 := hx336_0
                cases e336
                replace hx336_0 := (HB.out.cell (World.block_lt_of_cell? w _ hx336_0)).trans hx336_0
                replace hx336_1 := (HB.out.cell (World.block_lt_of_cell? w _ hx336_1)).trans hx336_1
                replace hx336_2 := (HB.out.cell (World.block_lt_of_cell? w _ hx336_2)).trans hx336_2
                replace hx336_3 := (HB.out.cell (World.block_lt_of_cell? w _ hx336_3)).trans hx336_3
                replace hx336_4 := (HB.out.cell (World.block_lt_of_cell? w _ hx336_4)).trans hx336_4
                replace hx336_5 := (HB.out.cell (World.block_lt_of_cell? w _ hx336_5)).trans hx336_5
                replace hx336_6 := (HB.out.cell (World.block_lt_of_cell? w _ hx336_6)).trans hx336_6
                replace hx336_7 := (HB.out.cell (World.block_lt_of_cell? w _ hx336_7)).trans hx336_7
                replace hx336_8 := (HB.out.cell (World.block_lt_of_cell? w _ hx336_8)).trans hx336_8
                replace hx336_9 := (HB.out.cell (World.block_lt_of_cell? w _ hx336_9)).trans hx336_9
                have HR336_3 := Aside0.mk hi336_3
                have HC336_3 := Aside0.mk hl336_3
                clear hi336_3 hl336_3
                have HR336_5 := Aside0.mk hi336_5
                have HC336_5 := Aside0.mk hl336_5
                clear hi336_5 hl336_5
                have HR336_6 := Aside0.mk hi336_6
                have HC336_6 := Aside0.mk hl336_6
                clear hi336_6 hl336_6
                have HR336_7 := Aside0.mk hi336_7
                have HC336_7 := Aside0.mk hl336_7
                clear hi336_7 hl336_7
                have HR336_9 := Aside0.mk hi336_9
                have HC336_9 := Aside0.mk hl336_9
                clear hi336_9 hl336_9
                replace p336 := eq_true p336
                replace q336 := eq_true q336
                have p337 : 0 ≤ (x5_1 : Int) := of_decide_eq_true (by first | (with_reducible assumption) | assumption)
                have q337 : x5_1 < (l1.length : Int) := of_decide_eq_true (by first | (with_reducible assumption) | assumption)
                obtain ⟨ad337, A337_3, c337_3, A337_5, c337_5, A337_6, c337_6, A337_7, c337_7, A337_9, c337_9, e337, hx337_0, hx337_1, hx337_2, hx337_3, hx337_4, hx337_5, hx337_6, hx337_7, hx337_8, hx337_9, hl337_3, hi337_3, hl337_5, hi337_5, hl337_6, hi337_6, hl337_7, hi337_7, hl337_9, hi337_9⟩ := at_T45 HR1.out x5_1 p337 q337
                have hw337_9 := hx337_9
                have hw337_8 := hx337_8
                have hw337_7 := hx337_7
                have hw337_6 := hx337_6
                have hw337_5 := hx337_5
                have hw337_4 := hx337_4
                have hw337_3 := hx337_3
                have hw337_2 := hx337_2
                have hw337_1 := hx337_1
                have hw337_0 := hx337_0
                cases e337
                replace hx337_0 := (HB.out.cell (World.block_lt_of_cell? w _ hx337_0)).trans hx337_0
                replace hx337_1 := (HB.out.cell (World.block_lt_of_cell? w _ hx337_1)).trans hx337_1
                replace hx337_2 := (HB.out.cell (World.block_lt_of_cell? w _ hx337_2)).trans hx337_2
                replace hx337_3 := (HB.out.cell (World.block_lt_of_cell? w _ hx337_3)).trans hx337_3
                replace hx337_4 := (HB.out.cell (World.block_lt_of_cell? w _ hx337_4)).trans hx337_4
                replace hx337_5 := (HB.out.cell (World.block_lt_of_cell? w _ hx337_5)).trans hx337_5
                replace hx337_6 := (HB.out.cell (World.block_lt_of_cell? w _ hx337_6)).trans hx337_6
                replace hx337_7 := (HB.out.cell (World.block_lt_of_cell? w _ hx337_7)).trans hx337_7
                replace hx337_8 := (HB.out.cell (World.block_lt_of_cell? w _ hx337_8)).trans hx337_8
                replace hx337_9 := (HB.out.cell (World.block_lt_of_cell? w _ hx337_9)).trans hx337_9
                have HR337_3 := Aside0.mk hi337_3
                have HC337_3 := Aside0.mk hl337_3
                clear hi337_3 hl337_3
                have HR337_5 := Aside0.mk hi337_5
                have HC337_5 := Aside0.mk hl337_5
                clear hi337_5 hl337_5
                have HR337_6 := Aside0.mk hi337_6
                have HC337_6 := Aside0.mk hl337_6
                clear hi337_6 hl337_6
                have HR337_7 := Aside0.mk hi337_7
                have HC337_7 := Aside0.mk hl337_7
                clear hi337_7 hl337_7
                have HR337_9 := Aside0.mk hi337_9
                have HC337_9 := Aside0.mk hl337_9
                clear hi337_9 hl337_9
                replace p337 := eq_true p337
                replace q337 := eq_true q337
                refine start_ (n := 10) (S := fun w' => w'.cell? (ad336.add ((x5_1).toNat * 10)) = some (.int .i64 ((rd_T45 l0 x5_1).f0)) ∧ w'.cell? ⟨(ad336.add ((x5_1).toNat * 10)).block, (ad336.add ((x5_1).toNat * 10)).off + 1, none⟩ = some (.int .i64 ((rd_T45 l0 x5_1).f1.f0)) ∧ w'.cell? ⟨(ad336.add ((x5_1).toNat * 10)).block, (ad336.add ((x5_1).toNat * 10)).off + 2, none⟩ = some (.int .i64 ((rd_T45 l0 x5_1).f1.f1)) ∧ w'.cell? ⟨(ad336.add ((x5_1).toNat * 10)).block, (ad336.add ((x5_1).toNat * 10)).off + 3, none⟩ = some (.slice A336_3 ((rd_T45 l0 x5_1).f1.f2).length c336_3) ∧ w'.cell? ⟨(ad336.add ((x5_1).toNat * 10)).block, (ad336.add ((x5_1).toNat * 10)).off + 4, none⟩ = some (.int .i64 ((rd_T45 l0 x5_1).f1.f3.f0)) ∧ w'.cell? ⟨(ad336.add ((x5_1).toNat * 10)).block, (ad336.add ((x5_1).toNat * 10)).off + 5, none⟩ = some (.slice A336_5 ((rd_T45 l0 x5_1).f1.f3.f1).length c336_5) ∧ w'.cell? ⟨(ad336.add ((x5_1).toNat * 10)).block, (ad336.add ((x5_1).toNat * 10)).off + 6, none⟩ = some (.slice A336_6 ((rd_T45 l0 x5_1).f2).length c336_6) ∧ w'.cell? ⟨(ad336.add ((x5_1).toNat * 10)).block, (ad336.add ((x5_1).toNat * 10)).off + 7, none⟩ = some (.slice A336_7 ((rd_T45 l0 x5_1).f3).length c336_7) ∧ w'.cell? ⟨(ad336.add ((x5_1).toNat * 10)).block, (ad336.add ((x5_1).toNat * 10)).off + 8, none⟩ = some (.int .i64 ((rd_T45 l0 x5_1).f4)) ∧ w'.cell? ⟨(ad336.add ((x5_1).toNat * 10)).block, (ad336.add ((x5_1).toNat * 10)).off + 9, none⟩ = some (.slice A336_9 ((rd_T45 l0 x5_1).f5).length c336_9) ∧ w'.cell? (ad337.add ((x5_1).toNat * 10)) = some (.int .i64 ((rd_T45 l1 x5_1).f0)) ∧ w'.cell? ⟨(ad337.add ((x5_1).toNat * 10)).block, (ad337.add ((x5_1).toNat * 10)).off + 1, none⟩ = some (.int .i64 ((rd_T45 l1 x5_1).f1.f0)) ∧ w'.cell? ⟨(ad337.add ((x5_1).toNat * 10)).block, (ad337.add ((x5_1).toNat * 10)).off + 2, none⟩ = some (.int .i64 ((rd_T45 l1 x5_1).f1.f1)) ∧ w'.cell? ⟨(ad337.add ((x5_1).toNat * 10)).block, (ad337.add ((x5_1).toNat * 10)).off + 3, none⟩ = some (.slice A337_3 ((rd_T45 l1 x5_1).f1.f2).length c337_3) ∧ w'.cell? ⟨(ad337.add ((x5_1).toNat * 10)).block, (ad337.add ((x5_1).toNat * 10)).off + 4, none⟩ = some (.int .i64 ((rd_T45 l1 x5_1).f1.f3.f0)) ∧ w'.cell? ⟨(ad337.add ((x5_1).toNat * 10)).block, (ad337.add ((x5_1).toNat * 10)).off + 5, none⟩ = some (.slice A337_5 ((rd_T45 l1 x5_1).f1.f3.f1).length c337_5) ∧ w'.cell? ⟨(ad337.add ((x5_1).toNat * 10)).block, (ad337.add ((x5_1).toNat * 10)).off + 6, none⟩ = some (.slice A337_6 ((rd_T45 l1 x5_1).f2).length c337_6) ∧ w'.cell? ⟨(ad337.add ((x5_1).toNat * 10)).block, (ad337.add ((x5_1).toNat * 10)).off + 7, none⟩ = some (.slice A337_7 ((rd_T45 l1 x5_1).f3).length c337_7) ∧ w'.cell? ⟨(ad337.add ((x5_1).toNat * 10)).block, (ad337.add ((x5_1).toNat * 10)).off + 8, none⟩ = some (.int .i64 ((rd_T45 l1 x5_1).f4)) ∧ w'.cell? ⟨(ad337.add ((x5_1).toNat * 10)).block, (ad337.add ((x5_1).toNat * 10)).off + 9, none⟩ = some (.slice A337_9 ((rd_T45 l1 x5_1).f5).length c337_9)) (ds := []) #[false, false, false, false, false, false, false, false, false, false] (by kernel_rfl) rfl rfl ⟨((HB.out.cell (World.block_lt_of_cell? w _ hw336_0)).trans hw336_0), ((HB.out.cell (World.block_lt_of_cell? w _ hw336_1)).trans hw336_1), ((HB.out.cell (World.block_lt_of_cell? w _ hw336_2)).trans hw336_2), ((HB.out.cell (World.block_lt_of_cell? w _ hw336_3)).trans hw336_3), ((HB.out.cell (World.block_lt_of_cell? w _ hw336_4)).trans hw336_4), ((HB.out.cell (World.block_lt_of_cell? w _ hw336_5)).trans hw336_5), ((HB.out.cell (World.block_lt_of_cell? w _ hw336_6)).trans hw336_6), ((HB.out.cell (World.block_lt_of_cell? w _ hw336_7)).trans hw336_7), ((HB.out.cell (World.block_lt_of_cell? w _ hw336_8)).trans hw336_8), ((HB.out.cell (World.block_lt_of_cell? w _ hw336_9)).trans hw336_9), ((HB.out.cell (World.block_lt_of_cell? w _ hw337_0)).trans hw337_0), ((HB.out.cell (World.block_lt_of_cell? w _ hw337_1)).trans hw337_1), ((HB.out.cell (World.block_lt_of_cell? w _ hw337_2)).trans hw337_2), ((HB.out.cell (World.block_lt_of_cell? w _ hw337_3)).trans hw337_3), ((HB.out.cell (World.block_lt_of_cell? w _ hw337_4)).trans hw337_4), ((HB.out.cell (World.block_lt_of_cell? w _ hw337_5)).trans hw337_5), ((HB.out.cell (World.block_lt_of_cell? w _ hw337_6)).trans hw337_6), ((HB.out.cell (World.block_lt_of_cell? w _ hw337_7)).trans hw337_7), ((HB.out.cell (World.block_lt_of_cell? w _ hw337_8)).trans hw337_8), ((HB.out.cell (World.block_lt_of_cell? w _ hw337_9)).trans hw337_9)⟩ (fun hHeld => ?_); refine with_tabW laws_eqPointS.tab6 laws_eqPointS.bits6 (fun HT_ HW_ => ?_)
                generalize wr.drew = w9 at HB HR336_3 HR336_5 HR336_6 HR336_7 HR336_9 HR337_3 HR337_5 HR337_6 HR337_7 HR337_9 hx336_0 hx336_1 hx336_2 hx336_3 hx336_4 hx336_5 hx336_6 hx336_7 hx336_8 hx336_9 hx337_0 hx337_1 hx337_2 hx337_3 hx337_4 hx337_5 hx337_6 hx337_7 hx337_8 hx337_9 hHeld ⊢
                refine pure_ (i := 0) (N := some 17) (v := ?_) (a' := ?_) #[true, false, false, false, false, false, false, false, false, false] rfl rfl (any_of HT_.out (by kernel_rfl)) (fun _ _ _ h => h) (Or.inl ⟨by rfl, ?_⟩) ?_ ?_
                rotate_left
                · intro w'
                  go_simp
                  with_reducible rfl
                rotate_left
                · simp only [Act.put, List.setIfInBounds_toArray, List.set_cons_zero, List.set_cons_succ, i64_w, i32_w]
                  rfl
                refine pure_ (i := 1) (N := some 18) (v := ?_) (a' := ?_) #[true, true, false, false, false, false, false, false, false, false] rfl rfl (any_of HT_.out (by kernel_rfl)) (fun _ _ _ h => h) (Or.inl ⟨by rfl, ?_⟩) ?_ ?_
                rotate_left
                · intro w'
                  go_simp
                  with_reducible rfl
                rotate_left
                · simp only [Act.put, List.setIfInBounds_toArray, List.set_cons_zero, List.set_cons_succ, i64_w, i32_w]
                  rfl
                refine pure_ (i := 2) (N := some 19) (v := ?_) (a' := ?_) #[true, true, true, false, false, false, false, false, false, false] rfl rfl (any_of HT_.out (by kernel_rfl)) (fun _ _ _ h => h) (Or.inl ⟨by rfl, ?_⟩) ?_ ?_
                rotate_left
                · intro w'
                  go_simp
                  with_reducible rfl
                rotate_left
                · simp only [Act.put, List.setIfInBounds_toArray, List.set_cons_zero, List.set_cons_succ, i64_w, i32_w]
                  rfl
                refine pure_ (i := 4) (N := some 21) (v := ?_) (a' := ?_) #[true, true, true, false, true, false, false, false, false, false] rfl rfl (any_of HT_.out (by kernel_rfl)) (fun _ _ _ h => h) (Or.inl ⟨by rfl, ?_⟩) ?_ ?_
                rotate_left
                · intro w'
                  go_simp
                  with_reducible rfl
                rotate_left
                · simp only [Act.put, List.setIfInBounds_toArray, List.set_cons_zero, List.set_cons_succ, i64_w, i32_w]
                  rfl
                refine pure_ (i := 5) (N := some 22) (v := ?_) (a' := ?_) #[true, true, true, false, true, true, false, false, false, false] rfl rfl (any_of HT_.out (by kernel_rfl)) (fun _ _ _ h => h) (Or.inl ⟨by rfl, ?_⟩) ?_ ?_
                rotate_left
                · intro w'
                  go_simp
                  with_reducible rfl
                rotate_left
                · simp only [Act.put, List.setIfInBounds_toArray, List.set_cons_zero, List.set_cons_succ, i64_w, i32_w]
                  rfl
                refine pure_ (i := 6) (N := some 23) (v := ?_) (a' := ?_) #[true, true, true, false, true, true, true, false, false, false] rfl rfl (any_of HT_.out (by kernel_rfl)) (fun _ _ _ h => h) (Or.inl ⟨by rfl, ?_⟩) ?_ ?_
                rotate_left
                · intro w'
                  go_simp
                  with_reducible rfl
                rotate_left
                · simp only [Act.put, List.setIfInBounds_toArray, List.set_cons_zero, List.set_cons_succ, i64_w, i32_w]
                  rfl
                refine take_ (i := 3) (N := some 20) (v := ?_) (a' := ?_) #[true, true, true, true, true, true, true, false, false, false] rfl rfl (take_ofW HT_.out HW_.out (by kernel_rfl)) (fun _ _ _ h => h) (Or.inl ⟨by rfl, ?_⟩) hHeld ?_ ?_
                rotate_left
                · rintro w' ⟨s0, s1, s2, s3, s4, s5, s6, s7, s8, s9, s10, s11, s12, s13, s14, s15, s16, s17, s18, s19⟩
                  go_simp
                  with_reducible rfl
                rotate_left
                · simp only [Act.put, List.setIfInBounds_toArray, List.set_cons_zero, List.set_cons_succ, i64_w, i32_w]
                  rfl
                refine take_ (i := 7) (N := some 24) (v := ?_) (a' := ?_) #[true, true, true, true, true, true, true, true, false, false] rfl rfl (take_ofW HT_.out HW_.out (by kernel_rfl)) (fun _ _ _ h => h) (Or.inl ⟨by rfl, ?_⟩) hHeld ?_ ?_
                rotate_left
                · rintro w' ⟨s0, s1, s2, s3, s4, s5, s6, s7, s8, s9, s10, s11, s12, s13, s14, s15, s16, s17, s18, s19⟩
                  go_simp
                  with_reducible rfl
                rotate_left
                · simp only [Act.put, List.setIfInBounds_toArray, List.set_cons_zero, List.set_cons_succ, i64_w, i32_w]
                  rfl
                refine one_ (i := 8) (N := some 25) #[true, true, true, true, true, true, true, true, true, false] rfl rfl (one_of HT_.out (by kernel_rfl)) (by decide) (fun K hK => ?_)
                refine goes_ Try.func15 (by kernel_rfl) rfl #[.agg #[.int .i64 ((rd_T45 l0 x5_1).f0), .int .i64 ((rd_T45 l0 x5_1).f1.f0), .int .i64 ((rd_T45 l0 x5_1).f1.f1), .slice A336_3 ((rd_T45 l0 x5_1).f1.f2).length c336_3, .int .i64 ((rd_T45 l0 x5_1).f1.f3.f0), .slice A336_5 ((rd_T45 l0 x5_1).f1.f3.f1).length c336_5, .slice A336_6 ((rd_T45 l0 x5_1).f2).length c336_6, .slice A336_7 ((rd_T45 l0 x5_1).f3).length c336_7, .int .i64 ((rd_T45 l0 x5_1).f4), .slice A336_9 ((rd_T45 l0 x5_1).f5).length c336_9], .agg #[.int .i64 ((rd_T45 l1 x5_1).f0), .int .i64 ((rd_T45 l1 x5_1).f1.f0), .int .i64 ((rd_T45 l1 x5_1).f1.f1), .slice A337_3 ((rd_T45 l1 x5_1).f1.f2).length c337_3, .int .i64 ((rd_T45 l1 x5_1).f1.f3.f0), .slice A337_5 ((rd_T45 l1 x5_1).f1.f3.f1).length c337_5, .slice A337_6 ((rd_T45 l1 x5_1).f2).length c337_6, .slice A337_7 ((rd_T45 l1 x5_1).f3).length c337_7, .int .i64 ((rd_T45 l1 x5_1).f4), .slice A337_9 ((rd_T45 l1 x5_1).f5).length c337_9]] (by rfl) rfl rfl (by (try simp only [List.map_toArray, List.map_cons, List.map_nil]); first | done | rfl | (simp only [List.length_drop, List.length_take]; rfl)) ?_
                with_reducible refine (laws_eqPoint.calls k1 ((rd_T45 l0 x5_1).f0) ((rd_T45 l0 x5_1).f1.f0) ((rd_T45 l0 x5_1).f1.f1) _ _ ((rd_T45 l0 x5_1).f1.f2) ((rd_T45 l0 x5_1).f1.f3.f0) _ _ ((rd_T45 l0 x5_1).f1.f3.f1) _ _ ((rd_T45 l0 x5_1).f2) _ _ ((rd_T45 l0 x5_1).f3) ((rd_T45 l0 x5_1).f4) _ _ ((rd_T45 l0 x5_1).f5) ((rd_T45 l1 x5_1).f0) ((rd_T45 l1 x5_1).f1.f0) ((rd_T45 l1 x5_1).f1.f1) _ _ ((rd_T45 l1 x5_1).f1.f2) ((rd_T45 l1 x5_1).f1.f3.f0) _ _ ((rd_T45 l1 x5_1).f1.f3.f1) _ _ ((rd_T45 l1 x5_1).f2) _ _ ((rd_T45 l1 x5_1).f3) ((rd_T45 l1 x5_1).f4) _ _ ((rd_T45 l1 x5_1).f5) true _ ?side1 ?side2 ?side3 ?side4 ?side5 ?side6 ?side7 ?side8 ?side9 ?side10 ?side11 ?side12 ?side13 ?side14 ?side15 ?side16 ?side17 ?side18 ?side19 ?side20 A7.out).mono ?_
                (case side1 => repeat (first | exact (Kd.C_below HR336_3.out HB.out) | (with_reducible refine Kd.C_alloc ?_ _) | (with_reducible refine Kd.C_drewN ?_ _) | (with_reducible refine Kd.C_drew ?_)))
                (case side2 => exact HC336_3.out)
                (case side3 => repeat (first | exact (Kd.C_below HR336_5.out HB.out) | (with_reducible refine Kd.C_alloc ?_ _) | (with_reducible refine Kd.C_drewN ?_ _) | (with_reducible refine Kd.C_drew ?_)))
                (case side4 => exact HC336_5.out)
                (case side5 => repeat (first | exact (Kd.C_below HR336_6.out HB.out) | (with_reducible refine Kd.C_alloc ?_ _) | (with_reducible refine Kd.C_drewN ?_ _) | (with_reducible refine Kd.C_drew ?_)))
                (case side6 => exact HC336_6.out)
                (case side7 => repeat (first | exact (Kd.C_below HR336_7.out HB.out) | (with_reducible refine Kd.C_alloc ?_ _) | (with_reducible refine Kd.C_drewN ?_ _) | (with_reducible refine Kd.C_drew ?_)))
                (case side8 => exact HC336_7.out)
                (case side9 => repeat (first | exact (Kd.C_below HR336_9.out HB.out) | (with_reducible refine Kd.C_alloc ?_ _) | (with_reducible refine Kd.C_drewN ?_ _) | (with_reducible refine Kd.C_drew ?_)))
                (case side10 => exact HC336_9.out)
                (case side11 => repeat (first | exact (Kd.C_below HR337_3.out HB.out) | (with_reducible refine Kd.C_alloc ?_ _) | (with_reducible refine Kd.C_drewN ?_ _) | (with_reducible refine Kd.C_drew ?_)))
                (case side12 => exact HC337_3.out)
                (case side13 => repeat (first | exact (Kd.C_below HR337_5.out HB.out) | (with_reducible refine Kd.C_alloc ?_ _) | (with_reducible refine Kd.C_drewN ?_ _) | (with_reducible refine Kd.C_drew ?_)))
                (case side14 => exact HC337_5.out)
                (case side15 => repeat (first | exact (Kd.C_below HR337_6.out HB.out) | (with_reducible refine Kd.C_alloc ?_ _) | (with_reducible refine Kd.C_drewN ?_ _) | (with_reducible refine Kd.C_drew ?_)))
                (case side16 => exact HC337_6.out)
                (case side17 => repeat (first | exact (Kd.C_below HR337_7.out HB.out) | (with_reducible refine Kd.C_alloc ?_ _) | (with_reducible refine Kd.C_drewN ?_ _) | (with_reducible refine Kd.C_drew ?_)))
                (case side18 => exact HC337_7.out)
                (case side19 => repeat (first | exact (Kd.C_below HR337_9.out HB.out) | (with_reducible refine Kd.C_alloc ?_ _) | (with_reducible refine Kd.C_drewN ?_ _) | (with_reducible refine Kd.C_drew ?_)))
                (case side20 => exact HC337_9.out)
                rintro e w10 ⟨rfl, hb⟩
                refine ⟨_, rfl, ?_⟩
                have n0_ := Aside0.mk (below_step (by repeat (first | (with_reducible first | exact HB.out | apply below_alloc | apply pw_below_drewN | apply below_drew1) | exact HB.out)) hb)
                clear HB
                have HB := n0_
                clear n0_
                (try clear hb)
                (try clear hb2)
                (try clear hk)
                (try clear hi)
                refine hK.out _ _ ⟨((HB.out.cell (World.block_lt_of_cell? w _ hw336_0)).trans hw336_0), ((HB.out.cell (World.block_lt_of_cell? w _ hw336_1)).trans hw336_1), ((HB.out.cell (World.block_lt_of_cell? w _ hw336_2)).trans hw336_2), ((HB.out.cell (World.block_lt_of_cell? w _ hw336_3)).trans hw336_3), ((HB.out.cell (World.block_lt_of_cell? w _ hw336_4)).trans hw336_4), ((HB.out.cell (World.block_lt_of_cell? w _ hw336_5)).trans hw336_5), ((HB.out.cell (World.block_lt_of_cell? w _ hw336_6)).trans hw336_6), ((HB.out.cell (World.block_lt_of_cell? w _ hw336_7)).trans hw336_7), ((HB.out.cell (World.block_lt_of_cell? w _ hw336_8)).trans hw336_8), ((HB.out.cell (World.block_lt_of_cell? w _ hw336_9)).trans hw336_9), ((HB.out.cell (World.block_lt_of_cell? w _ hw337_0)).trans hw337_0), ((HB.out.cell (World.block_lt_of_cell? w _ hw337_1)).trans hw337_1), ((HB.out.cell (World.block_lt_of_cell? w _ hw337_2)).trans hw337_2), ((HB.out.cell (World.block_lt_of_cell? w _ hw337_3)).trans hw337_3), ((HB.out.cell (World.block_lt_of_cell? w _ hw337_4)).trans hw337_4), ((HB.out.cell (World.block_lt_of_cell? w _ hw337_5)).trans hw337_5), ((HB.out.cell (World.block_lt_of_cell? w _ hw337_6)).trans hw337_6), ((HB.out.cell (World.block_lt_of_cell? w _ hw337_7)).trans hw337_7), ((HB.out.cell (World.block_lt_of_cell? w _ hw337_8)).trans hw337_8), ((HB.out.cell (World.block_lt_of_cell? w _ hw337_9)).trans hw337_9)⟩ (fun hHeld => ?_)
                clear hK K
                refine norm_ (a' := ?_) ?_ ?_
                rotate_left
                · show Act.put _ (some 25) _ = _
                  simp only [Act.put, List.setIfInBounds_toArray, List.set_cons_zero, List.set_cons_succ, i64_w, i32_w]
                  rfl
                refine pure_ (i := 9) (N := some 26) (v := ?_) (a' := ?_) #[true, true, true, true, true, true, true, true, true, true] rfl rfl (any_of HT_.out (by kernel_rfl)) (fun _ _ _ h => h) (Or.inl ⟨by rfl, ?_⟩) ?_ ?_
                rotate_left
                · intro w'
                  go_simp
                  with_reducible rfl
                rotate_left
                · simp only [Act.put, List.setIfInBounds_toArray, List.set_cons_zero, List.set_cons_succ, i64_w, i32_w]
                  rfl
                refine done_ (done_of HT_.out (by kernel_rfl)) ?_
                try go_wp2
                go_roundg k1
                case measure => have := HK1.out; omega
                case rel => exact ⟨(wrap64 (x5_1 + 1)), (by first | rfl | (simp; done) | (simp [*]; done)), H', ⟨by have := HK1.out; omega⟩, ⟨by repeat (first | (with_reducible first | exact HB.out | apply below_alloc | apply pw_below_drewN | apply below_drew1) | exact HB.out)⟩⟩
              · replace c8 := Bool.eq_false_iff.mpr c8
                subst c8
                have H1 : (some false) = some r := by rw [if_neg (show ¬ (false = true) by decide)] at H; exact H
                clear H
                have H := H1
                clear H1
                obtain rfl := Option.some.inj H
                try go_wp2
                have n0_ := Aside0.mk (below_drew1 HB.out)
                clear HB
                have HB := n0_
                clear n0_
                have p336 : 0 ≤ (x5_1 : Int) := of_decide_eq_true (by first | (with_reducible assumption) | assumption)
                have q336 : x5_1 < (l0.length : Int) := of_decide_eq_true (by first | (with_reducible assumption) | assumption)
                obtain ⟨ad336, A336_3, c336_3, A336_5, c336_5, A336_6, c336_6, A336_7, c336_7, A336_9, c336_9, e336, hx336_0, hx336_1, hx336_2, hx336_3, hx336_4, hx336_5, hx336_6, hx336_7, hx336_8, hx336_9, hl336_3, hi336_3, hl336_5, hi336_5, hl336_6, hi336_6, hl336_7, hi336_7, hl336_9, hi336_9⟩ := at_T45 HR0.out x5_1 p336 q336
                have hw336_9 := hx336_9
                have hw336_8 := hx336_8
                have hw336_7 := hx336_7
                have hw336_6 := hx336_6
                have hw336_5 := hx336_5
                have hw336_4 := hx336_4
                have hw336_3 := hx336_3
                have hw336_2 := hx336_2
                have hw336_1 := hx336_1
                have hw336_0 := hx336_0
                cases e336
                replace hx336_0 := (HB.out.cell (World.block_lt_of_cell? w _ hx336_0)).trans hx336_0
                replace hx336_1 := (HB.out.cell (World.block_lt_of_cell? w _ hx336_1)).trans hx336_1
                replace hx336_2 := (HB.out.cell (World.block_lt_of_cell? w _ hx336_2)).trans hx336_2
                replace hx336_3 := (HB.out.cell (World.block_lt_of_cell? w _ hx336_3)).trans hx336_3
                replace hx336_4 := (HB.out.cell (World.block_lt_of_cell? w _ hx336_4)).trans hx336_4
                replace hx336_5 := (HB.out.cell (World.block_lt_of_cell? w _ hx336_5)).trans hx336_5
                replace hx336_6 := (HB.out.cell (World.block_lt_of_cell? w _ hx336_6)).trans hx336_6
                replace hx336_7 := (HB.out.cell (World.block_lt_of_cell? w _ hx336_7)).trans hx336_7
                replace hx336_8 := (HB.out.cell (World.block_lt_of_cell? w _ hx336_8)).trans hx336_8
                replace hx336_9 := (HB.out.cell (World.block_lt_of_cell? w _ hx336_9)).trans hx336_9
                have HR336_3 := Aside0.mk hi336_3
                have HC336_3 := Aside0.mk hl336_3
                clear hi336_3 hl336_3
                have HR336_5 := Aside0.mk hi336_5
                have HC336_5 := Aside0.mk hl336_5
                clear hi336_5 hl336_5
                have HR336_6 := Aside0.mk hi336_6
                have HC336_6 := Aside0.mk hl336_6
                clear hi336_6 hl336_6
                have HR336_7 := Aside0.mk hi336_7
                have HC336_7 := Aside0.mk hl336_7
                clear hi336_7 hl336_7
                have HR336_9 := Aside0.mk hi336_9
                have HC336_9 := Aside0.mk hl336_9
                clear hi336_9 hl336_9
                replace p336 := eq_true p336
                replace q336 := eq_true q336
                have p337 : 0 ≤ (x5_1 : Int) := of_decide_eq_true (by first | (with_reducible assumption) | assumption)
                have q337 : x5_1 < (l1.length : Int) := of_decide_eq_true (by first | (with_reducible assumption) | assumption)
                obtain ⟨ad337, A337_3, c337_3, A337_5, c337_5, A337_6, c337_6, A337_7, c337_7, A337_9, c337_9, e337, hx337_0, hx337_1, hx337_2, hx337_3, hx337_4, hx337_5, hx337_6, hx337_7, hx337_8, hx337_9, hl337_3, hi337_3, hl337_5, hi337_5, hl337_6, hi337_6, hl337_7, hi337_7, hl337_9, hi337_9⟩ := at_T45 HR1.out x5_1 p337 q337
                have hw337_9 := hx337_9
                have hw337_8 := hx337_8
                have hw337_7 := hx337_7
                have hw337_6 := hx337_6
                have hw337_5 := hx337_5
                have hw337_4 := hx337_4
                have hw337_3 := hx337_3
                have hw337_2 := hx337_2
                have hw337_1 := hx337_1
                have hw337_0 := hx337_0
                cases e337
                replace hx337_0 := (HB.out.cell (World.block_lt_of_cell? w _ hx337_0)).trans hx337_0
                replace hx337_1 := (HB.out.cell (World.block_lt_of_cell? w _ hx337_1)).trans hx337_1
                replace hx337_2 := (HB.out.cell (World.block_lt_of_cell? w _ hx337_2)).trans hx337_2
                replace hx337_3 := (HB.out.cell (World.block_lt_of_cell? w _ hx337_3)).trans hx337_3
                replace hx337_4 := (HB.out.cell (World.block_lt_of_cell? w _ hx337_4)).trans hx337_4
                replace hx337_5 := (HB.out.cell (World.block_lt_of_cell? w _ hx337_5)).trans hx337_5
                replace hx337_6 := (HB.out.cell (World.block_lt_of_cell? w _ hx337_6)).trans hx337_6
                replace hx337_7 := (HB.out.cell (World.block_lt_of_cell? w _ hx337_7)).trans hx337_7
                replace hx337_8 := (HB.out.cell (World.block_lt_of_cell? w _ hx337_8)).trans hx337_8
                replace hx337_9 := (HB.out.cell (World.block_lt_of_cell? w _ hx337_9)).trans hx337_9
                have HR337_3 := Aside0.mk hi337_3
                have HC337_3 := Aside0.mk hl337_3
                clear hi337_3 hl337_3
                have HR337_5 := Aside0.mk hi337_5
                have HC337_5 := Aside0.mk hl337_5
                clear hi337_5 hl337_5
                have HR337_6 := Aside0.mk hi337_6
                have HC337_6 := Aside0.mk hl337_6
                clear hi337_6 hl337_6
                have HR337_7 := Aside0.mk hi337_7
                have HC337_7 := Aside0.mk hl337_7
                clear hi337_7 hl337_7
                have HR337_9 := Aside0.mk hi337_9
                have HC337_9 := Aside0.mk hl337_9
                clear hi337_9 hl337_9
                replace p337 := eq_true p337
                replace q337 := eq_true q337
                refine start_ (n := 10) (S := fun w' => w'.cell? (ad336.add ((x5_1).toNat * 10)) = some (.int .i64 ((rd_T45 l0 x5_1).f0)) ∧ w'.cell? ⟨(ad336.add ((x5_1).toNat * 10)).block, (ad336.add ((x5_1).toNat * 10)).off + 1, none⟩ = some (.int .i64 ((rd_T45 l0 x5_1).f1.f0)) ∧ w'.cell? ⟨(ad336.add ((x5_1).toNat * 10)).block, (ad336.add ((x5_1).toNat * 10)).off + 2, none⟩ = some (.int .i64 ((rd_T45 l0 x5_1).f1.f1)) ∧ w'.cell? ⟨(ad336.add ((x5_1).toNat * 10)).block, (ad336.add ((x5_1).toNat * 10)).off + 3, none⟩ = some (.slice A336_3 ((rd_T45 l0 x5_1).f1.f2).length c336_3) ∧ w'.cell? ⟨(ad336.add ((x5_1).toNat * 10)).block, (ad336.add ((x5_1).toNat * 10)).off + 4, none⟩ = some (.int .i64 ((rd_T45 l0 x5_1).f1.f3.f0)) ∧ w'.cell? ⟨(ad336.add ((x5_1).toNat * 10)).block, (ad336.add ((x5_1).toNat * 10)).off + 5, none⟩ = some (.slice A336_5 ((rd_T45 l0 x5_1).f1.f3.f1).length c336_5) ∧ w'.cell? ⟨(ad336.add ((x5_1).toNat * 10)).block, (ad336.add ((x5_1).toNat * 10)).off + 6, none⟩ = some (.slice A336_6 ((rd_T45 l0 x5_1).f2).length c336_6) ∧ w'.cell? ⟨(ad336.add ((x5_1).toNat * 10)).block, (ad336.add ((x5_1).toNat * 10)).off + 7, none⟩ = some (.slice A336_7 ((rd_T45 l0 x5_1).f3).length c336_7) ∧ w'.cell? ⟨(ad336.add ((x5_1).toNat * 10)).block, (ad336.add ((x5_1).toNat * 10)).off + 8, none⟩ = some (.int .i64 ((rd_T45 l0 x5_1).f4)) ∧ w'.cell? ⟨(ad336.add ((x5_1).toNat * 10)).block, (ad336.add ((x5_1).toNat * 10)).off + 9, none⟩ = some (.slice A336_9 ((rd_T45 l0 x5_1).f5).length c336_9) ∧ w'.cell? (ad337.add ((x5_1).toNat * 10)) = some (.int .i64 ((rd_T45 l1 x5_1).f0)) ∧ w'.cell? ⟨(ad337.add ((x5_1).toNat * 10)).block, (ad337.add ((x5_1).toNat * 10)).off + 1, none⟩ = some (.int .i64 ((rd_T45 l1 x5_1).f1.f0)) ∧ w'.cell? ⟨(ad337.add ((x5_1).toNat * 10)).block, (ad337.add ((x5_1).toNat * 10)).off + 2, none⟩ = some (.int .i64 ((rd_T45 l1 x5_1).f1.f1)) ∧ w'.cell? ⟨(ad337.add ((x5_1).toNat * 10)).block, (ad337.add ((x5_1).toNat * 10)).off + 3, none⟩ = some (.slice A337_3 ((rd_T45 l1 x5_1).f1.f2).length c337_3) ∧ w'.cell? ⟨(ad337.add ((x5_1).toNat * 10)).block, (ad337.add ((x5_1).toNat * 10)).off + 4, none⟩ = some (.int .i64 ((rd_T45 l1 x5_1).f1.f3.f0)) ∧ w'.cell? ⟨(ad337.add ((x5_1).toNat * 10)).block, (ad337.add ((x5_1).toNat * 10)).off + 5, none⟩ = some (.slice A337_5 ((rd_T45 l1 x5_1).f1.f3.f1).length c337_5) ∧ w'.cell? ⟨(ad337.add ((x5_1).toNat * 10)).block, (ad337.add ((x5_1).toNat * 10)).off + 6, none⟩ = some (.slice A337_6 ((rd_T45 l1 x5_1).f2).length c337_6) ∧ w'.cell? ⟨(ad337.add ((x5_1).toNat * 10)).block, (ad337.add ((x5_1).toNat * 10)).off + 7, none⟩ = some (.slice A337_7 ((rd_T45 l1 x5_1).f3).length c337_7) ∧ w'.cell? ⟨(ad337.add ((x5_1).toNat * 10)).block, (ad337.add ((x5_1).toNat * 10)).off + 8, none⟩ = some (.int .i64 ((rd_T45 l1 x5_1).f4)) ∧ w'.cell? ⟨(ad337.add ((x5_1).toNat * 10)).block, (ad337.add ((x5_1).toNat * 10)).off + 9, none⟩ = some (.slice A337_9 ((rd_T45 l1 x5_1).f5).length c337_9)) (ds := []) #[false, false, false, false, false, false, false, false, false, false] (by kernel_rfl) rfl rfl ⟨((HB.out.cell (World.block_lt_of_cell? w _ hw336_0)).trans hw336_0), ((HB.out.cell (World.block_lt_of_cell? w _ hw336_1)).trans hw336_1), ((HB.out.cell (World.block_lt_of_cell? w _ hw336_2)).trans hw336_2), ((HB.out.cell (World.block_lt_of_cell? w _ hw336_3)).trans hw336_3), ((HB.out.cell (World.block_lt_of_cell? w _ hw336_4)).trans hw336_4), ((HB.out.cell (World.block_lt_of_cell? w _ hw336_5)).trans hw336_5), ((HB.out.cell (World.block_lt_of_cell? w _ hw336_6)).trans hw336_6), ((HB.out.cell (World.block_lt_of_cell? w _ hw336_7)).trans hw336_7), ((HB.out.cell (World.block_lt_of_cell? w _ hw336_8)).trans hw336_8), ((HB.out.cell (World.block_lt_of_cell? w _ hw336_9)).trans hw336_9), ((HB.out.cell (World.block_lt_of_cell? w _ hw337_0)).trans hw337_0), ((HB.out.cell (World.block_lt_of_cell? w _ hw337_1)).trans hw337_1), ((HB.out.cell (World.block_lt_of_cell? w _ hw337_2)).trans hw337_2), ((HB.out.cell (World.block_lt_of_cell? w _ hw337_3)).trans hw337_3), ((HB.out.cell (World.block_lt_of_cell? w _ hw337_4)).trans hw337_4), ((HB.out.cell (World.block_lt_of_cell? w _ hw337_5)).trans hw337_5), ((HB.out.cell (World.block_lt_of_cell? w _ hw337_6)).trans hw337_6), ((HB.out.cell (World.block_lt_of_cell? w _ hw337_7)).trans hw337_7), ((HB.out.cell (World.block_lt_of_cell? w _ hw337_8)).trans hw337_8), ((HB.out.cell (World.block_lt_of_cell? w _ hw337_9)).trans hw337_9)⟩ (fun hHeld => ?_); refine with_tabW laws_eqPointS.tab6 laws_eqPointS.bits6 (fun HT_ HW_ => ?_)
                generalize wr.drew = w11 at HB HR336_3 HR336_5 HR336_6 HR336_7 HR336_9 HR337_3 HR337_5 HR337_6 HR337_7 HR337_9 hx336_0 hx336_1 hx336_2 hx336_3 hx336_4 hx336_5 hx336_6 hx336_7 hx336_8 hx336_9 hx337_0 hx337_1 hx337_2 hx337_3 hx337_4 hx337_5 hx337_6 hx337_7 hx337_8 hx337_9 hHeld ⊢
                refine pure_ (i := 0) (N := some 17) (v := ?_) (a' := ?_) #[true, false, false, false, false, false, false, false, false, false] rfl rfl (any_of HT_.out (by kernel_rfl)) (fun _ _ _ h => h) (Or.inl ⟨by rfl, ?_⟩) ?_ ?_
                rotate_left
                · intro w'
                  go_simp
                  with_reducible rfl
                rotate_left
                · simp only [Act.put, List.setIfInBounds_toArray, List.set_cons_zero, List.set_cons_succ, i64_w, i32_w]
                  rfl
                refine pure_ (i := 1) (N := some 18) (v := ?_) (a' := ?_) #[true, true, false, false, false, false, false, false, false, false] rfl rfl (any_of HT_.out (by kernel_rfl)) (fun _ _ _ h => h) (Or.inl ⟨by rfl, ?_⟩) ?_ ?_
                rotate_left
                · intro w'
                  go_simp
                  with_reducible rfl
                rotate_left
                · simp only [Act.put, List.setIfInBounds_toArray, List.set_cons_zero, List.set_cons_succ, i64_w, i32_w]
                  rfl
                refine pure_ (i := 2) (N := some 19) (v := ?_) (a' := ?_) #[true, true, true, false, false, false, false, false, false, false] rfl rfl (any_of HT_.out (by kernel_rfl)) (fun _ _ _ h => h) (Or.inl ⟨by rfl, ?_⟩) ?_ ?_
                rotate_left
                · intro w'
                  go_simp
                  with_reducible rfl
                rotate_left
                · simp only [Act.put, List.setIfInBounds_toArray, List.set_cons_zero, List.set_cons_succ, i64_w, i32_w]
                  rfl
                refine pure_ (i := 4) (N := some 21) (v := ?_) (a' := ?_) #[true, true, true, false, true, false, false, false, false, false] rfl rfl (any_of HT_.out (by kernel_rfl)) (fun _ _ _ h => h) (Or.inl ⟨by rfl, ?_⟩) ?_ ?_
                rotate_left
                · intro w'
                  go_simp
                  with_reducible rfl
                rotate_left
                · simp only [Act.put, List.setIfInBounds_toArray, List.set_cons_zero, List.set_cons_succ, i64_w, i32_w]
                  rfl
                refine pure_ (i := 5) (N := some 22) (v := ?_) (a' := ?_) #[true, true, true, false, true, true, false, false, false, false] rfl rfl (any_of HT_.out (by kernel_rfl)) (fun _ _ _ h => h) (Or.inl ⟨by rfl, ?_⟩) ?_ ?_
                rotate_left
                · intro w'
                  go_simp
                  with_reducible rfl
                rotate_left
                · simp only [Act.put, List.setIfInBounds_toArray, List.set_cons_zero, List.set_cons_succ, i64_w, i32_w]
                  rfl
                refine pure_ (i := 6) (N := some 23) (v := ?_) (a' := ?_) #[true, true, true, false, true, true, true, false, false, false] rfl rfl (any_of HT_.out (by kernel_rfl)) (fun _ _ _ h => h) (Or.inl ⟨by rfl, ?_⟩) ?_ ?_
                rotate_left
                · intro w'
                  go_simp
                  with_reducible rfl
                rotate_left
                · simp only [Act.put, List.setIfInBounds_toArray, List.set_cons_zero, List.set_cons_succ, i64_w, i32_w]
                  rfl
                refine take_ (i := 3) (N := some 20) (v := ?_) (a' := ?_) #[true, true, true, true, true, true, true, false, false, false] rfl rfl (take_ofW HT_.out HW_.out (by kernel_rfl)) (fun _ _ _ h => h) (Or.inl ⟨by rfl, ?_⟩) hHeld ?_ ?_
                rotate_left
                · rintro w' ⟨s0, s1, s2, s3, s4, s5, s6, s7, s8, s9, s10, s11, s12, s13, s14, s15, s16, s17, s18, s19⟩
                  go_simp
                  with_reducible rfl
                rotate_left
                · simp only [Act.put, List.setIfInBounds_toArray, List.set_cons_zero, List.set_cons_succ, i64_w, i32_w]
                  rfl
                refine take_ (i := 7) (N := some 24) (v := ?_) (a' := ?_) #[true, true, true, true, true, true, true, true, false, false] rfl rfl (take_ofW HT_.out HW_.out (by kernel_rfl)) (fun _ _ _ h => h) (Or.inl ⟨by rfl, ?_⟩) hHeld ?_ ?_
                rotate_left
                · rintro w' ⟨s0, s1, s2, s3, s4, s5, s6, s7, s8, s9, s10, s11, s12, s13, s14, s15, s16, s17, s18, s19⟩
                  go_simp
                  with_reducible rfl
                rotate_left
                · simp only [Act.put, List.setIfInBounds_toArray, List.set_cons_zero, List.set_cons_succ, i64_w, i32_w]
                  rfl
                refine one_ (i := 8) (N := some 25) #[true, true, true, true, true, true, true, true, true, false] rfl rfl (one_of HT_.out (by kernel_rfl)) (by decide) (fun K hK => ?_)
                refine goes_ Try.func15 (by kernel_rfl) rfl #[.agg #[.int .i64 ((rd_T45 l0 x5_1).f0), .int .i64 ((rd_T45 l0 x5_1).f1.f0), .int .i64 ((rd_T45 l0 x5_1).f1.f1), .slice A336_3 ((rd_T45 l0 x5_1).f1.f2).length c336_3, .int .i64 ((rd_T45 l0 x5_1).f1.f3.f0), .slice A336_5 ((rd_T45 l0 x5_1).f1.f3.f1).length c336_5, .slice A336_6 ((rd_T45 l0 x5_1).f2).length c336_6, .slice A336_7 ((rd_T45 l0 x5_1).f3).length c336_7, .int .i64 ((rd_T45 l0 x5_1).f4), .slice A336_9 ((rd_T45 l0 x5_1).f5).length c336_9], .agg #[.int .i64 ((rd_T45 l1 x5_1).f0), .int .i64 ((rd_T45 l1 x5_1).f1.f0), .int .i64 ((rd_T45 l1 x5_1).f1.f1), .slice A337_3 ((rd_T45 l1 x5_1).f1.f2).length c337_3, .int .i64 ((rd_T45 l1 x5_1).f1.f3.f0), .slice A337_5 ((rd_T45 l1 x5_1).f1.f3.f1).length c337_5, .slice A337_6 ((rd_T45 l1 x5_1).f2).length c337_6, .slice A337_7 ((rd_T45 l1 x5_1).f3).length c337_7, .int .i64 ((rd_T45 l1 x5_1).f4), .slice A337_9 ((rd_T45 l1 x5_1).f5).length c337_9]] (by rfl) rfl rfl (by (try simp only [List.map_toArray, List.map_cons, List.map_nil]); first | done | rfl | (simp only [List.length_drop, List.length_take]; rfl)) ?_
                with_reducible refine (laws_eqPoint.calls k1 ((rd_T45 l0 x5_1).f0) ((rd_T45 l0 x5_1).f1.f0) ((rd_T45 l0 x5_1).f1.f1) _ _ ((rd_T45 l0 x5_1).f1.f2) ((rd_T45 l0 x5_1).f1.f3.f0) _ _ ((rd_T45 l0 x5_1).f1.f3.f1) _ _ ((rd_T45 l0 x5_1).f2) _ _ ((rd_T45 l0 x5_1).f3) ((rd_T45 l0 x5_1).f4) _ _ ((rd_T45 l0 x5_1).f5) ((rd_T45 l1 x5_1).f0) ((rd_T45 l1 x5_1).f1.f0) ((rd_T45 l1 x5_1).f1.f1) _ _ ((rd_T45 l1 x5_1).f1.f2) ((rd_T45 l1 x5_1).f1.f3.f0) _ _ ((rd_T45 l1 x5_1).f1.f3.f1) _ _ ((rd_T45 l1 x5_1).f2) _ _ ((rd_T45 l1 x5_1).f3) ((rd_T45 l1 x5_1).f4) _ _ ((rd_T45 l1 x5_1).f5) false _ ?side1 ?side2 ?side3 ?side4 ?side5 ?side6 ?side7 ?side8 ?side9 ?side10 ?side11 ?side12 ?side13 ?side14 ?side15 ?side16 ?side17 ?side18 ?side19 ?side20 A7.out).mono ?_
                (case side1 => repeat (first | exact (Kd.C_below HR336_3.out HB.out) | (with_reducible refine Kd.C_alloc ?_ _) | (with_reducible refine Kd.C_drewN ?_ _) | (with_reducible refine Kd.C_drew ?_)))
                (case side2 => exact HC336_3.out)
                (case side3 => repeat (first | exact (Kd.C_below HR336_5.out HB.out) | (with_reducible refine Kd.C_alloc ?_ _) | (with_reducible refine Kd.C_drewN ?_ _) | (with_reducible refine Kd.C_drew ?_)))
                (case side4 => exact HC336_5.out)
                (case side5 => repeat (first | exact (Kd.C_below HR336_6.out HB.out) | (with_reducible refine Kd.C_alloc ?_ _) | (with_reducible refine Kd.C_drewN ?_ _) | (with_reducible refine Kd.C_drew ?_)))
                (case side6 => exact HC336_6.out)
                (case side7 => repeat (first | exact (Kd.C_below HR336_7.out HB.out) | (with_reducible refine Kd.C_alloc ?_ _) | (with_reducible refine Kd.C_drewN ?_ _) | (with_reducible refine Kd.C_drew ?_)))
                (case side8 => exact HC336_7.out)
                (case side9 => repeat (first | exact (Kd.C_below HR336_9.out HB.out) | (with_reducible refine Kd.C_alloc ?_ _) | (with_reducible refine Kd.C_drewN ?_ _) | (with_reducible refine Kd.C_drew ?_)))
                (case side10 => exact HC336_9.out)
                (case side11 => repeat (first | exact (Kd.C_below HR337_3.out HB.out) | (with_reducible refine Kd.C_alloc ?_ _) | (with_reducible refine Kd.C_drewN ?_ _) | (with_reducible refine Kd.C_drew ?_)))
                (case side12 => exact HC337_3.out)
                (case side13 => repeat (first | exact (Kd.C_below HR337_5.out HB.out) | (with_reducible refine Kd.C_alloc ?_ _) | (with_reducible refine Kd.C_drewN ?_ _) | (with_reducible refine Kd.C_drew ?_)))
                (case side14 => exact HC337_5.out)
                (case side15 => repeat (first | exact (Kd.C_below HR337_6.out HB.out) | (with_reducible refine Kd.C_alloc ?_ _) | (with_reducible refine Kd.C_drewN ?_ _) | (with_reducible refine Kd.C_drew ?_)))
                (case side16 => exact HC337_6.out)
                (case side17 => repeat (first | exact (Kd.C_below HR337_7.out HB.out) | (with_reducible refine Kd.C_alloc ?_ _) | (with_reducible refine Kd.C_drewN ?_ _) | (with_reducible refine Kd.C_drew ?_)))
                (case side18 => exact HC337_7.out)
                (case side19 => repeat (first | exact (Kd.C_below HR337_9.out HB.out) | (with_reducible refine Kd.C_alloc ?_ _) | (with_reducible refine Kd.C_drewN ?_ _) | (with_reducible refine Kd.C_drew ?_)))
                (case side20 => exact HC337_9.out)
                rintro e w12 ⟨rfl, hb⟩
                refine ⟨_, rfl, ?_⟩
                have n0_ := Aside0.mk (below_step (by repeat (first | (with_reducible first | exact HB.out | apply below_alloc | apply pw_below_drewN | apply below_drew1) | exact HB.out)) hb)
                clear HB
                have HB := n0_
                clear n0_
                (try clear hb)
                (try clear hb2)
                (try clear hk)
                (try clear hi)
                refine hK.out _ _ ⟨((HB.out.cell (World.block_lt_of_cell? w _ hw336_0)).trans hw336_0), ((HB.out.cell (World.block_lt_of_cell? w _ hw336_1)).trans hw336_1), ((HB.out.cell (World.block_lt_of_cell? w _ hw336_2)).trans hw336_2), ((HB.out.cell (World.block_lt_of_cell? w _ hw336_3)).trans hw336_3), ((HB.out.cell (World.block_lt_of_cell? w _ hw336_4)).trans hw336_4), ((HB.out.cell (World.block_lt_of_cell? w _ hw336_5)).trans hw336_5), ((HB.out.cell (World.block_lt_of_cell? w _ hw336_6)).trans hw336_6), ((HB.out.cell (World.block_lt_of_cell? w _ hw336_7)).trans hw336_7), ((HB.out.cell (World.block_lt_of_cell? w _ hw336_8)).trans hw336_8), ((HB.out.cell (World.block_lt_of_cell? w _ hw336_9)).trans hw336_9), ((HB.out.cell (World.block_lt_of_cell? w _ hw337_0)).trans hw337_0), ((HB.out.cell (World.block_lt_of_cell? w _ hw337_1)).trans hw337_1), ((HB.out.cell (World.block_lt_of_cell? w _ hw337_2)).trans hw337_2), ((HB.out.cell (World.block_lt_of_cell? w _ hw337_3)).trans hw337_3), ((HB.out.cell (World.block_lt_of_cell? w _ hw337_4)).trans hw337_4), ((HB.out.cell (World.block_lt_of_cell? w _ hw337_5)).trans hw337_5), ((HB.out.cell (World.block_lt_of_cell? w _ hw337_6)).trans hw337_6), ((HB.out.cell (World.block_lt_of_cell? w _ hw337_7)).trans hw337_7), ((HB.out.cell (World.block_lt_of_cell? w _ hw337_8)).trans hw337_8), ((HB.out.cell (World.block_lt_of_cell? w _ hw337_9)).trans hw337_9)⟩ (fun hHeld => ?_)
                clear hK K
                refine norm_ (a' := ?_) ?_ ?_
                rotate_left
                · show Act.put _ (some 25) _ = _
                  simp only [Act.put, List.setIfInBounds_toArray, List.set_cons_zero, List.set_cons_succ, i64_w, i32_w]
                  rfl
                refine pure_ (i := 9) (N := some 26) (v := ?_) (a' := ?_) #[true, true, true, true, true, true, true, true, true, true] rfl rfl (any_of HT_.out (by kernel_rfl)) (fun _ _ _ h => h) (Or.inl ⟨by rfl, ?_⟩) ?_ ?_
                rotate_left
                · intro w'
                  go_simp
                  with_reducible rfl
                rotate_left
                · simp only [Act.put, List.setIfInBounds_toArray, List.set_cons_zero, List.set_cons_succ, i64_w, i32_w]
                  rfl
                refine done_ (done_of HT_.out (by kernel_rfl)) ?_
                try go_wp2
                go_ret
                exact ⟨by first | rfl | (simp [errW_none, errW_some] <;> rfl) | (simp [*, errW_none, errW_some] <;> rfl), by repeat (first | (with_reducible first | exact HB.out | apply below_alloc | apply pw_below_drewN | apply below_drew1) | exact HB.out)⟩
            · rw [if_neg c6] at H
              exact absurd H (by simp)
          · rw [if_neg c5] at H
            exact absurd H (by simp)
        · rw [if_neg c4] at H
          have c4b0 : decide (x5_1 < (l0.length : Int)) = false := decide_eq_false c4
          clear c4
          obtain rfl := Option.some.inj H
          go_wp2
          go_ret
          exact ⟨by first | rfl | (simp [errW_none, errW_some] <;> rfl) | (simp [*, errW_none, errW_some] <;> rfl), by repeat (first | (with_reducible first | exact HB.out | apply below_alloc | apply pw_below_drewN | apply below_drew1) | exact HB.out)⟩
  · rw [if_neg c3] at H
    have c3b0 : ((l0.length : Int) == (l1.length : Int)) = false := beq_eq_false_iff_ne.mpr c3
    have c3b1 : ((l0.length : Int) != (l1.length : Int)) = true := bne_iff_ne.mpr c3
    have c3b2 : (l0.length == l1.length) = false := by first | simpa using c3 | (simp at c3 ⊢; omega)
    obtain rfl := Option.some.inj H
    go_enter Try.func20, Try.ntmps20
    go_wp2
    go_ret
    exact ⟨by first | rfl | (simp [errW_none, errW_some] <;> rfl) | (simp [*, errW_none, errW_some] <;> rfl), by repeat (first | (with_reducible first | exact HB.out | apply below_alloc | apply pw_below_drewN | apply below_drew1) | exact HB.out)⟩

end Go.Proofs.Ytineejdlpcgnkaa.QFnExactOldestSync
