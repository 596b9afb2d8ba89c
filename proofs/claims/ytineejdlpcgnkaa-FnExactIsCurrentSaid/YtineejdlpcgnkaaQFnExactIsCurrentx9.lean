/- The machine side of FnExactIsCurrent: what each function that it reaches computes, and that the machine's call gives just that. -/
import Derived.Test.YtineejdlpcgnkaaQFnExactIsCurrentx0
import Derived.Test.YtineejdlpcgnkaaQFnExactIsCurrentx6
import Derived.Test.YtineejdlpcgnkaaQFnExactIsCurrentx7
import Derived.Test.YtineejdlpcgnkaaQFnExactIsCurrentx8
namespace Go.Proofs.Ytineejdlpcgnkaa.QFnExactIsCurrent
open Go.RowKit Go.Proofs.YtineejdlpcgnkaaW.PrintWords Go.Proofs.YtineejdlpcgnkaaW.PrintLast Go.Proofs.YtineejdlpcgnkaaW.PrintMore
attribute [local go_sem] max2_int min2_int max_two min_two max_three min_three max_four min_four   -- for this text's walks alone
set_option linter.unusedVariables false
set_option linter.unusedSimpArgs false

/-! ### laws_eqPoint: function 15 -/
def laws_eqPoint.f (k : Nat) (a0_0 : Int) (a0_1 : Int) (a0_2 : Int) (l0_3 : List (S149)) (a0_4 : Int) (l0_5 : List (S174)) (l0_6 : List (S132)) (l0_7 : List (S99)) (a0_8 : Int) (l0_9 : List (S103)) (a1_0 : Int) (a1_1 : Int) (a1_2 : Int) (l1_3 : List (S149)) (a1_4 : Int) (l1_5 : List (S174)) (l1_6 : List (S132)) (l1_7 : List (S99)) (a1_8 : Int) (l1_9 : List (S103)) : Option (Bool) := if a0_0 = a1_0 then ((laws_eqEpoch.f k a0_1 a0_2 l0_3 a0_4 l0_5 a1_1 a1_2 l1_3 a1_4 l1_5).bind fun t311 => (if t311 = true then ((laws_eqFactS.f k l0_6 l1_6).bind fun t312 => (if t312 = true then ((laws_eqRevokedS.f k l0_7 l1_7).bind fun t313 => (if t313 = true then (if a0_8 = a1_8 then ((laws_eqSavedS.f k l0_9 l1_9).bind fun t314 => (if t314 = true then (some true) else (some false))) else (some false)) else (some false))) else (some false))) else (some false))) else (some false)
theorem laws_eqPoint.mono : ∀ a0 a1 a2 a3 a4 a5 a6 a7 a8 a9 a10 a11 a12 a13 a14 a15 a16 a17 a18 a19 k, LeO (laws_eqPoint.f k a0 a1 a2 a3 a4 a5 a6 a7 a8 a9 a10 a11 a12 a13 a14 a15 a16 a17 a18 a19) (laws_eqPoint.f (k + 1) a0 a1 a2 a3 a4 a5 a6 a7 a8 a9 a10 a11 a12 a13 a14 a15 a16 a17 a18 a19) := by
  intro a0 a1 a2 a3 a4 a5 a6 a7 a8 a9 a10 a11 a12 a13 a14 a15 a16 a17 a18 a19 k
  unfold laws_eqPoint.f
  repeat' first
      | (with_reducible exact laws_eqEpoch.mono _ _ _ _ _ _ _ _ _ _ _)
      | (with_reducible exact laws_eqFactS.mono _ _ _)
      | (with_reducible exact laws_eqRevokedS.mono _ _ _)
      | (with_reducible exact laws_eqSavedS.mono _ _ _)
      | (with_reducible exact LeO.refl _)
      | (with_reducible exact LeO.none _)
      | (with_reducible refine LeO.ite ?_ ?_)
      | (with_reducible refine LeO.bind ?_ (fun _ => ?_))
      | exact laws_eqEpoch.mono _ _ _ _ _ _ _ _ _ _ _
      | exact laws_eqFactS.mono _ _ _
      | exact laws_eqRevokedS.mono _ _ _
      | exact laws_eqSavedS.mono _ _ _
      | exact LeO.none _
      | refine LeO.ite ?_ ?_
      | refine LeO.bind ?_ (fun _ => ?_)
set_option maxHeartbeats 8000000 in
set_option maxRecDepth 100000 in
theorem laws_eqPoint.calls (k : Nat) (a0_0 : Int) (a0_1 : Int) (a0_2 : Int) (A0_3 : Option Addr) (c0_3 : Nat) (l0_3 : List (S149)) (a0_4 : Int) (A0_5 : Option Addr) (c0_5 : Nat) (l0_5 : List (S174)) (A0_6 : Option Addr) (c0_6 : Nat) (l0_6 : List (S132)) (A0_7 : Option Addr) (c0_7 : Nat) (l0_7 : List (S99)) (a0_8 : Int) (A0_9 : Option Addr) (c0_9 : Nat) (l0_9 : List (S103)) (a1_0 : Int) (a1_1 : Int) (a1_2 : Int) (A1_3 : Option Addr) (c1_3 : Nat) (l1_3 : List (S149)) (a1_4 : Int) (A1_5 : Option Addr) (c1_5 : Nat) (l1_5 : List (S174)) (A1_6 : Option Addr) (c1_6 : Nat) (l1_6 : List (S132)) (A1_7 : Option Addr) (c1_7 : Nat) (l1_7 : List (S99)) (a1_8 : Int) (A1_9 : Option Addr) (c1_9 : Nat) (l1_9 : List (S103)) (r : Bool) (w : World) (hr0_3 : Kd.C k149 w A0_3 l0_3.length l0_3) (hc0_3 : l0_3.length ≤ c0_3) (hr0_5 : Kd.C k174 w A0_5 l0_5.length l0_5) (hc0_5 : l0_5.length ≤ c0_5) (hr0_6 : Kd.C k132 w A0_6 l0_6.length l0_6) (hc0_6 : l0_6.length ≤ c0_6) (hr0_7 : Kd.C k99 w A0_7 l0_7.length l0_7) (hc0_7 : l0_7.length ≤ c0_7) (hr0_9 : Kd.C k103 w A0_9 l0_9.length l0_9) (hc0_9 : l0_9.length ≤ c0_9) (hr1_3 : Kd.C k149 w A1_3 l1_3.length l1_3) (hc1_3 : l1_3.length ≤ c1_3) (hr1_5 : Kd.C k174 w A1_5 l1_5.length l1_5) (hc1_5 : l1_5.length ≤ c1_5) (hr1_6 : Kd.C k132 w A1_6 l1_6.length l1_6) (hc1_6 : l1_6.length ≤ c1_6) (hr1_7 : Kd.C k99 w A1_7 l1_7.length l1_7) (hc1_7 : l1_7.length ≤ c1_7) (hr1_9 : Kd.C k103 w A1_9 l1_9.length l1_9) (hc1_9 : l1_9.length ≤ c1_9) (h : laws_eqPoint.f k a0_0 a0_1 a0_2 l0_3 a0_4 l0_5 l0_6 l0_7 a0_8 l0_9 a1_0 a1_1 a1_2 l1_3 a1_4 l1_5 l1_6 l1_7 a1_8 l1_9 = some r) :
    Calls Try.prog 15 #[.agg #[.int .i64 a0_0, .int .i64 a0_1, .int .i64 a0_2, .slice A0_3 l0_3.length c0_3, .int .i64 a0_4, .slice A0_5 l0_5.length c0_5, .slice A0_6 l0_6.length c0_6, .slice A0_7 l0_7.length c0_7, .int .i64 a0_8, .slice A0_9 l0_9.length c0_9], .agg #[.int .i64 a1_0, .int .i64 a1_1, .int .i64 a1_2, .slice A1_3 l1_3.length c1_3, .int .i64 a1_4, .slice A1_5 l1_5.length c1_5, .slice A1_6 l1_6.length c1_6, .slice A1_7 l1_7.length c1_7, .int .i64 a1_8, .slice A1_9 l1_9.length c1_9]] w fun e w' => e = .returned (.bool r) ∧ Below w.heap.size w w' := by
  have HR0_3 := Aside0.mk hr0_3
  have HC0_3 := Aside0.mk hc0_3
  clear hr0_3 hc0_3
  have HR0_5 := Aside0.mk hr0_5
  have HC0_5 := Aside0.mk hc0_5
  clear hr0_5 hc0_5
  have HR0_6 := Aside0.mk hr0_6
  have HC0_6 := Aside0.mk hc0_6
  clear hr0_6 hc0_6
  have HR0_7 := Aside0.mk hr0_7
  have HC0_7 := Aside0.mk hc0_7
  clear hr0_7 hc0_7
  have HR0_9 := Aside0.mk hr0_9
  have HC0_9 := Aside0.mk hc0_9
  clear hr0_9 hc0_9
  have HR1_3 := Aside0.mk hr1_3
  have HC1_3 := Aside0.mk hc1_3
  clear hr1_3 hc1_3
  have HR1_5 := Aside0.mk hr1_5
  have HC1_5 := Aside0.mk hc1_5
  clear hr1_5 hc1_5
  have HR1_6 := Aside0.mk hr1_6
  have HC1_6 := Aside0.mk hc1_6
  clear hr1_6 hc1_6
  have HR1_7 := Aside0.mk hr1_7
  have HC1_7 := Aside0.mk hc1_7
  clear hr1_7 hc1_7
  have HR1_9 := Aside0.mk hr1_9
  have HC1_9 := Aside0.mk hc1_9
  clear hr1_9 hc1_9
  have HB := Aside0.mk (Below.refl w.heap.size w)
  have H := h
  clear h
  unfold laws_eqPoint.f at H
  have hu40 := Try.underlying40
  have hu45 := Try.underlying45
  go_enter Try.func15, Try.ntmps15
  by_cases c3 : a0_0 = a1_0
  · rw [if_pos c3] at H
    have c3_1 : (a0_0 == a1_0) = true := beq_iff_eq.mpr c3
    have c3_2 : (a0_0 != a1_0) = false := bne_eq_false_iff_eq.mpr c3
    have c3_0 : decide (a0_0 = a1_0) = true := decide_eq_true c3
    clear c3
    have H'' := Aside0.mk H
    clear H
    go_wp2_with (first | ((with_reducible refine gate_dst (N := 2) rfl ?_); refine box_event ?hg (N := 2) ?hd (cs := #[.int .i64 a0_0, .int .i64 a0_1, .int .i64 a0_2, .slice A0_3 l0_3.length c0_3, .int .i64 a0_4, .slice A0_5 l0_5.length c0_5, .slice A0_6 l0_6.length c0_6, .slice A0_7 l0_7.length c0_7, .int .i64 a0_8, .slice A0_9 l0_9.length c0_9]) (t := 45) ?hr ?_; (case hd => rfl); (case hg => rfl); (case hr => first | (go_simp; done) | (go_simp; rfl)); intro gb1 hg W1 hbox hb; have Z1 := Aside0.mk hb.size; have E1 := Aside0.mk (And.intro hg (blk_lt hbox)); have BK1 := Aside0.mk hbox; have c_BK1 := blk_cell hbox; have z_BK1 := blk_frozen hbox; have hB_ := below_step HB.out hb; clear HB hb hbox hg; have HB := Aside0.mk hB_; clear hB_) | ((with_reducible refine gate_dst (N := 3) rfl ?_); refine box_event ?hg (N := 3) ?hd (cs := #[.int .i64 a1_0, .int .i64 a1_1, .int .i64 a1_2, .slice A1_3 l1_3.length c1_3, .int .i64 a1_4, .slice A1_5 l1_5.length c1_5, .slice A1_6 l1_6.length c1_6, .slice A1_7 l1_7.length c1_7, .int .i64 a1_8, .slice A1_9 l1_9.length c1_9]) (t := 45) ?hr ?_; (case hd => rfl); (case hg => rfl); (case hr => first | (go_simp; done) | (go_simp; rfl)); intro gb2 hg W2 hbox hb; have Z2 := Aside0.mk hb.size; have E2 := Aside0.mk (And.intro hg (blk_lt hbox)); have h_ := blk_below BK1.out hb; clear BK1 c_BK1 z_BK1; have BK1 := Aside0.mk h_; have c_BK1 := blk_cell h_; have z_BK1 := blk_frozen h_; clear h_; have BK2 := Aside0.mk hbox; have c_BK2 := blk_cell hbox; have z_BK2 := blk_frozen hbox; have hB_ := below_step HB.out hb; clear HB hb hbox hg; have HB := Aside0.mk hB_; clear hB_))
    have H := H''.out
    clear H''
    obtain ⟨t311, hm, H⟩ := Option.bind_eq_some_iff.mp H
    try dsimp only at H
    have H' := Aside0.mk H
    clear H
    have hcall := laws_eqEpoch.calls k a0_1 a0_2 _ _ l0_3 a0_4 _ _ l0_5 a1_1 a1_2 _ _ l1_3 a1_4 _ _ l1_5 t311 W2 (Kd.C_below HR0_3.out HB.out) HC0_3.out (Kd.C_below HR0_5.out HB.out) HC0_5.out (Kd.C_below HR1_3.out HB.out) HC1_3.out (Kd.C_below HR1_5.out HB.out) HC1_5.out hm
    clear hm
    try go_wp2_with fail
    refine hcall.mono ?_
    rintro e W4 ⟨rfl, hb⟩
    clear hcall
    have Z4 := Aside0.mk hb.size
    have h_ := blk_below BK1.out hb
    clear BK1 c_BK1 z_BK1
    have BK1 := Aside0.mk h_
    have c_BK1 := blk_cell h_
    have z_BK1 := blk_frozen h_
    clear h_
    have h_ := blk_below BK2.out hb
    clear BK2 c_BK2 z_BK2
    have BK2 := Aside0.mk h_
    have c_BK2 := blk_cell h_
    have z_BK2 := blk_frozen h_
    clear h_
    have hB_ := below_step HB.out hb
    clear HB hb
    have HB := Aside0.mk hB_
    clear hB_
    have H := H'.out
    clear H'
    by_cases c5 : t311 = true
    · rw [if_pos c5] at H
      subst c5
      obtain ⟨t312, hm, H⟩ := Option.bind_eq_some_iff.mp H
      try dsimp only at H
      have H' := Aside0.mk H
      clear H
      have hcall := laws_eqFactS.calls k _ _ l0_6 _ _ l1_6 t312 W4 (Kd.C_below HR0_6.out HB.out) HC0_6.out (Kd.C_below HR1_6.out HB.out) HC1_6.out hm
      clear hm
      go_wp2_with fail
      refine hcall.mono ?_
      rintro e W6 ⟨rfl, hb⟩
      clear hcall
      have Z6 := Aside0.mk hb.size
      have h_ := blk_below BK1.out hb
      clear BK1 c_BK1 z_BK1
      have BK1 := Aside0.mk h_
      have c_BK1 := blk_cell h_
      have z_BK1 := blk_frozen h_
      clear h_
      have h_ := blk_below BK2.out hb
      clear BK2 c_BK2 z_BK2
      have BK2 := Aside0.mk h_
      have c_BK2 := blk_cell h_
      have z_BK2 := blk_frozen h_
      clear h_
      have hB_ := below_step HB.out hb
      clear HB hb
      have HB := Aside0.mk hB_
      clear hB_
      have H := H'.out
      clear H'
      by_cases c7 : t312 = true
      · rw [if_pos c7] at H
        subst c7
        obtain ⟨t313, hm, H⟩ := Option.bind_eq_some_iff.mp H
        try dsimp only at H
        have H' := Aside0.mk H
        clear H
        have hcall := laws_eqRevokedS.calls k _ _ l0_7 _ _ l1_7 t313 W6 (Kd.C_below HR0_7.out HB.out) HC0_7.out (Kd.C_below HR1_7.out HB.out) HC1_7.out hm
        clear hm
        go_wp2_with fail
        refine hcall.mono ?_
        rintro e W8 ⟨rfl, hb⟩
        clear hcall
        have Z8 := Aside0.mk hb.size
        have h_ := blk_below BK1.out hb
        clear BK1 c_BK1 z_BK1
        have BK1 := Aside0.mk h_
        have c_BK1 := blk_cell h_
        have z_BK1 := blk_frozen h_
        clear h_
        have h_ := blk_below BK2.out hb
        clear BK2 c_BK2 z_BK2
        have BK2 := Aside0.mk h_
        have c_BK2 := blk_cell h_
        have z_BK2 := blk_frozen h_
        clear h_
        have hB_ := below_step HB.out hb
        clear HB hb
        have HB := Aside0.mk hB_
        clear hB_
        have H := H'.out
        clear H'
        by_cases c9 : t313 = true
        · rw [if_pos c9] at H
          subst c9
          by_cases c10 : a0_8 = a1_8
          · rw [if_pos c10] at H
            have c10_1 : (a0_8 == a1_8) = true := beq_iff_eq.mpr c10
            have c10_2 : (a0_8 != a1_8) = false := bne_eq_false_iff_eq.mpr c10
            have c10_0 : decide (a0_8 = a1_8) = true := decide_eq_true c10
            clear c10
            obtain ⟨t314, hm, H⟩ := Option.bind_eq_some_iff.mp H
            try dsimp only at H
            have H' := Aside0.mk H
            clear H
            have hcall := laws_eqSavedS.calls k _ _ l0_9 _ _ l1_9 t314 W8 (Kd.C_below HR0_9.out HB.out) HC0_9.out (Kd.C_below HR1_9.out HB.out) HC1_9.out hm
            clear hm
            go_wp2_with fail
            refine hcall.mono ?_
            rintro e W11 ⟨rfl, hb⟩
            clear hcall
            have Z11 := Aside0.mk hb.size
            have h_ := blk_below BK1.out hb
            clear BK1 c_BK1 z_BK1
            have BK1 := Aside0.mk h_
            have c_BK1 := blk_cell h_
            have z_BK1 := blk_frozen h_
            clear h_
            have h_ := blk_below BK2.out hb
            clear BK2 c_BK2 z_BK2
            have BK2 := Aside0.mk h_
            have c_BK2 := blk_cell h_
            have z_BK2 := blk_frozen h_
            clear h_
            have hB_ := below_step HB.out hb
            clear HB hb
            have HB := Aside0.mk hB_
            clear hB_
            have H := H'.out
            clear H'
            by_cases c12 : t314 = true
            · rw [if_pos c12] at H
              subst c12
              obtain rfl := Option.some.inj H
              clear H
              go_wp2
              go_ret
              exact ⟨rfl, HB.out⟩
            · rw [if_neg c12] at H
              replace c12 : t314 = false := by simpa using c12
              subst c12
              obtain rfl := Option.some.inj H
              clear H
              go_wp2
              go_ret
              exact ⟨rfl, HB.out⟩
          · rw [if_neg c10] at H
            have c10_1 : (a0_8 == a1_8) = false := beq_eq_false_iff_ne.mpr c10
            have c10_2 : (a0_8 != a1_8) = true := bne_iff_ne.mpr c10
            have c10_0 : decide (a0_8 = a1_8) = false := decide_eq_false c10
            clear c10
            obtain rfl := Option.some.inj H
            clear H
            go_wp2
            go_ret
            exact ⟨rfl, HB.out⟩
        · rw [if_neg c9] at H
          replace c9 : t313 = false := by simpa using c9
          subst c9
          obtain rfl := Option.some.inj H
          clear H
          go_wp2
          go_ret
          exact ⟨rfl, HB.out⟩
      · rw [if_neg c7] at H
        replace c7 : t312 = false := by simpa using c7
        subst c7
        obtain rfl := Option.some.inj H
        clear H
        go_wp2
        go_ret
        exact ⟨rfl, HB.out⟩
    · rw [if_neg c5] at H
      replace c5 : t311 = false := by simpa using c5
      subst c5
      obtain rfl := Option.some.inj H
      clear H
      go_wp2
      go_ret
      exact ⟨rfl, HB.out⟩
  · rw [if_neg c3] at H
    have c3_1 : (a0_0 == a1_0) = false := beq_eq_false_iff_ne.mpr c3
    have c3_2 : (a0_0 != a1_0) = true := bne_iff_ne.mpr c3
    have c3_0 : decide (a0_0 = a1_0) = false := decide_eq_false c3
    clear c3
    have H'' := Aside0.mk H
    clear H
    go_wp2_with (first | ((with_reducible refine gate_dst (N := 2) rfl ?_); refine box_event ?hg (N := 2) ?hd (cs := #[.int .i64 a0_0, .int .i64 a0_1, .int .i64 a0_2, .slice A0_3 l0_3.length c0_3, .int .i64 a0_4, .slice A0_5 l0_5.length c0_5, .slice A0_6 l0_6.length c0_6, .slice A0_7 l0_7.length c0_7, .int .i64 a0_8, .slice A0_9 l0_9.length c0_9]) (t := 45) ?hr ?_; (case hd => rfl); (case hg => rfl); (case hr => first | (go_simp; done) | (go_simp; rfl)); intro gb1 hg W1 hbox hb; have Z1 := Aside0.mk hb.size; have E1 := Aside0.mk (And.intro hg (blk_lt hbox)); have BK1 := Aside0.mk hbox; have c_BK1 := blk_cell hbox; have z_BK1 := blk_frozen hbox; have hB_ := below_step HB.out hb; clear HB hb hbox hg; have HB := Aside0.mk hB_; clear hB_) | ((with_reducible refine gate_dst (N := 3) rfl ?_); refine box_event ?hg (N := 3) ?hd (cs := #[.int .i64 a1_0, .int .i64 a1_1, .int .i64 a1_2, .slice A1_3 l1_3.length c1_3, .int .i64 a1_4, .slice A1_5 l1_5.length c1_5, .slice A1_6 l1_6.length c1_6, .slice A1_7 l1_7.length c1_7, .int .i64 a1_8, .slice A1_9 l1_9.length c1_9]) (t := 45) ?hr ?_; (case hd => rfl); (case hg => rfl); (case hr => first | (go_simp; done) | (go_simp; rfl)); intro gb2 hg W2 hbox hb; have Z2 := Aside0.mk hb.size; have E2 := Aside0.mk (And.intro hg (blk_lt hbox)); have h_ := blk_below BK1.out hb; clear BK1 c_BK1 z_BK1; have BK1 := Aside0.mk h_; have c_BK1 := blk_cell h_; have z_BK1 := blk_frozen h_; clear h_; have BK2 := Aside0.mk hbox; have c_BK2 := blk_cell hbox; have z_BK2 := blk_frozen hbox; have hB_ := below_step HB.out hb; clear HB hb hbox hg; have HB := Aside0.mk hB_; clear hB_))
    have H := H''.out
    clear H''
    obtain rfl := Option.some.inj H
    clear H
    try go_wp2
    go_ret
    exact ⟨rfl, HB.out⟩

end Go.Proofs.Ytineejdlpcgnkaa.QFnExactIsCurrent
