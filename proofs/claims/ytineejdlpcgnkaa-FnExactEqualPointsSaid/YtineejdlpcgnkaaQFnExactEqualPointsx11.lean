/- The machine side of FnExactEqualPoints: what each function that it reaches computes, and that the machine's call gives just that. -/
import Derived.Test.YtineejdlpcgnkaaQFnExactEqualPointsx0
import Derived.Test.YtineejdlpcgnkaaQFnExactEqualPointsx4
import Derived.Test.YtineejdlpcgnkaaQFnExactEqualPointsx9
import Derived.Test.YtineejdlpcgnkaaQFnExactEqualPointsx10
namespace Go.Proofs.Ytineejdlpcgnkaa.QFnExactEqualPoints
open Go.RowKit Go.Proofs.YtineejdlpcgnkaaW.PrintWords Go.Proofs.YtineejdlpcgnkaaW.PrintLast Go.Proofs.YtineejdlpcgnkaaW.PrintMore
attribute [local go_sem] max2_int min2_int max_two min_two max_three min_three max_four min_four   -- for this text's walks alone
set_option linter.unusedVariables false
set_option linter.unusedSimpArgs false

attribute [local go_sem high] eqA149
/-! ### laws_eqPoint: function 15 -/
def laws_eqPoint.f (k : Nat) (a0_0 : Int) (a0_1 : Int) (a0_2 : Int) (l0_3 : List (S149)) (a0_4 : Int) (l0_5 : List (S174)) (l0_6 : List (S132)) (l0_7 : List (S99)) (a0_8 : Int) (l0_9 : List (S103)) (a1_0 : Int) (a1_1 : Int) (a1_2 : Int) (l1_3 : List (S149)) (a1_4 : Int) (l1_5 : List (S174)) (l1_6 : List (S132)) (l1_7 : List (S99)) (a1_8 : Int) (l1_9 : List (S103)) : Option (Bool) := if a0_0 = a1_0 then ((laws_eqEpoch.f k a0_1 a0_2 l0_3 a0_4 l0_5 a1_1 a1_2 l1_3 a1_4 l1_5).bind fun t284 => (if t284 = true then ((laws_eqFactS.f k l0_6 l1_6).bind fun t285 => (if t285 = true then ((laws_eqRevokedS.f k l0_7 l1_7).bind fun t286 => (if t286 = true then (if a0_8 = a1_8 then ((laws_eqSavedS.f k l0_9 l1_9).bind fun t287 => (if t287 = true then (some true) else (some false))) else (some false)) else (some false))) else (some false))) else (some false))) else (some false)
set_option maxHeartbeats 8000000 in
set_option maxRecDepth 100000 in
theorem laws_eqPoint.calls (k : Nat) (a0_0 : Int) (a0_1 : Int) (a0_2 : Int) (A0_3 : Option Addr) (c0_3 : Nat) (l0_3 : List (S149)) (a0_4 : Int) (A0_5 : Option Addr) (c0_5 : Nat) (l0_5 : List (S174)) (A0_6 : Option Addr) (c0_6 : Nat) (l0_6 : List (S132)) (A0_7 : Option Addr) (c0_7 : Nat) (l0_7 : List (S99)) (a0_8 : Int) (A0_9 : Option Addr) (c0_9 : Nat) (l0_9 : List (S103)) (a1_0 : Int) (a1_1 : Int) (a1_2 : Int) (A1_3 : Option Addr) (c1_3 : Nat) (l1_3 : List (S149)) (a1_4 : Int) (A1_5 : Option Addr) (c1_5 : Nat) (l1_5 : List (S174)) (A1_6 : Option Addr) (c1_6 : Nat) (l1_6 : List (S132)) (A1_7 : Option Addr) (c1_7 : Nat) (l1_7 : List (S99)) (a1_8 : Int) (A1_9 : Option Addr) (c1_9 : Nat) (l1_9 : List (S103)) (r : Bool) (w : World) (hr0_3 : Kd.C k149 w A0_3 l0_3.length l0_3) (hc0_3 : l0_3.length ≤ c0_3) (hr0_5 : Kd.C k174 w A0_5 l0_5.length l0_5) (hc0_5 : l0_5.length ≤ c0_5) (hr0_6 : Kd.C k132 w A0_6 l0_6.length l0_6) (hc0_6 : l0_6.length ≤ c0_6) (hr0_7 : Kd.C k99 w A0_7 l0_7.length l0_7) (hc0_7 : l0_7.length ≤ c0_7) (hr0_9 : Kd.C k103 w A0_9 l0_9.length l0_9) (hc0_9 : l0_9.length ≤ c0_9) (hr1_3 : Kd.C k149 w A1_3 l1_3.length l1_3) (hc1_3 : l1_3.length ≤ c1_3) (hr1_5 : Kd.C k174 w A1_5 l1_5.length l1_5) (hc1_5 : l1_5.length ≤ c1_5) (hr1_6 : Kd.C k132 w A1_6 l1_6.length l1_6) (hc1_6 : l1_6.length ≤ c1_6) (hr1_7 : Kd.C k99 w A1_7 l1_7.length l1_7) (hc1_7 : l1_7.length ≤ c1_7) (hr1_9 : Kd.C k103 w A1_9 l1_9.length l1_9) (hc1_9 : l1_9.length ≤ c1_9) (h : laws_eqPoint.f k a0_0 a0_1 a0_2 l0_3 a0_4 l0_5 l0_6 l0_7 a0_8 l0_9 a1_0 a1_1 a1_2 l1_3 a1_4 l1_5 l1_6 l1_7 a1_8 l1_9 = some r) :
    Calls Try.prog 15 #[.agg #[.int .i64 a0_0, .int .i64 a0_1, .int .i64 a0_2, .slice A0_3 l0_3.length c0_3, .int .i64 a0_4, .slice A0_5 l0_5.length c0_5, .slice A0_6 l0_6.length c0_6, .slice A0_7 l0_7.length c0_7, .int .i64 a0_8, .slice A0_9 l0_9.length c0_9], .agg #[.int .i64 a1_0, .int .i64 a1_1, .int .i64 a1_2, .slice A1_3 l1_3.length c1_3, .int .i64 a1_4, .slice A1_5 l1_5.length c1_5, .slice A1_6 l1_6.length c1_6, .slice A1_7 l1_7.length c1_7, .int .i64 a1_8, .slice A1_9 l1_9.length c1_9]] w fun e w' => e = .returned (.bool r) ∧ Below w.heap.size w w' := by
  have HR0_3 := Aside0.mk hr0_3
  have HC0_3 := Aside0.mk hc0_3
  clear hr0_3 hc0_3
  have HR0_5 := Aside0.mk hr0_5
  have HC0_5 := Aside0.mk hc0_5
  clear hr0_5 hc0_5
  have HR0_6 := Aside0.mk hr0_6
  have HC0_6 := Aside0.mk hc0_6
  clear hr0_6 hc0_6
  have HR0_7 := Aside0.mk hr0_7
  have HC0_7 := Aside0.mk hc0_7
  clear hr0_7 hc0_7
  have HR0_9 := Aside0.mk hr0_9
  have HC0_9 := Aside0.mk hc0_9
  clear hr0_9 hc0_9
  have HR1_3 := Aside0.mk hr1_3
  have HC1_3 := Aside0.mk hc1_3
  clear hr1_3 hc1_3
  have HR1_5 := Aside0.mk hr1_5
  have HC1_5 := Aside0.mk hc1_5
  clear hr1_5 hc1_5
  have HR1_6 := Aside0.mk hr1_6
  have HC1_6 := Aside0.mk hc1_6
  clear hr1_6 hc1_6
  have HR1_7 := Aside0.mk hr1_7
  have HC1_7 := Aside0.mk hc1_7
  clear hr1_7 hc1_7
  have HR1_9 := Aside0.mk hr1_9
  have HC1_9 := Aside0.mk hc1_9
  clear hr1_9 hc1_9
  have HB := Aside0.mk (Below.refl w.heap.size w)
  have H := h
  clear h
  unfold laws_eqPoint.f at H
  have hu40 := Try.underlying40
  have hu45 := Try.underlying45
  go_enter Try.func15, Try.ntmps15
  by_cases c3 : a0_0 = a1_0
  · rw [if_pos c3] at H
    have c3_1 : (a0_0 == a1_0) = true := beq_iff_eq.mpr c3
    have c3_2 : (a0_0 != a1_0) = false := bne_eq_false_iff_eq.mpr c3
    have c3_0 : decide (a0_0 = a1_0) = true := decide_eq_true c3
    clear c3
    have H'' := Aside0.mk H
    clear H
    go_wp2_with (first | ((with_reducible refine gate_dst (N := 2) rfl ?_); refine box_event ?hg (N := 2) ?hd (cs := #[.int .i64 a0_0, .int .i64 a0_1, .int .i64 a0_2, .slice A0_3 l0_3.length c0_3, .int .i64 a0_4, .slice A0_5 l0_5.length c0_5, .slice A0_6 l0_6.length c0_6, .slice A0_7 l0_7.length c0_7, .int .i64 a0_8, .slice A0_9 l0_9.length c0_9]) (t := 45) ?hr ?_; (case hd => rfl); (case hg => rfl); (case hr => first | (go_simp; done) | (go_simp; rfl)); intro gb1 hg W1 hbox hb; have Z1 := Aside0.mk hb.size; have E1 := Aside0.mk (And.intro hg (blk_lt hbox)); have BK1 := Aside0.mk hbox; have c_BK1 := blk_cell hbox; have z_BK1 := blk_frozen hbox; have hB_ := below_step HB.out hb; clear HB hb hbox hg; have HB := Aside0.mk hB_; clear hB_) | ((with_reducible refine gate_dst (N := 3) rfl ?_); refine box_event ?hg (N := 3) ?hd (cs := #[.int .i64 a1_0, .int .i64 a1_1, .int .i64 a1_2, .slice A1_3 l1_3.length c1_3, .int .i64 a1_4, .slice A1_5 l1_5.length c1_5, .slice A1_6 l1_6.length c1_6, .slice A1_7 l1_7.length c1_7, .int .i64 a1_8, .slice A1_9 l1_9.length c1_9]) (t := 45) ?hr ?_; (case hd => rfl); (case hg => rfl); (case hr => first | (go_simp; done) | (go_simp; rfl)); intro gb2 hg W2 hbox hb; have Z2 := Aside0.mk hb.size; have E2 := Aside0.mk (And.intro hg (blk_lt hbox)); have h_ := blk_below BK1.out hb; clear BK1 c_BK1 z_BK1; have BK1 := Aside0.mk h_; have c_BK1 := blk_cell h_; have z_BK1 := blk_frozen h_; clear h_; have BK2 := Aside0.mk hbox; have c_BK2 := blk_cell hbox; have z_BK2 := blk_frozen hbox; have hB_ := below_step HB.out hb; clear HB hb hbox hg; have HB := Aside0.mk hB_; clear hB_))
    have H := H''.out
    clear H''
    replace H := Option.bind_eq_some_iff.mp H
    obtain ⟨t284, hm, H⟩ := H
    try dsimp only at H
    have H' := Aside0.mk H
    clear H
    have hcall := laws_eqEpoch.calls k a0_1 a0_2 _ _ l0_3 a0_4 _ _ l0_5 a1_1 a1_2 _ _ l1_3 a1_4 _ _ l1_5 t284 W2 (Kd.C_below HR0_3.out HB.out) HC0_3.out (Kd.C_below HR0_5.out HB.out) HC0_5.out (Kd.C_below HR1_3.out HB.out) HC1_3.out (Kd.C_below HR1_5.out HB.out) HC1_5.out hm
    clear hm
    try go_wp2_with fail
    refine hcall.mono ?_
    rintro e W4 ⟨rfl, hb⟩
    clear hcall
    have Z4 := Aside0.mk hb.size
    have h_ := blk_below BK1.out hb
    clear BK1 c_BK1 z_BK1
    have BK1 := Aside0.mk h_
    have c_BK1 := blk_cell h_
    have z_BK1 := blk_frozen h_
    clear h_
    have h_ := blk_below BK2.out hb
    clear BK2 c_BK2 z_BK2
    have BK2 := Aside0.mk h_
    have c_BK2 := blk_cell h_
    have z_BK2 := blk_frozen h_
    clear h_
    have hB_ := below_step HB.out hb
    clear HB hb
    have HB := Aside0.mk hB_
    clear hB_
    have H := H'.out
    clear H'
    by_cases c5 : t284 = true
    · rw [if_pos c5] at H
      subst c5
      replace H := Option.bind_eq_some_iff.mp H
      obtain ⟨t285, hm, H⟩ := H
      try dsimp only at H
      have H' := Aside0.mk H
      clear H
      have hcall := laws_eqFactS.calls k _ _ l0_6 _ _ l1_6 t285 W4 (Kd.C_below HR0_6.out HB.out) HC0_6.out (Kd.C_below HR1_6.out HB.out) HC1_6.out hm
      clear hm
      go_wp2_with fail
      refine hcall.mono ?_
      rintro e W6 ⟨rfl, hb⟩
      clear hcall
      have Z6 := Aside0.mk hb.size
      have h_ := blk_below BK1.out hb
      clear BK1 c_BK1 z_BK1
      have BK1 := Aside0.mk h_
      have c_BK1 := blk_cell h_
      have z_BK1 := blk_frozen h_
      clear h_
      have h_ := blk_below BK2.out hb
      clear BK2 c_BK2 z_BK2
      have BK2 := Aside0.mk h_
      have c_BK2 := blk_cell h_
      have z_BK2 := blk_frozen h_
      clear h_
      have hB_ := below_step HB.out hb
      clear HB hb
      have HB := Aside0.mk hB_
      clear hB_
      have H := H'.out
      clear H'
      by_cases c7 : t285 = true
      · rw [if_pos c7] at H
        subst c7
        replace H := Option.bind_eq_some_iff.mp H
        obtain ⟨t286, hm, H⟩ := H
        try dsimp only at H
        have H' := Aside0.mk H
        clear H
        have hcall := laws_eqRevokedS.calls k _ _ l0_7 _ _ l1_7 t286 W6 (Kd.C_below HR0_7.out HB.out) HC0_7.out (Kd.C_below HR1_7.out HB.out) HC1_7.out hm
        clear hm
        go_wp2_with fail
        refine hcall.mono ?_
        rintro e W8 ⟨rfl, hb⟩
        clear hcall
        have Z8 := Aside0.mk hb.size
        have h_ := blk_below BK1.out hb
        clear BK1 c_BK1 z_BK1
        have BK1 := Aside0.mk h_
        have c_BK1 := blk_cell h_
        have z_BK1 := blk_frozen h_
        clear h_
        have h_ := blk_below BK2.out hb
        clear BK2 c_BK2 z_BK2
        have BK2 := Aside0.mk h_
        have c_BK2 := blk_cell h_
        have z_BK2 := blk_frozen h_
        clear h_
        have hB_ := below_step HB.out hb
        clear HB hb
        have HB := Aside0.mk hB_
        clear hB_
        have H := H'.out
        clear H'
        by_cases c9 : t286 = true
        · rw [if_pos c9] at H
          subst c9
          by_cases c10 : a0_8 = a1_8
          · rw [if_pos c10] at H
            have c10_1 : (a0_8 == a1_8) = true := beq_iff_eq.mpr c10
            have c10_2 : (a0_8 != a1_8) = false := bne_eq_false_iff_eq.mpr c10
            have c10_0 : decide (a0_8 = a1_8) = true := decide_eq_true c10
            clear c10
            replace H := Option.bind_eq_some_iff.mp H
            obtain ⟨t287, hm, H⟩ := H
            try dsimp only at H
            have H' := Aside0.mk H
            clear H
            have hcall := laws_eqSavedS.calls k _ _ l0_9 _ _ l1_9 t287 W8 (Kd.C_below HR0_9.out HB.out) HC0_9.out (Kd.C_below HR1_9.out HB.out) HC1_9.out hm
            clear hm
            go_wp2_with fail
            refine hcall.mono ?_
            rintro e W11 ⟨rfl, hb⟩
            clear hcall
            have Z11 := Aside0.mk hb.size
            have h_ := blk_below BK1.out hb
            clear BK1 c_BK1 z_BK1
            have BK1 := Aside0.mk h_
            have c_BK1 := blk_cell h_
            have z_BK1 := blk_frozen h_
            clear h_
            have h_ := blk_below BK2.out hb
            clear BK2 c_BK2 z_BK2
            have BK2 := Aside0.mk h_
            have c_BK2 := blk_cell h_
            have z_BK2 := blk_frozen h_
            clear h_
            have hB_ := below_step HB.out hb
            clear HB hb
            have HB := Aside0.mk hB_
            clear hB_
            have H := H'.out
            clear H'
            by_cases c12 : t287 = true
            · rw [if_pos c12] at H
              subst c12
              obtain rfl := Option.some.inj H
              clear H
              go_wp2
              go_ret
              exact ⟨rfl, HB.out⟩
            · rw [if_neg c12] at H
              replace c12 : t287 = false := by simpa using c12
              subst c12
              obtain rfl := Option.some.inj H
              clear H
              go_wp2
              go_ret
              exact ⟨rfl, HB.out⟩
          · rw [if_neg c10] at H
            have c10_1 : (a0_8 == a1_8) = false := beq_eq_false_iff_ne.mpr c10
            have c10_2 : (a0_8 != a1_8) = true := bne_iff_ne.mpr c10
            have c10_0 : decide (a0_8 = a1_8) = false := decide_eq_false c10
            clear c10
            obtain rfl := Option.some.inj H
            clear H
            go_wp2
            go_ret
            exact ⟨rfl, HB.out⟩
        · rw [if_neg c9] at H
          replace c9 : t286 = false := by simpa using c9
          subst c9
          obtain rfl := Option.some.inj H
          clear H
          go_wp2
          go_ret
          exact ⟨rfl, HB.out⟩
      · rw [if_neg c7] at H
        replace c7 : t285 = false := by simpa using c7
        subst c7
        obtain rfl := Option.some.inj H
        clear H
        go_wp2
        go_ret
        exact ⟨rfl, HB.out⟩
    · rw [if_neg c5] at H
      replace c5 : t284 = false := by simpa using c5
      subst c5
      obtain rfl := Option.some.inj H
      clear H
      go_wp2
      go_ret
      exact ⟨rfl, HB.out⟩
  · rw [if_neg c3] at H
    have c3_1 : (a0_0 == a1_0) = false := beq_eq_false_iff_ne.mpr c3
    have c3_2 : (a0_0 != a1_0) = true := bne_iff_ne.mpr c3
    have c3_0 : decide (a0_0 = a1_0) = false := decide_eq_false c3
    clear c3
    have H'' := Aside0.mk H
    clear H
    go_wp2_with (first | ((with_reducible refine gate_dst (N := 2) rfl ?_); refine box_event ?hg (N := 2) ?hd (cs := #[.int .i64 a0_0, .int .i64 a0_1, .int .i64 a0_2, .slice A0_3 l0_3.length c0_3, .int .i64 a0_4, .slice A0_5 l0_5.length c0_5, .slice A0_6 l0_6.length c0_6, .slice A0_7 l0_7.length c0_7, .int .i64 a0_8, .slice A0_9 l0_9.length c0_9]) (t := 45) ?hr ?_; (case hd => rfl); (case hg => rfl); (case hr => first | (go_simp; done) | (go_simp; rfl)); intro gb1 hg W1 hbox hb; have Z1 := Aside0.mk hb.size; have E1 := Aside0.mk (And.intro hg (blk_lt hbox)); have BK1 := Aside0.mk hbox; have c_BK1 := blk_cell hbox; have z_BK1 := blk_frozen hbox; have hB_ := below_step HB.out hb; clear HB hb hbox hg; have HB := Aside0.mk hB_; clear hB_) | ((with_reducible refine gate_dst (N := 3) rfl ?_); refine box_event ?hg (N := 3) ?hd (cs := #[.int .i64 a1_0, .int .i64 a1_1, .int .i64 a1_2, .slice A1_3 l1_3.length c1_3, .int .i64 a1_4, .slice A1_5 l1_5.length c1_5, .slice A1_6 l1_6.length c1_6, .slice A1_7 l1_7.length c1_7, .int .i64 a1_8, .slice A1_9 l1_9.length c1_9]) (t := 45) ?hr ?_; (case hd => rfl); (case hg => rfl); (case hr => first | (go_simp; done) | (go_simp; rfl)); intro gb2 hg W2 hbox hb; have Z2 := Aside0.mk hb.size; have E2 := Aside0.mk (And.intro hg (blk_lt hbox)); have h_ := blk_below BK1.out hb; clear BK1 c_BK1 z_BK1; have BK1 := Aside0.mk h_; have c_BK1 := blk_cell h_; have z_BK1 := blk_frozen h_; clear h_; have BK2 := Aside0.mk hbox; have c_BK2 := blk_cell hbox; have z_BK2 := blk_frozen hbox; have hB_ := below_step HB.out hb; clear HB hb hbox hg; have HB := Aside0.mk hB_; clear hB_))
    have H := H''.out
    clear H''
    obtain rfl := Option.some.inj H
    clear H
    try go_wp2
    go_ret
    exact ⟨rfl, HB.out⟩

/-! ### spec_l24Pairs: function 119 -/
def spec_l24Pairs.l0 : Nat → List (S149) → List (S149) → Int → Option (Bool)
  | 0, _, _, _ => none
  | k + 1, x0, x1, x5 => if x5 < (x0.length : Int) then (if 0 ≤ x5 then (if x5 < (x1.length : Int) then (if (!(((rd_T149 x0 x5).f0) == ((rd_T149 x1 x5).f0)) || (!(((rd_T149 x0 x5).f1) == ((rd_T149 x1 x5).f1)))) = true then (some false) else (spec_l24Pairs.l0 k x0 x1 (wrap64 (x5 + 1)))) else (none)) else (none)) else (some true)
def spec_l24Pairs.f (k : Nat) (l0 : List (S149)) (l1 : List (S149)) : Option (Bool) := if (l0.length : Int) = (l1.length : Int) then (spec_l24Pairs.l0 k l0 l1 0) else (some false)
open Go.Proofs.YtineejdlpcgnkaaM in
set_option maxHeartbeats 8000000 in
set_option maxRecDepth 100000 in
theorem spec_l24Pairs.calls (k : Nat) (A0 : Option Addr) (c0 : Nat) (l0 : List (S149)) (A1 : Option Addr) (c1 : Nat) (l1 : List (S149)) (r : Bool) (w : World) (hr0 : Kd.C k149 w A0 l0.length l0) (hc0 : l0.length ≤ c0) (hr1 : Kd.C k149 w A1 l1.length l1) (hc1 : l1.length ≤ c1) (h : spec_l24Pairs.f k l0 l1 = some r) :
    Calls Try.prog 119 #[.slice A0 l0.length c0, .slice A1 l1.length c1] w fun e w' => e = .returned (.bool r) ∧ Below w.heap.size w w' := by
  have HR0 := Aside0.mk hr0
  have HC0 := Aside0.mk hc0
  clear hr0 hc0
  have HR1 := Aside0.mk hr1
  have HC1 := Aside0.mk hc1
  clear hr1 hc1
  have HB := Aside0.mk (Below.refl w.heap.size w)
  have H := h
  clear h
  unfold spec_l24Pairs.f at H
  have hu149 := Try.underlying149
  go_enter Try.func119, Try.ntmps119
  by_cases c1 : (l0.length : Int) = (l1.length : Int)
  · rw [if_pos c1] at H
    have c1_0 := decT c1; have c1_1 := eqT c1; have c1_2 := neT c1
    clear c1
    replace H := Aside0.mk H
    go_wp2
    go_loopg [5] k (fun kq v5 w' => ∃ (x5_2 : Int), v5 = .int .i64 x5_2 ∧ Aside0 (spec_l24Pairs.l0 kq l0 l1 x5_2 = some r) ∧ Aside0 (kq ≤ k) ∧ Aside0 (Below w.heap.size w w'))
    case atStart => exact ⟨(0), (by first | rfl | (simp; done) | (simp [*]; done)), H, ⟨Nat.le_refl _⟩, HB⟩
    case round =>
      clear H HB 
      try clear c1_0 c1_1 c1_2
      obtain ⟨x5_2, rfl, HA, Hk2, HB⟩ := hrel
      cases gk with
      | zero => exact absurd HA.out (by simp [spec_l24Pairs.l0])
      | succ k2 =>
        have H := HA.out
        clear HA
        simp only [spec_l24Pairs.l0] at H
        by_cases c3 : x5_2 < (l0.length : Int)
        · rw [if_pos c3] at H
          have c3_0 := decT c3
          replace c3 := Aside0.mk c3
          by_cases c4 : 0 ≤ x5_2
          · rw [if_pos c4] at H
            have c4_0 := decT c4
            replace c4 := Aside0.mk c4
            have p288 : 0 ≤ (x5_2 : Int) := (of_decide_eq_true (by assumption))
            have q288 : x5_2 < (l0.length : Int) := (of_decide_eq_true (by assumption))
            obtain ⟨ad288, e288, hx288_0, hx288_1⟩ := at_T149 HR0.out x5_2 p288 q288
            cases e288
            replace hx288_0 := Aside0.mk hx288_0
            have y288_0 := xC HB hx288_0
            replace hx288_1 := Aside0.mk hx288_1
            have y288_1 := xC HB hx288_1
            have r288 := eq_true p288; have s288 := eq_true q288
            replace p288 := Aside0.mk p288; replace q288 := Aside0.mk q288
            by_cases c5 : x5_2 < (l1.length : Int)
            · rw [if_pos c5] at H
              have c5_0 := decT c5
              replace c5 := Aside0.mk c5
              have p289 : 0 ≤ (x5_2 : Int) := (of_decide_eq_true (by assumption))
              have q289 : x5_2 < (l1.length : Int) := (of_decide_eq_true (by assumption))
              obtain ⟨ad289, e289, hx289_0, hx289_1⟩ := at_T149 HR1.out x5_2 p289 q289
              cases e289
              replace hx289_0 := Aside0.mk hx289_0
              have y289_0 := xC HB hx289_0
              replace hx289_1 := Aside0.mk hx289_1
              have y289_1 := xC HB hx289_1
              have r289 := eq_true p289; have s289 := eq_true q289
              replace p289 := Aside0.mk p289; replace q289 := Aside0.mk q289
              replace H := Aside0.mk H
              try go_wp2
              go_quiet (fail)
              try clear y288_0 y288_1 r288 s288 y289_0 y289_1 r289 s289
              replace HB := qH HB nq
              generalize wr.drewN nq = W6 at HB ⊢
              clear nq
              replace H := H.out
              by_cases c7 : (!(((rd_T149 l0 x5_2).f0) == ((rd_T149 l1 x5_2).f0)) || (!(((rd_T149 l0 x5_2).f1) == ((rd_T149 l1 x5_2).f1)))) = true
              · rw [if_pos c7] at H
                try rw [c7]
                obtain rfl := Option.some.inj H
                clear H
                go_wp2
                go_ret
                exact ⟨rfl, HB.out⟩
              · rw [if_neg c7] at H
                replace c7 := (Bool.not_eq_true _).mp c7
                try rw [c7]
                replace H := Aside0.mk H
                go_wp2
                go_roundg k2
                case measure => have := Hk2.out; omega
                case rel => exact ⟨(wrap64 (x5_2 + 1)), (by first | rfl | (simp; done) | (simp [*]; done)), H, ⟨by have := Hk2.out; omega⟩, HB⟩
            · rw [if_neg c5] at H
              cases H
          · rw [if_neg c4] at H
            cases H
        · rw [if_neg c3] at H
          have c3_0 := decF c3
          replace c3 := Aside0.mk c3
          obtain rfl := Option.some.inj H
          clear H
          go_wp2
          go_ret
          exact ⟨rfl, HB.out⟩
  · rw [if_neg c1] at H
    have c1_0 := decF c1; have c1_1 := eqF c1; have c1_2 := neF c1
    clear c1
    obtain rfl := Option.some.inj H
    clear H
    go_wp2
    go_ret
    exact ⟨rfl, HB.out⟩

/-! ### spec_EqualConds: function 150 -/
mutual
def spec_EqualConds.l0 : Nat → Int → Int → Int → Int → List (S172) → Int → Int → Int → List (S172) → Option (Bool)
  | 0, _, _, _, _, _, _, _, _, _ => none
  | k + 1, x5, x291000, x291001, x291002, x291003, x292000, x292001, x292002, x292003 => if x5 < (x291003.length : Int) then (if 0 ≤ x5 then (if x5 < (x292003.length : Int) then ((spec_EqualConds.f k ((rd_T172 x291003 x5).f0) ((rd_T172 x291003 x5).f1) ((rd_T172 x291003 x5).f2) ((rd_T172 x291003 x5).f3) ((rd_T172 x292003 x5).f0) ((rd_T172 x292003 x5).f1) ((rd_T172 x292003 x5).f2) ((rd_T172 x292003 x5).f3)).bind fun t294 => (if t294 = true then (spec_EqualConds.l0 k (wrap64 (x5 + 1)) x291000 x291001 x291002 x291003 x292000 x292001 x292002 x292003) else (some false))) else (none)) else (none)) else (some true)
def spec_EqualConds.f : Nat → Int → Int → Int → List (S172) → Int → Int → Int → List (S172) → Option (Bool)
  | 0, _, _, _, _, _, _, _, _ => none
  | k + 1, a0_0, a0_1, a0_2, l0_3, a1_0, a1_1, a1_2, l1_3 => if a0_0 = a1_0 then (if a0_1 = a1_1 then (if a0_2 = a1_2 then (if (l0_3.length : Int) = (l1_3.length : Int) then (spec_EqualConds.l0 k 0 a0_0 a0_1 a0_2 l0_3 a1_0 a1_1 a1_2 l1_3) else (some false)) else (some false)) else (some false)) else (some false)
end
open Go.Proofs.YtineejdlpcgnkaaM in
set_option maxHeartbeats 8000000 in
set_option maxRecDepth 100000 in
theorem spec_EqualConds.calls (k : Nat) : ∀ (a0_0 : Int) (a0_1 : Int) (a0_2 : Int) (A0_3 : Option Addr) (c0_3 : Nat) (l0_3 : List (S172)) (a1_0 : Int) (a1_1 : Int) (a1_2 : Int) (A1_3 : Option Addr) (c1_3 : Nat) (l1_3 : List (S172)) (r : Bool) (w : World) (hr0_3 : Kd.C k172 w A0_3 l0_3.length l0_3) (hc0_3 : l0_3.length ≤ c0_3) (hr1_3 : Kd.C k172 w A1_3 l1_3.length l1_3) (hc1_3 : l1_3.length ≤ c1_3) (h : spec_EqualConds.f k a0_0 a0_1 a0_2 l0_3 a1_0 a1_1 a1_2 l1_3 = some r),
    Calls Try.prog 150 #[.agg #[.int .i64 a0_0, .int .i64 a0_1, .int .i64 a0_2, .slice A0_3 l0_3.length c0_3], .agg #[.int .i64 a1_0, .int .i64 a1_1, .int .i64 a1_2, .slice A1_3 l1_3.length c1_3]] w fun e w' => e = .returned (.bool r) ∧ Below w.heap.size w w' := by
  induction k using Nat.strongRecOn with
  | _ k ih =>
  intro a0_0 a0_1 a0_2 A0_3 c0_3 l0_3 a1_0 a1_1 a1_2 A1_3 c1_3 l1_3 r w hr0_3 hc0_3 hr1_3 hc1_3 h
  cases k with
  | zero => exact absurd h (by simp [spec_EqualConds.f])
  | succ k =>
  simp only [spec_EqualConds.f] at h
  have HR0_3 := Aside0.mk hr0_3
  have HC0_3 := Aside0.mk hc0_3
  clear hr0_3 hc0_3
  have HR1_3 := Aside0.mk hr1_3
  have HC1_3 := Aside0.mk hc1_3
  clear hr1_3 hc1_3
  have HB := Aside0.mk (Below.refl w.heap.size w)
  have H := h
  clear h
  have hu172 := Try.underlying172
  go_enter Try.func150, Try.ntmps150
  replace H := Aside0.mk H
  go_upto_region 1 with (first | ((with_reducible refine gate_dst (N := 2) rfl ?_); refine box_event ?hg (N := 2) ?hd (cs := #[.int .i64 a0_0, .int .i64 a0_1, .int .i64 a0_2, .slice A0_3 l0_3.length c0_3]) (t := 172) ?hr ?_; (case hd => rfl); (case hg => rfl); (case hr => first | (go_simp; done) | (go_simp; rfl)); intro gb1 hg W1 hbox hb; replace HB := bH HB hb; clear hb; have BK1 := Aside0.mk hbox; have c_BK1 := blk_cell hbox; have z_BK1 := blk_frozen hbox; clear hg hbox) | ((with_reducible refine gate_dst (N := 3) rfl ?_); refine box_event ?hg (N := 3) ?hd (cs := #[.int .i64 a1_0, .int .i64 a1_1, .int .i64 a1_2, .slice A1_3 l1_3.length c1_3]) (t := 172) ?hr ?_; (case hd => rfl); (case hg => rfl); (case hr => first | (go_simp; done) | (go_simp; rfl)); intro gb2 hg W2 hbox hb; replace BK1 := bK BK1 hb; replace c_BK1 := blk_cell BK1.out; replace z_BK1 := blk_frozen BK1.out; replace HB := bH HB hb; clear hb; have BK2 := Aside0.mk hbox; have c_BK2 := blk_cell hbox; have z_BK2 := blk_frozen hbox; clear hg hbox))
  replace H := H.out
  by_cases c3 : a0_0 = a1_0
  · rw [if_pos c3] at H
    have c3_0 := decT c3; have c3_1 := eqT c3; have c3_2 := neT c3
    clear c3
    by_cases c4 : a0_1 = a1_1
    · rw [if_pos c4] at H
      have c4_0 := decT c4; have c4_1 := eqT c4; have c4_2 := neT c4
      clear c4
      by_cases c5 : a0_2 = a1_2
      · rw [if_pos c5] at H
        have c5_0 := decT c5; have c5_1 := eqT c5; have c5_2 := neT c5
        clear c5
        by_cases c6 : (l0_3.length : Int) = (l1_3.length : Int)
        · rw [if_pos c6] at H
          have c6_0 := decT c6; have c6_1 := eqT c6; have c6_2 := neT c6
          clear c6
          replace H := Aside0.mk H
          go_wp2
          go_loopg [5] k (fun kq v5 w' => ∃ (x5_7 : Int), v5 = .int .i64 x5_7 ∧ Aside0 (spec_EqualConds.l0 kq x5_7 a0_0 a0_1 a0_2 l0_3 a1_0 a1_1 a1_2 l1_3 = some r) ∧ Aside0 (kq ≤ k) ∧ Aside0 (w'.heap[gb1]? = some (.cells #[.int .i64 a0_0, .int .i64 a0_1, .int .i64 a0_2, .slice A0_3 l0_3.length c0_3] 172 (0, 0))) ∧ Aside0 (w'.heap[gb2]? = some (.cells #[.int .i64 a1_0, .int .i64 a1_1, .int .i64 a1_2, .slice A1_3 l1_3.length c1_3] 172 (0, 0))) ∧ Aside0 (Below w.heap.size w w'))
          case atStart => exact ⟨(0), (by first | rfl | (simp; done) | (simp [*]; done)), H, ⟨Nat.le_refl _⟩, BK1, BK2, HB⟩
          case round =>
            clear H HB BK1 c_BK1 z_BK1 BK2 c_BK2 z_BK2
            try clear c3_0 c3_1 c3_2 c4_0 c4_1 c4_2 c5_0 c5_1 c5_2 c6_0 c6_1 c6_2
            obtain ⟨x5_7, rfl, HA, Hk7, BK1, BK2, HB⟩ := hrel
            have c_BK1 := blk_cell BK1.out; have z_BK1 := blk_frozen BK1.out
            have c_BK2 := blk_cell BK2.out; have z_BK2 := blk_frozen BK2.out
            cases gk with
            | zero => exact absurd HA.out (by simp [spec_EqualConds.l0])
            | succ k7 =>
              have H := HA.out
              clear HA
              simp only [spec_EqualConds.l0] at H
              by_cases c8 : x5_7 < (l0_3.length : Int)
              · rw [if_pos c8] at H
                have c8_0 := decT c8
                replace c8 := Aside0.mk c8
                by_cases c9 : 0 ≤ x5_7
                · rw [if_pos c9] at H
                  have c9_0 := decT c9
                  replace c9 := Aside0.mk c9
                  have p292 : 0 ≤ (x5_7 : Int) := (of_decide_eq_true (by assumption))
                  have q292 : x5_7 < (l0_3.length : Int) := (of_decide_eq_true (by assumption))
                  obtain ⟨ad292, A292_3, c292_3, e292, hx292_0, hx292_1, hx292_2, hx292_3, hl292_3, hi292_3⟩ := at_T172 HR0_3.out x5_7 p292 q292
                  cases e292
                  have HR292_3 := Aside0.mk hi292_3; have HC292_3 := Aside0.mk hl292_3; clear hi292_3 hl292_3
                  replace hx292_0 := Aside0.mk hx292_0
                  replace hx292_1 := Aside0.mk hx292_1
                  replace hx292_2 := Aside0.mk hx292_2
                  replace hx292_3 := Aside0.mk hx292_3
                  have r292 := eq_true p292; have s292 := eq_true q292
                  replace p292 := Aside0.mk p292; replace q292 := Aside0.mk q292
                  by_cases c10 : x5_7 < (l1_3.length : Int)
                  · rw [if_pos c10] at H
                    have c10_0 := decT c10
                    replace c10 := Aside0.mk c10
                    have p293 : 0 ≤ (x5_7 : Int) := (of_decide_eq_true (by assumption))
                    have q293 : x5_7 < (l1_3.length : Int) := (of_decide_eq_true (by assumption))
                    obtain ⟨ad293, A293_3, c293_3, e293, hx293_0, hx293_1, hx293_2, hx293_3, hl293_3, hi293_3⟩ := at_T172 HR1_3.out x5_7 p293 q293
                    cases e293
                    have HR293_3 := Aside0.mk hi293_3; have HC293_3 := Aside0.mk hl293_3; clear hi293_3 hl293_3
                    replace hx293_0 := Aside0.mk hx293_0
                    replace hx293_1 := Aside0.mk hx293_1
                    replace hx293_2 := Aside0.mk hx293_2
                    replace hx293_3 := Aside0.mk hx293_3
                    have r293 := eq_true p293; have s293 := eq_true q293
                    replace p293 := Aside0.mk p293; replace q293 := Aside0.mk q293
                    obtain ⟨t294, hm, H⟩ := Option.bind_eq_some_iff.mp H
                    try dsimp only at H
                    have HM11 := Aside0.mk hm
                    clear hm
                    replace H := Aside0.mk H
                    try go_wp2
                    clear c_BK1 z_BK1; replace BK1 := dK BK1
                    clear c_BK2 z_BK2; replace BK2 := dK BK2
                    replace HB := dH HB
                    refine start_ (n := 12) (S := fun w' => w'.cell? ⟨gb1, 0, none⟩ = some (.int .i64 a0_0) ∧ w'.cell? ⟨gb1, 1, none⟩ = some (.int .i64 a0_1) ∧ w'.cell? ⟨gb1, 2, none⟩ = some (.int .i64 a0_2) ∧ w'.cell? ⟨gb1, 3, none⟩ = some (.slice (some ad292) l0_3.length c0_3) ∧ w'.cell? ⟨gb2, 0, none⟩ = some (.int .i64 a1_0) ∧ w'.cell? ⟨gb2, 1, none⟩ = some (.int .i64 a1_1) ∧ w'.cell? ⟨gb2, 2, none⟩ = some (.int .i64 a1_2) ∧ w'.cell? ⟨gb2, 3, none⟩ = some (.slice (some ad293) l1_3.length c1_3) ∧ w'.cell? (ad292.add ((x5_7).toNat * 4)) = some (.int .i64 ((rd_T172 l0_3 x5_7).f0)) ∧ w'.cell? ⟨(ad292.add ((x5_7).toNat * 4)).block, (ad292.add ((x5_7).toNat * 4)).off + 1, none⟩ = some (.int .i64 ((rd_T172 l0_3 x5_7).f1)) ∧ w'.cell? ⟨(ad292.add ((x5_7).toNat * 4)).block, (ad292.add ((x5_7).toNat * 4)).off + 2, none⟩ = some (.int .i64 ((rd_T172 l0_3 x5_7).f2)) ∧ w'.cell? ⟨(ad292.add ((x5_7).toNat * 4)).block, (ad292.add ((x5_7).toNat * 4)).off + 3, none⟩ = some (.slice A292_3 (rd_T172 l0_3 x5_7).f3.length c292_3) ∧ w'.cell? (ad293.add ((x5_7).toNat * 4)) = some (.int .i64 ((rd_T172 l1_3 x5_7).f0)) ∧ w'.cell? ⟨(ad293.add ((x5_7).toNat * 4)).block, (ad293.add ((x5_7).toNat * 4)).off + 1, none⟩ = some (.int .i64 ((rd_T172 l1_3 x5_7).f1)) ∧ w'.cell? ⟨(ad293.add ((x5_7).toNat * 4)).block, (ad293.add ((x5_7).toNat * 4)).off + 2, none⟩ = some (.int .i64 ((rd_T172 l1_3 x5_7).f2)) ∧ w'.cell? ⟨(ad293.add ((x5_7).toNat * 4)).block, (ad293.add ((x5_7).toNat * 4)).off + 3, none⟩ = some (.slice A293_3 (rd_T172 l1_3 x5_7).f3.length c293_3)) (ds := []) #[false, false, false, false, false, false, false, false, false, false, false, false] (by kernel_rfl) rfl rfl ⟨(blk_cell BK1.out 0).trans rfl, (blk_cell BK1.out 1).trans rfl, (blk_cell BK1.out 2).trans rfl, (blk_cell BK1.out 3).trans rfl, (blk_cell BK2.out 0).trans rfl, (blk_cell BK2.out 1).trans rfl, (blk_cell BK2.out 2).trans rfl, (blk_cell BK2.out 3).trans rfl, xC HB hx292_0, xC HB hx292_1, xC HB hx292_2, xC HB hx292_3, xC HB hx293_0, xC HB hx293_1, xC HB hx293_2, xC HB hx293_3⟩ (fun hHeld => ?_)
                    generalize wr.drew = W12 at HB BK1 BK2 hHeld ⊢
                    have c_BK1 := blk_cell BK1.out; have z_BK1 := blk_frozen BK1.out
                    have c_BK2 := blk_cell BK2.out; have z_BK2 := blk_frozen BK2.out
                    refine pure_ (i := 0) (N := some 41) (v := ?_) (a' := ?_) #[true, false, false, false, false, false, false, false, false, false, false, false] rfl rfl (by kernel_rfl) (fun _ _ _ h => h) (Or.inl ⟨by rfl, ?_⟩) ?_ ?_
                    rotate_left
                    · intro w'
                      go_simp
                      with_reducible rfl
                    rotate_left
                    · simp only [Act.put, List.setIfInBounds_toArray, List.set_cons_zero, List.set_cons_succ, i64_w, i32_w]
                      rfl
                    refine pure_ (i := 2) (N := some 43) (v := ?_) (a' := ?_) #[true, false, true, false, false, false, false, false, false, false, false, false] rfl rfl (by kernel_rfl) (fun _ _ _ h => h) (Or.inl ⟨by rfl, ?_⟩) ?_ ?_
                    rotate_left
                    · intro w'
                      go_simp
                      with_reducible rfl
                    rotate_left
                    · simp only [Act.put, List.setIfInBounds_toArray, List.set_cons_zero, List.set_cons_succ, i64_w, i32_w]
                      rfl
                    refine pure_ (i := 5) (N := some 46) (v := ?_) (a' := ?_) #[true, false, true, false, false, true, false, false, false, false, false, false] rfl rfl (by kernel_rfl) (fun _ _ _ h => h) (Or.inl ⟨by rfl, ?_⟩) ?_ ?_
                    rotate_left
                    · intro w'
                      go_simp
                      with_reducible rfl
                    rotate_left
                    · simp only [Act.put, List.setIfInBounds_toArray, List.set_cons_zero, List.set_cons_succ, i64_w, i32_w]
                      rfl
                    refine pure_ (i := 7) (N := some 48) (v := ?_) (a' := ?_) #[true, false, true, false, false, true, false, true, false, false, false, false] rfl rfl (by kernel_rfl) (fun _ _ _ h => h) (Or.inl ⟨by rfl, ?_⟩) ?_ ?_
                    rotate_left
                    · intro w'
                      go_simp
                      with_reducible rfl
                    rotate_left
                    · simp only [Act.put, List.setIfInBounds_toArray, List.set_cons_zero, List.set_cons_succ, i64_w, i32_w]
                      rfl
                    refine take_ (i := 1) (N := some 42) (v := ?_) (a' := ?_) #[true, true, true, false, false, true, false, true, false, false, false, false] rfl rfl (by kernel_rfl) (fun _ _ _ h => h) (Or.inl ⟨by rfl, ?_⟩) hHeld ?_ ?_
                    rotate_left
                    · rintro w' ⟨s0, s1, s2, s3, s4, s5, s6, s7, s8, s9, s10, s11, s12, s13, s14, s15⟩
                      go_simp
                      with_reducible rfl
                    rotate_left
                    · simp only [Act.put, List.setIfInBounds_toArray, List.set_cons_zero, List.set_cons_succ, i64_w, i32_w]
                      rfl
                    refine pure_ (i := 3) (N := some 44) (v := ?_) (a' := ?_) #[true, true, true, true, false, true, false, true, false, false, false, false] rfl rfl (by kernel_rfl) (fun _ _ _ h => h) (Or.inl ⟨by rfl, ?_⟩) ?_ ?_
                    rotate_left
                    · intro w'
                      go_simp
                      with_reducible rfl
                    rotate_left
                    · simp only [Act.put, List.setIfInBounds_toArray, List.set_cons_zero, List.set_cons_succ, i64_w, i32_w]
                      rfl
                    refine take_ (i := 4) (N := some 45) (v := ?_) (a' := ?_) #[true, true, true, true, true, true, false, true, false, false, false, false] rfl rfl (by kernel_rfl) (fun _ _ _ h => h) (Or.inl ⟨by rfl, ?_⟩) hHeld ?_ ?_
                    rotate_left
                    · rintro w' ⟨s0, s1, s2, s3, s4, s5, s6, s7, s8, s9, s10, s11, s12, s13, s14, s15⟩
                      go_simp
                      with_reducible rfl
                    rotate_left
                    · simp only [Act.put, List.setIfInBounds_toArray, List.set_cons_zero, List.set_cons_succ, i64_w, i32_w]
                      rfl
                    refine take_ (i := 6) (N := some 47) (v := ?_) (a' := ?_) #[true, true, true, true, true, true, true, true, false, false, false, false] rfl rfl (by kernel_rfl) (fun _ _ _ h => h) (Or.inl ⟨by rfl, ?_⟩) hHeld ?_ ?_
                    rotate_left
                    · rintro w' ⟨s0, s1, s2, s3, s4, s5, s6, s7, s8, s9, s10, s11, s12, s13, s14, s15⟩
                      go_simp
                      with_reducible rfl
                    rotate_left
                    · simp only [Act.put, List.setIfInBounds_toArray, List.set_cons_zero, List.set_cons_succ, i64_w, i32_w]
                      rfl
                    refine pure_ (i := 8) (N := some 49) (v := ?_) (a' := ?_) #[true, true, true, true, true, true, true, true, true, false, false, false] rfl rfl (by kernel_rfl) (fun _ _ _ h => h) (Or.inl ⟨by rfl, ?_⟩) ?_ ?_
                    rotate_left
                    · intro w'
                      go_simp
                      with_reducible rfl
                    rotate_left
                    · simp only [Act.put, List.setIfInBounds_toArray, List.set_cons_zero, List.set_cons_succ, i64_w, i32_w]
                      rfl
                    refine take_ (i := 9) (N := some 50) (v := ?_) (a' := ?_) #[true, true, true, true, true, true, true, true, true, true, false, false] rfl rfl (by kernel_rfl) (fun _ _ _ h => h) (Or.inl ⟨by rfl, ?_⟩) hHeld ?_ ?_
                    rotate_left
                    · rintro w' ⟨s0, s1, s2, s3, s4, s5, s6, s7, s8, s9, s10, s11, s12, s13, s14, s15⟩
                      go_simp
                      with_reducible rfl
                    rotate_left
                    · simp only [Act.put, List.setIfInBounds_toArray, List.set_cons_zero, List.set_cons_succ, i64_w, i32_w]
                      rfl
                    refine one_ (i := 10) (N := some 51) #[true, true, true, true, true, true, true, true, true, true, true, false] rfl rfl (by kernel_rfl) (by decide) (fun K hK => ?_)
                    have hcall := ih k7 (by have := Hk7.out; omega) _ _ _ _ _ _ _ _ _ _ _ _ _ W12 (Kd.C_below HR292_3.out HB.out) HC292_3.out (Kd.C_below HR293_3.out HB.out) HC293_3.out HM11.out
                    refine goes_ Try.func150 (by kernel_rfl) rfl #[.agg #[.int .i64 ((rd_T172 l0_3 x5_7).f0), .int .i64 ((rd_T172 l0_3 x5_7).f1), .int .i64 ((rd_T172 l0_3 x5_7).f2), .slice A292_3 ((rd_T172 l0_3 x5_7).f3).length c292_3], .agg #[.int .i64 ((rd_T172 l1_3 x5_7).f0), .int .i64 ((rd_T172 l1_3 x5_7).f1), .int .i64 ((rd_T172 l1_3 x5_7).f2), .slice A293_3 ((rd_T172 l1_3 x5_7).f3).length c293_3]] (by rfl) rfl rfl (by (try simp only [List.map_toArray, List.map_cons, List.map_nil]); first | done | rfl) ?_
                    refine hcall.mono ?_
                    rintro e W13 ⟨rfl, hb⟩
                    refine ⟨_, rfl, ?_⟩
                    clear hcall
                    replace BK1 := bK BK1 hb; replace c_BK1 := blk_cell BK1.out; replace z_BK1 := blk_frozen BK1.out
                    replace BK2 := bK BK2 hb; replace c_BK2 := blk_cell BK2.out; replace z_BK2 := blk_frozen BK2.out
                    replace HB := bH HB hb; clear hb
                    refine hK.out _ _ ⟨(blk_cell BK1.out 0).trans rfl, (blk_cell BK1.out 1).trans rfl, (blk_cell BK1.out 2).trans rfl, (blk_cell BK1.out 3).trans rfl, (blk_cell BK2.out 0).trans rfl, (blk_cell BK2.out 1).trans rfl, (blk_cell BK2.out 2).trans rfl, (blk_cell BK2.out 3).trans rfl, xC HB hx292_0, xC HB hx292_1, xC HB hx292_2, xC HB hx292_3, xC HB hx293_0, xC HB hx293_1, xC HB hx293_2, xC HB hx293_3⟩ (fun hHeld => ?_)
                    clear hK K
                    refine norm_ (a' := ?_) ?_ ?_
                    rotate_left
                    · show Act.put _ (some 51) _ = _
                      simp only [Act.put, List.setIfInBounds_toArray, List.set_cons_zero, List.set_cons_succ, i64_w, i32_w]
                      rfl
                    refine pure_ (i := 11) (N := some 52) (v := ?_) (a' := ?_) #[true, true, true, true, true, true, true, true, true, true, true, true] rfl rfl (by kernel_rfl) (fun _ _ _ h => h) (Or.inl ⟨by rfl, ?_⟩) ?_ ?_
                    rotate_left
                    · intro w'
                      go_simp
                      with_reducible rfl
                    rotate_left
                    · simp only [Act.put, List.setIfInBounds_toArray, List.set_cons_zero, List.set_cons_succ, i64_w, i32_w]
                      rfl
                    refine done_ (by kernel_rfl) ?_
                    clear hHeld
                    replace H := H.out
                    by_cases c14 : t294 = true
                    · rw [if_pos c14] at H
                      subst c14
                      replace H := Aside0.mk H
                      go_wp2
                      go_roundg k7
                      case measure => have := Hk7.out; omega
                      case rel => exact ⟨(wrap64 (x5_7 + 1)), (by first | rfl | (simp; done) | (simp [*]; done)), H, ⟨by have := Hk7.out; omega⟩, BK1, BK2, HB⟩
                    · rw [if_neg c14] at H
                      replace c14 := (Bool.not_eq_true _).mp c14
                      subst c14
                      obtain rfl := Option.some.inj H
                      clear H
                      go_wp2
                      go_ret
                      exact ⟨rfl, HB.out⟩
                  · rw [if_neg c10] at H
                    cases H
                · rw [if_neg c9] at H
                  cases H
              · rw [if_neg c8] at H
                have c8_0 := decF c8
                replace c8 := Aside0.mk c8
                obtain rfl := Option.some.inj H
                clear H
                go_wp2
                go_ret
                exact ⟨rfl, HB.out⟩
        · rw [if_neg c6] at H
          have c6_0 := decF c6; have c6_1 := eqF c6; have c6_2 := neF c6
          clear c6
          obtain rfl := Option.some.inj H
          clear H
          go_wp2
          go_ret
          exact ⟨rfl, HB.out⟩
      · rw [if_neg c5] at H
        have c5_0 := decF c5; have c5_1 := eqF c5; have c5_2 := neF c5
        clear c5
        obtain rfl := Option.some.inj H
        clear H
        go_wp2
        go_ret
        exact ⟨rfl, HB.out⟩
    · rw [if_neg c4] at H
      have c4_0 := decF c4; have c4_1 := eqF c4; have c4_2 := neF c4
      clear c4
      obtain rfl := Option.some.inj H
      clear H
      go_wp2
      go_ret
      exact ⟨rfl, HB.out⟩
  · rw [if_neg c3] at H
    have c3_0 := decF c3; have c3_1 := eqF c3; have c3_2 := neF c3
    clear c3
    obtain rfl := Option.some.inj H
    clear H
    go_wp2
    go_ret
    exact ⟨rfl, HB.out⟩

end Go.Proofs.Ytineejdlpcgnkaa.QFnExactEqualPoints
