/- The machine side of FnExactAddGrant: what each function that it reaches computes, and that the machine's call gives just that. -/
import Derived.Test.YtplfbjbbnjlnkaaQFnExactAddGrantx0
import Derived.Test.YtplfbjbbnjlnkaaQFnExactAddGrantx1
namespace Go.Proofs.Ytplfbjbbnjlnkaa.QFnExactAddGrant
open Go.RowKit Go.Proofs.YtplfbjbbnjlnkaaW.PrintWords Go.Proofs.YtplfbjbbnjlnkaaW.PrintLast Go.Proofs.YtplfbjbbnjlnkaaW.PrintMore
attribute [local go_sem] max2_int min2_int max_two min_two max_three min_three max_four min_four   -- for this text's walks alone
set_option linter.unusedVariables false
set_option linter.unusedSimpArgs false

/-! ### laws_eqGrant: function 37 -/
def laws_eqGrant.f (k : Nat) (a0_0 : Int) (a0_1 : Int) (a0_2 : Int) (l0_3 : List Int) (a0_4 : Int) (a0_5 : Int) (a0_6 : Bool) (a1_0 : Int) (a1_1 : Int) (a1_2 : Int) (l1_3 : List Int) (a1_4 : Int) (a1_5 : Int) (a1_6 : Bool) : Option (Bool) := if a0_0 = a1_0 then (if a0_1 = a1_1 then (if a0_2 = a1_2 then ((laws_eqIntS.f k l0_3 l1_3).bind fun t134 => (if t134 = true then (if a0_4 = a1_4 then (if a0_5 = a1_5 then (if (a0_6 != a1_6) = true then (some false) else (some true)) else (some false)) else (some false)) else (some false))) else (some false)) else (some false)) else (some false)
set_option maxHeartbeats 8000000 in
set_option maxRecDepth 100000 in
theorem laws_eqGrant.calls (k : Nat) (a0_0 : Int) (a0_1 : Int) (a0_2 : Int) (A0_3 : Option Addr) (c0_3 : Nat) (l0_3 : List Int) (a0_4 : Int) (a0_5 : Int) (a0_6 : Bool) (a1_0 : Int) (a1_1 : Int) (a1_2 : Int) (A1_3 : Option Addr) (c1_3 : Nat) (l1_3 : List Int) (a1_4 : Int) (a1_5 : Int) (a1_6 : Bool) (r : Bool) (w : World) (hr0_3 : Kd.C (Kd.int .i64) w A0_3 l0_3.length l0_3) (hc0_3 : l0_3.length ≤ c0_3) (hr1_3 : Kd.C (Kd.int .i64) w A1_3 l1_3.length l1_3) (hc1_3 : l1_3.length ≤ c1_3) (h : laws_eqGrant.f k a0_0 a0_1 a0_2 l0_3 a0_4 a0_5 a0_6 a1_0 a1_1 a1_2 l1_3 a1_4 a1_5 a1_6 = some r) :
    Calls Try.prog 37 #[.agg #[.int .i64 a0_0, .int .i64 a0_1, .int .i64 a0_2, .slice A0_3 l0_3.length c0_3, .int .i64 a0_4, .int .i64 a0_5, .bool a0_6], .agg #[.int .i64 a1_0, .int .i64 a1_1, .int .i64 a1_2, .slice A1_3 l1_3.length c1_3, .int .i64 a1_4, .int .i64 a1_5, .bool a1_6]] w fun e w' => e = .returned (.bool r) ∧ Below w.heap.size w w' := by
  have HR0_3 := Aside0.mk hr0_3
  have HC0_3 := Aside0.mk hc0_3
  clear hr0_3 hc0_3
  have HR1_3 := Aside0.mk hr1_3
  have HC1_3 := Aside0.mk hc1_3
  clear hr1_3 hc1_3
  have HB := Aside0.mk (Below.refl w.heap.size w)
  have H := h
  clear h
  unfold laws_eqGrant.f at H
  have hu51 := Try.underlying51
  go_enter Try.func37, Try.ntmps37
  by_cases c3 : a0_0 = a1_0
  · rw [if_pos c3] at H
    have c3_1 : (a0_0 == a1_0) = true := beq_iff_eq.mpr c3
    have c3_2 : (a0_0 != a1_0) = false := bne_eq_false_iff_eq.mpr c3
    have c3_0 : decide (a0_0 = a1_0) = true := decide_eq_true c3
    clear c3
    by_cases c4 : a0_1 = a1_1
    · rw [if_pos c4] at H
      have c4_1 : (a0_1 == a1_1) = true := beq_iff_eq.mpr c4
      have c4_2 : (a0_1 != a1_1) = false := bne_eq_false_iff_eq.mpr c4
      have c4_0 : decide (a0_1 = a1_1) = true := decide_eq_true c4
      clear c4
      by_cases c5 : a0_2 = a1_2
      · rw [if_pos c5] at H
        have c5_1 : (a0_2 == a1_2) = true := beq_iff_eq.mpr c5
        have c5_2 : (a0_2 != a1_2) = false := bne_eq_false_iff_eq.mpr c5
        have c5_0 : decide (a0_2 = a1_2) = true := decide_eq_true c5
        clear c5
        have H'' := Aside0.mk H
        clear H
        go_wp2_with (first | ((with_reducible refine gate_dst (N := 2) rfl ?_); refine box_event ?hg (N := 2) ?hd (cs := #[.int .i64 a0_0, .int .i64 a0_1, .int .i64 a0_2, .slice A0_3 l0_3.length c0_3, .int .i64 a0_4, .int .i64 a0_5, .bool a0_6]) (t := 51) ?hr ?_; (case hd => rfl); (case hg => rfl); (case hr => first | (go_simp; done) | (go_simp; rfl)); intro gb1 hg W1 hbox hb; have Z1 := Aside0.mk hb.size; have E1 := Aside0.mk (And.intro hg (blk_lt hbox)); have BK1 := Aside0.mk hbox; have c_BK1 := blk_cell hbox; have z_BK1 := blk_frozen hbox; have hB_ := below_step HB.out hb; clear HB hb hbox hg; have HB := Aside0.mk hB_; clear hB_) | ((with_reducible refine gate_dst (N := 3) rfl ?_); refine box_event ?hg (N := 3) ?hd (cs := #[.int .i64 a1_0, .int .i64 a1_1, .int .i64 a1_2, .slice A1_3 l1_3.length c1_3, .int .i64 a1_4, .int .i64 a1_5, .bool a1_6]) (t := 51) ?hr ?_; (case hd => rfl); (case hg => rfl); (case hr => first | (go_simp; done) | (go_simp; rfl)); intro gb2 hg W2 hbox hb; have Z2 := Aside0.mk hb.size; have E2 := Aside0.mk (And.intro hg (blk_lt hbox)); have h_ := blk_below BK1.out hb; clear BK1 c_BK1 z_BK1; have BK1 := Aside0.mk h_; have c_BK1 := blk_cell h_; have z_BK1 := blk_frozen h_; clear h_; have BK2 := Aside0.mk hbox; have c_BK2 := blk_cell hbox; have z_BK2 := blk_frozen hbox; have hB_ := below_step HB.out hb; clear HB hb hbox hg; have HB := Aside0.mk hB_; clear hB_))
        have H := H''.out
        clear H''
        replace H := Option.bind_eq_some_iff.mp H
        obtain ⟨t134, hm, H⟩ := H
        try dsimp only at H
        have H' := Aside0.mk H
        clear H
        have hcall := laws_eqIntS.calls k _ _ l0_3 _ _ l1_3 t134 W2 (Kd.C_below HR0_3.out HB.out) HC0_3.out (Kd.C_below HR1_3.out HB.out) HC1_3.out hm
        clear hm
        try go_wp2_with fail
        refine hcall.mono ?_
        rintro e W6 ⟨rfl, hd⟩
        clear hcall
        have hb : Below W2.heap.size W2 W6 := hd.below
        clear hd
        have Z6 := Aside0.mk hb.size
        have h_ := blk_below BK1.out hb
        clear BK1 c_BK1 z_BK1
        have BK1 := Aside0.mk h_
        have c_BK1 := blk_cell h_
        have z_BK1 := blk_frozen h_
        clear h_
        have h_ := blk_below BK2.out hb
        clear BK2 c_BK2 z_BK2
        have BK2 := Aside0.mk h_
        have c_BK2 := blk_cell h_
        have z_BK2 := blk_frozen h_
        clear h_
        have hB_ := below_step HB.out hb
        clear HB hb
        have HB := Aside0.mk hB_
        clear hB_
        have H := H'.out
        clear H'
        by_cases c7 : t134 = true
        · rw [if_pos c7] at H
          subst c7
          by_cases c8 : a0_4 = a1_4
          · rw [if_pos c8] at H
            have c8_1 : (a0_4 == a1_4) = true := beq_iff_eq.mpr c8
            have c8_2 : (a0_4 != a1_4) = false := bne_eq_false_iff_eq.mpr c8
            have c8_0 : decide (a0_4 = a1_4) = true := decide_eq_true c8
            clear c8
            by_cases c9 : a0_5 = a1_5
            · rw [if_pos c9] at H
              have c9_1 : (a0_5 == a1_5) = true := beq_iff_eq.mpr c9
              have c9_2 : (a0_5 != a1_5) = false := bne_eq_false_iff_eq.mpr c9
              have c9_0 : decide (a0_5 = a1_5) = true := decide_eq_true c9
              clear c9
              by_cases c10 : (a0_6 != a1_6) = true
              · rw [if_pos c10] at H
                have c10_1 : (a0_6 != a1_6) = true := by revert c10; cases a0_6 <;> cases a1_6 <;> decide
                have c10_2 : (!a0_6 == a1_6) = true := by revert c10; cases a0_6 <;> cases a1_6 <;> decide
                clear c10
                obtain rfl := Option.some.inj H
                clear H
                go_wp2
                go_ret
                exact ⟨rfl, HB.out⟩
              · rw [if_neg c10] at H
                have c10_1 : (a0_6 != a1_6) = false := by revert c10; cases a0_6 <;> cases a1_6 <;> decide
                have c10_2 : (!a0_6 == a1_6) = false := by revert c10; cases a0_6 <;> cases a1_6 <;> decide
                clear c10
                obtain rfl := Option.some.inj H
                clear H
                go_wp2
                go_ret
                exact ⟨rfl, HB.out⟩
            · rw [if_neg c9] at H
              have c9_1 : (a0_5 == a1_5) = false := beq_eq_false_iff_ne.mpr c9
              have c9_2 : (a0_5 != a1_5) = true := bne_iff_ne.mpr c9
              have c9_0 : decide (a0_5 = a1_5) = false := decide_eq_false c9
              clear c9
              obtain rfl := Option.some.inj H
              clear H
              go_wp2
              go_ret
              exact ⟨rfl, HB.out⟩
          · rw [if_neg c8] at H
            have c8_1 : (a0_4 == a1_4) = false := beq_eq_false_iff_ne.mpr c8
            have c8_2 : (a0_4 != a1_4) = true := bne_iff_ne.mpr c8
            have c8_0 : decide (a0_4 = a1_4) = false := decide_eq_false c8
            clear c8
            obtain rfl := Option.some.inj H
            clear H
            go_wp2
            go_ret
            exact ⟨rfl, HB.out⟩
        · rw [if_neg c7] at H
          replace c7 : t134 = false := by simpa using c7
          subst c7
          obtain rfl := Option.some.inj H
          clear H
          go_wp2
          go_ret
          exact ⟨rfl, HB.out⟩
      · rw [if_neg c5] at H
        have c5_1 : (a0_2 == a1_2) = false := beq_eq_false_iff_ne.mpr c5
        have c5_2 : (a0_2 != a1_2) = true := bne_iff_ne.mpr c5
        have c5_0 : decide (a0_2 = a1_2) = false := decide_eq_false c5
        clear c5
        have H'' := Aside0.mk H
        clear H
        go_wp2_with (first | ((with_reducible refine gate_dst (N := 2) rfl ?_); refine box_event ?hg (N := 2) ?hd (cs := #[.int .i64 a0_0, .int .i64 a0_1, .int .i64 a0_2, .slice A0_3 l0_3.length c0_3, .int .i64 a0_4, .int .i64 a0_5, .bool a0_6]) (t := 51) ?hr ?_; (case hd => rfl); (case hg => rfl); (case hr => first | (go_simp; done) | (go_simp; rfl)); intro gb1 hg W1 hbox hb; have Z1 := Aside0.mk hb.size; have E1 := Aside0.mk (And.intro hg (blk_lt hbox)); have BK1 := Aside0.mk hbox; have c_BK1 := blk_cell hbox; have z_BK1 := blk_frozen hbox; have hB_ := below_step HB.out hb; clear HB hb hbox hg; have HB := Aside0.mk hB_; clear hB_) | ((with_reducible refine gate_dst (N := 3) rfl ?_); refine box_event ?hg (N := 3) ?hd (cs := #[.int .i64 a1_0, .int .i64 a1_1, .int .i64 a1_2, .slice A1_3 l1_3.length c1_3, .int .i64 a1_4, .int .i64 a1_5, .bool a1_6]) (t := 51) ?hr ?_; (case hd => rfl); (case hg => rfl); (case hr => first | (go_simp; done) | (go_simp; rfl)); intro gb2 hg W2 hbox hb; have Z2 := Aside0.mk hb.size; have E2 := Aside0.mk (And.intro hg (blk_lt hbox)); have h_ := blk_below BK1.out hb; clear BK1 c_BK1 z_BK1; have BK1 := Aside0.mk h_; have c_BK1 := blk_cell h_; have z_BK1 := blk_frozen h_; clear h_; have BK2 := Aside0.mk hbox; have c_BK2 := blk_cell hbox; have z_BK2 := blk_frozen hbox; have hB_ := below_step HB.out hb; clear HB hb hbox hg; have HB := Aside0.mk hB_; clear hB_))
        have H := H''.out
        clear H''
        obtain rfl := Option.some.inj H
        clear H
        try go_wp2
        go_ret
        exact ⟨rfl, HB.out⟩
    · rw [if_neg c4] at H
      have c4_1 : (a0_1 == a1_1) = false := beq_eq_false_iff_ne.mpr c4
      have c4_2 : (a0_1 != a1_1) = true := bne_iff_ne.mpr c4
      have c4_0 : decide (a0_1 = a1_1) = false := decide_eq_false c4
      clear c4
      have H'' := Aside0.mk H
      clear H
      go_wp2_with (first | ((with_reducible refine gate_dst (N := 2) rfl ?_); refine box_event ?hg (N := 2) ?hd (cs := #[.int .i64 a0_0, .int .i64 a0_1, .int .i64 a0_2, .slice A0_3 l0_3.length c0_3, .int .i64 a0_4, .int .i64 a0_5, .bool a0_6]) (t := 51) ?hr ?_; (case hd => rfl); (case hg => rfl); (case hr => first | (go_simp; done) | (go_simp; rfl)); intro gb1 hg W1 hbox hb; have Z1 := Aside0.mk hb.size; have E1 := Aside0.mk (And.intro hg (blk_lt hbox)); have BK1 := Aside0.mk hbox; have c_BK1 := blk_cell hbox; have z_BK1 := blk_frozen hbox; have hB_ := below_step HB.out hb; clear HB hb hbox hg; have HB := Aside0.mk hB_; clear hB_) | ((with_reducible refine gate_dst (N := 3) rfl ?_); refine box_event ?hg (N := 3) ?hd (cs := #[.int .i64 a1_0, .int .i64 a1_1, .int .i64 a1_2, .slice A1_3 l1_3.length c1_3, .int .i64 a1_4, .int .i64 a1_5, .bool a1_6]) (t := 51) ?hr ?_; (case hd => rfl); (case hg => rfl); (case hr => first | (go_simp; done) | (go_simp; rfl)); intro gb2 hg W2 hbox hb; have Z2 := Aside0.mk hb.size; have E2 := Aside0.mk (And.intro hg (blk_lt hbox)); have h_ := blk_below BK1.out hb; clear BK1 c_BK1 z_BK1; have BK1 := Aside0.mk h_; have c_BK1 := blk_cell h_; have z_BK1 := blk_frozen h_; clear h_; have BK2 := Aside0.mk hbox; have c_BK2 := blk_cell hbox; have z_BK2 := blk_frozen hbox; have hB_ := below_step HB.out hb; clear HB hb hbox hg; have HB := Aside0.mk hB_; clear hB_))
      have H := H''.out
      clear H''
      obtain rfl := Option.some.inj H
      clear H
      try go_wp2
      go_ret
      exact ⟨rfl, HB.out⟩
  · rw [if_neg c3] at H
    have c3_1 : (a0_0 == a1_0) = false := beq_eq_false_iff_ne.mpr c3
    have c3_2 : (a0_0 != a1_0) = true := bne_iff_ne.mpr c3
    have c3_0 : decide (a0_0 = a1_0) = false := decide_eq_false c3
    clear c3
    have H'' := Aside0.mk H
    clear H
    go_wp2_with (first | ((with_reducible refine gate_dst (N := 2) rfl ?_); refine box_event ?hg (N := 2) ?hd (cs := #[.int .i64 a0_0, .int .i64 a0_1, .int .i64 a0_2, .slice A0_3 l0_3.length c0_3, .int .i64 a0_4, .int .i64 a0_5, .bool a0_6]) (t := 51) ?hr ?_; (case hd => rfl); (case hg => rfl); (case hr => first | (go_simp; done) | (go_simp; rfl)); intro gb1 hg W1 hbox hb; have Z1 := Aside0.mk hb.size; have E1 := Aside0.mk (And.intro hg (blk_lt hbox)); have BK1 := Aside0.mk hbox; have c_BK1 := blk_cell hbox; have z_BK1 := blk_frozen hbox; have hB_ := below_step HB.out hb; clear HB hb hbox hg; have HB := Aside0.mk hB_; clear hB_) | ((with_reducible refine gate_dst (N := 3) rfl ?_); refine box_event ?hg (N := 3) ?hd (cs := #[.int .i64 a1_0, .int .i64 a1_1, .int .i64 a1_2, .slice A1_3 l1_3.length c1_3, .int .i64 a1_4, .int .i64 a1_5, .bool a1_6]) (t := 51) ?hr ?_; (case hd => rfl); (case hg => rfl); (case hr => first | (go_simp; done) | (go_simp; rfl)); intro gb2 hg W2 hbox hb; have Z2 := Aside0.mk hb.size; have E2 := Aside0.mk (And.intro hg (blk_lt hbox)); have h_ := blk_below BK1.out hb; clear BK1 c_BK1 z_BK1; have BK1 := Aside0.mk h_; have c_BK1 := blk_cell h_; have z_BK1 := blk_frozen h_; clear h_; have BK2 := Aside0.mk hbox; have c_BK2 := blk_cell hbox; have z_BK2 := blk_frozen hbox; have hB_ := below_step HB.out hb; clear HB hb hbox hg; have HB := Aside0.mk hB_; clear hB_))
    have H := H''.out
    clear H''
    obtain rfl := Option.some.inj H
    clear H
    try go_wp2
    go_ret
    exact ⟨rfl, HB.out⟩

/-! ### laws_eqGrantS: function 30 -/
def laws_eqGrantS.l0 : Nat → List S51 → List S51 → Int → Option Bool
  | 0, _, _, _ => none
  | k + 1, l, m, i => if i < (l.length : Int) then (if 0 ≤ i then (if i < (m.length : Int) then (laws_eqGrant.f k (rd_T51 l i).f0 (rd_T51 l i).f1 (rd_T51 l i).f2 (rd_T51 l i).f3 (rd_T51 l i).f4 (rd_T51 l i).f5 (rd_T51 l i).f6 (rd_T51 m i).f0 (rd_T51 m i).f1 (rd_T51 m i).f2 (rd_T51 m i).f3 (rd_T51 m i).f4 (rd_T51 m i).f5 (rd_T51 m i).f6).bind fun t => (if t = true then laws_eqGrantS.l0 k l m (wrap64 (i + 1)) else some false) else none) else none) else some true
def laws_eqGrantS.f (k : Nat) (l0 : List S51) (l1 : List S51) : Option Bool := if (l0.length : Int) = (l1.length : Int) then laws_eqGrantS.l0 k l0 l1 0 else some false
set_option maxHeartbeats 8000000 in
set_option maxRecDepth 100000 in
theorem laws_eqGrantS.calls (k : Nat) (A0 : Option Addr) (c0 : Nat) (l0 : List S51) (A1 : Option Addr) (c1 : Nat) (l1 : List S51) (r : Bool) (w : World) (hr0 : Kd.C k51 w A0 l0.length l0) (hc0 : l0.length ≤ c0) (hr1 : Kd.C k51 w A1 l1.length l1) (hc1 : l1.length ≤ c1) (h : laws_eqGrantS.f k l0 l1 = some r) :
    Calls Try.prog 30 #[.slice A0 l0.length c0, .slice A1 l1.length c1] w fun e w' => e = .returned (.bool r) ∧ Below w.heap.size w w' := by
  have HR0 := Aside0.mk hr0
  have HR1 := Aside0.mk hr1
  unfold laws_eqGrantS.f at h
  have hu51 := Try.underlying51
  by_cases hl : (l0.length : Int) = (l1.length : Int)
  case neg =>
    rw [if_neg hl] at h
    obtain rfl := Option.some.inj h
    have c1b : ((l0.length : Int) == (l1.length : Int)) = false := beq_eq_false_iff_ne.mpr hl
    have c2b : ((l0.length : Int) != (l1.length : Int)) = true := bne_iff_ne.mpr hl
    clear hr0 hc0 hr1 hc1 h hl
    go_enter Try.func30, Try.ntmps30
    go_wp2
    go_ret
    exact ⟨rfl, Below.refl _ _⟩
  rw [if_pos hl] at h
  have c1b : ((l0.length : Int) == (l1.length : Int)) = true := beq_iff_eq.mpr hl
  have c2b : ((l0.length : Int) != (l1.length : Int)) = false := bne_eq_false_iff_eq.mpr hl
  have H' := Aside0.mk h
  clear hr0 hc0 hr1 hc1 h hl
  go_enter Try.func30, Try.ntmps30
  go_wp2
  go_loopg [5] k (fun kq v5 w' => ∃ i : Int, v5 = .int .i64 i ∧ Aside0 (laws_eqGrantS.l0 kq l0 l1 i = some r) ∧ Aside0 (Below w.heap.size w w'))
  case atStart => exact ⟨0, rfl, H', ⟨Below.refl _ _⟩⟩
  case round =>
    clear H' c1b c2b
    obtain ⟨i, rfl, HA, HB⟩ := hrel
    cases gk with
    | zero => exact absurd HA.out (by simp [laws_eqGrantS.l0])
    | succ k1 =>
      have H := HA.out
      clear HA
      simp only [laws_eqGrantS.l0] at H
      by_cases q1 : i < (l0.length : Int)
      case neg =>
        rw [if_neg q1] at H
        obtain rfl := Option.some.inj H
        have c3 : decide (i < (l0.length : Int)) = false := decide_eq_false q1
        clear q1 H
        go_wp2
        go_ret
        exact ⟨rfl, HB.out⟩
      rw [if_pos q1] at H
      by_cases p1 : 0 ≤ i
      case neg => rw [if_neg p1] at H; exact absurd H (by simp)
      rw [if_pos p1] at H
      by_cases q2 : i < (l1.length : Int)
      case neg => rw [if_neg q2] at H; exact absurd H (by simp)
      rw [if_pos q2] at H
      replace H := Option.bind_eq_some_iff.mp H
      obtain ⟨t, ht, H⟩ := H
      have c3 : decide (i < (l0.length : Int)) = true := decide_eq_true q1
      obtain ⟨ada, E3, d3, ea, ha0, ha1, ha2, ha3, ha4, ha5, ha6, la3, ga3⟩ := at_T51 (Kd.C_below HR0.out HB.out) i p1 q1
      obtain ⟨adb, G3, h3, eb, hb0, hb1, hb2, hb3, hb4, hb5, hb6, lb3, gb3⟩ := at_T51 (Kd.C_below HR1.out HB.out) i p1 q2
      cases ea
      cases eb
      have ht_ := ht
      have H' := Aside0.mk H
      replace p1 := eq_true p1
      replace q1 := eq_true q1
      replace q2 := eq_true q2
      clear H ht
      go_wp2
      have HT := Aside0.mk ht_
      have la3 := Aside0.mk la3; have ga3 := Aside0.mk (Kd.C_below ga3 (below_drew1 (Below.refl wr.heap.size wr)))
      have lb3 := Aside0.mk lb3; have gb3 := Aside0.mk (Kd.C_below gb3 (below_drew1 (Below.refl wr.heap.size wr)))
      have hB_ := below_drew1 HB.out
      clear HB
      have HB := Aside0.mk hB_
      clear hB_
      refine start_ (n := 10) (S := fun w' => w'.cell? (ada.add (i.toNat * 7)) = some (.int .i64 ((rd_T51 l0 i).f0)) ∧ w'.cell? ⟨(ada.add (i.toNat * 7)).block, (ada.add (i.toNat * 7)).off + 1, none⟩ = some (.int .i64 ((rd_T51 l0 i).f1)) ∧ w'.cell? ⟨(ada.add (i.toNat * 7)).block, (ada.add (i.toNat * 7)).off + 2, none⟩ = some (.int .i64 ((rd_T51 l0 i).f2)) ∧ w'.cell? ⟨(ada.add (i.toNat * 7)).block, (ada.add (i.toNat * 7)).off + 3, none⟩ = some (.slice E3 (rd_T51 l0 i).f3.length d3) ∧ w'.cell? ⟨(ada.add (i.toNat * 7)).block, (ada.add (i.toNat * 7)).off + 4, none⟩ = some (.int .i64 ((rd_T51 l0 i).f4)) ∧ w'.cell? ⟨(ada.add (i.toNat * 7)).block, (ada.add (i.toNat * 7)).off + 5, none⟩ = some (.int .i64 ((rd_T51 l0 i).f5)) ∧ w'.cell? ⟨(ada.add (i.toNat * 7)).block, (ada.add (i.toNat * 7)).off + 6, none⟩ = some (.bool ((rd_T51 l0 i).f6)) ∧ w'.cell? (adb.add (i.toNat * 7)) = some (.int .i64 ((rd_T51 l1 i).f0)) ∧ w'.cell? ⟨(adb.add (i.toNat * 7)).block, (adb.add (i.toNat * 7)).off + 1, none⟩ = some (.int .i64 ((rd_T51 l1 i).f1)) ∧ w'.cell? ⟨(adb.add (i.toNat * 7)).block, (adb.add (i.toNat * 7)).off + 2, none⟩ = some (.int .i64 ((rd_T51 l1 i).f2)) ∧ w'.cell? ⟨(adb.add (i.toNat * 7)).block, (adb.add (i.toNat * 7)).off + 3, none⟩ = some (.slice G3 (rd_T51 l1 i).f3.length h3) ∧ w'.cell? ⟨(adb.add (i.toNat * 7)).block, (adb.add (i.toNat * 7)).off + 4, none⟩ = some (.int .i64 ((rd_T51 l1 i).f4)) ∧ w'.cell? ⟨(adb.add (i.toNat * 7)).block, (adb.add (i.toNat * 7)).off + 5, none⟩ = some (.int .i64 ((rd_T51 l1 i).f5)) ∧ w'.cell? ⟨(adb.add (i.toNat * 7)).block, (adb.add (i.toNat * 7)).off + 6, none⟩ = some (.bool ((rd_T51 l1 i).f6))) (ds := []) #[false, false, false, false, false, false, false, false, false, false] (by kernel_rfl) rfl rfl ⟨ha0, ha1, ha2, ha3, ha4, ha5, ha6, hb0, hb1, hb2, hb3, hb4, hb5, hb6⟩ (fun hHeld => ?_)
      clear ha0 ha1 ha2 ha3 ha4 ha5 ha6 hb0 hb1 hb2 hb3 hb4 hb5 hb6
      generalize wr.drew = wd at HB ga3 gb3 hHeld ⊢
      refine pure_ (i := 0) (N := some 17) (v := ?_) (a' := ?_) #[true, false, false, false, false, false, false, false, false, false] rfl rfl (by kernel_rfl) (fun _ _ _ h => h) (Or.inl ⟨by rfl, ?_⟩) ?_ ?_
      rotate_left
      · intro w'
        go_simp
        with_reducible rfl
      rotate_left
      · simp only [Act.put, List.setIfInBounds_toArray, List.set_cons_zero, List.set_cons_succ, i64_w, i32_w]
        rfl
      refine pure_ (i := 1) (N := some 18) (v := ?_) (a' := ?_) #[true, true, false, false, false, false, false, false, false, false] rfl rfl (by kernel_rfl) (fun _ _ _ h => h) (Or.inl ⟨by rfl, ?_⟩) ?_ ?_
      rotate_left
      · intro w'
        go_simp
        with_reducible rfl
      rotate_left
      · simp only [Act.put, List.setIfInBounds_toArray, List.set_cons_zero, List.set_cons_succ, i64_w, i32_w]
        rfl
      refine pure_ (i := 2) (N := some 19) (v := ?_) (a' := ?_) #[true, true, true, false, false, false, false, false, false, false] rfl rfl (by kernel_rfl) (fun _ _ _ h => h) (Or.inl ⟨by rfl, ?_⟩) ?_ ?_
      rotate_left
      · intro w'
        go_simp
        with_reducible rfl
      rotate_left
      · simp only [Act.put, List.setIfInBounds_toArray, List.set_cons_zero, List.set_cons_succ, i64_w, i32_w]
        rfl
      refine pure_ (i := 4) (N := some 21) (v := ?_) (a' := ?_) #[true, true, true, false, true, false, false, false, false, false] rfl rfl (by kernel_rfl) (fun _ _ _ h => h) (Or.inl ⟨by rfl, ?_⟩) ?_ ?_
      rotate_left
      · intro w'
        go_simp
        with_reducible rfl
      rotate_left
      · simp only [Act.put, List.setIfInBounds_toArray, List.set_cons_zero, List.set_cons_succ, i64_w, i32_w]
        rfl
      refine pure_ (i := 5) (N := some 22) (v := ?_) (a' := ?_) #[true, true, true, false, true, true, false, false, false, false] rfl rfl (by kernel_rfl) (fun _ _ _ h => h) (Or.inl ⟨by rfl, ?_⟩) ?_ ?_
      rotate_left
      · intro w'
        go_simp
        with_reducible rfl
      rotate_left
      · simp only [Act.put, List.setIfInBounds_toArray, List.set_cons_zero, List.set_cons_succ, i64_w, i32_w]
        rfl
      refine pure_ (i := 6) (N := some 23) (v := ?_) (a' := ?_) #[true, true, true, false, true, true, true, false, false, false] rfl rfl (by kernel_rfl) (fun _ _ _ h => h) (Or.inl ⟨by rfl, ?_⟩) ?_ ?_
      rotate_left
      · intro w'
        go_simp
        with_reducible rfl
      rotate_left
      · simp only [Act.put, List.setIfInBounds_toArray, List.set_cons_zero, List.set_cons_succ, i64_w, i32_w]
        rfl
      refine take_ (i := 3) (N := some 20) (v := ?_) (a' := ?_) #[true, true, true, true, true, true, true, false, false, false] rfl rfl (by kernel_rfl) (fun _ _ _ h => h) (Or.inl ⟨by rfl, ?_⟩) hHeld ?_ ?_
      rotate_left
      · rintro w' ⟨s0, s1, s2, s3, s4, s5, s6, s7, s8, s9, s10, s11, s12, s13⟩
        go_simp
        with_reducible rfl
      rotate_left
      · simp only [Act.put, List.setIfInBounds_toArray, List.set_cons_zero, List.set_cons_succ, i64_w, i32_w]
        rfl
      refine take_ (i := 7) (N := some 24) (v := ?_) (a' := ?_) #[true, true, true, true, true, true, true, true, false, false] rfl rfl (by kernel_rfl) (fun _ _ _ h => h) (Or.inl ⟨by rfl, ?_⟩) hHeld ?_ ?_
      rotate_left
      · rintro w' ⟨s0, s1, s2, s3, s4, s5, s6, s7, s8, s9, s10, s11, s12, s13⟩
        go_simp
        with_reducible rfl
      rotate_left
      · simp only [Act.put, List.setIfInBounds_toArray, List.set_cons_zero, List.set_cons_succ, i64_w, i32_w]
        rfl
      refine one_ (i := 8) (N := some 25) #[true, true, true, true, true, true, true, true, true, false] rfl rfl (by kernel_rfl) (by decide) (fun K hK => ?_)
      have hcall := laws_eqGrant.calls k1 (rd_T51 l0 i).f0 (rd_T51 l0 i).f1 (rd_T51 l0 i).f2 _ _ (rd_T51 l0 i).f3 (rd_T51 l0 i).f4 (rd_T51 l0 i).f5 (rd_T51 l0 i).f6 (rd_T51 l1 i).f0 (rd_T51 l1 i).f1 (rd_T51 l1 i).f2 _ _ (rd_T51 l1 i).f3 (rd_T51 l1 i).f4 (rd_T51 l1 i).f5 (rd_T51 l1 i).f6 t wd ga3.out la3.out gb3.out lb3.out HT.out
      refine goes_ Try.func37 (by kernel_rfl) rfl #[.agg #[.int .i64 ((rd_T51 l0 i).f0), .int .i64 ((rd_T51 l0 i).f1), .int .i64 ((rd_T51 l0 i).f2), .slice E3 (rd_T51 l0 i).f3.length d3, .int .i64 ((rd_T51 l0 i).f4), .int .i64 ((rd_T51 l0 i).f5), .bool ((rd_T51 l0 i).f6)], .agg #[.int .i64 ((rd_T51 l1 i).f0), .int .i64 ((rd_T51 l1 i).f1), .int .i64 ((rd_T51 l1 i).f2), .slice G3 (rd_T51 l1 i).f3.length h3, .int .i64 ((rd_T51 l1 i).f4), .int .i64 ((rd_T51 l1 i).f5), .bool ((rd_T51 l1 i).f6)]] (by rfl) rfl rfl (by (try simp only [List.map_toArray, List.map_cons, List.map_nil]); first | done | rfl) ?_
      refine hcall.mono ?_
      rintro e w2 ⟨rfl, hd⟩
      refine ⟨_, rfl, ?_⟩
      clear hcall
      have HB2 := Aside0.mk (below_step HB.out hd)
      have hd2 := hd
      clear hd
      refine hK.out _ _ ⟨pw_cell_below hd2 (hHeld.1), pw_cell_below hd2 (hHeld.2.1), pw_cell_below hd2 (hHeld.2.2.1), pw_cell_below hd2 (hHeld.2.2.2.1), pw_cell_below hd2 (hHeld.2.2.2.2.1), pw_cell_below hd2 (hHeld.2.2.2.2.2.1), pw_cell_below hd2 (hHeld.2.2.2.2.2.2.1), pw_cell_below hd2 (hHeld.2.2.2.2.2.2.2.1), pw_cell_below hd2 (hHeld.2.2.2.2.2.2.2.2.1), pw_cell_below hd2 (hHeld.2.2.2.2.2.2.2.2.2.1), pw_cell_below hd2 (hHeld.2.2.2.2.2.2.2.2.2.2.1), pw_cell_below hd2 (hHeld.2.2.2.2.2.2.2.2.2.2.2.1), pw_cell_below hd2 (hHeld.2.2.2.2.2.2.2.2.2.2.2.2.1), pw_cell_below hd2 (hHeld.2.2.2.2.2.2.2.2.2.2.2.2.2)⟩ (fun hHeld => ?_)
      clear hK K
      refine norm_ (a' := ?_) ?_ ?_
      rotate_left
      · show Act.put _ (some 25) _ = _
        simp only [Act.put, List.setIfInBounds_toArray, List.set_cons_zero, List.set_cons_succ, i64_w, i32_w]
        rfl
      refine pure_ (i := 9) (N := some 26) (v := ?_) (a' := ?_) #[true, true, true, true, true, true, true, true, true, true] rfl rfl (by kernel_rfl) (fun _ _ _ h => h) (Or.inl ⟨by rfl, ?_⟩) ?_ ?_
      rotate_left
      · intro w'
        go_simp
        with_reducible rfl
      rotate_left
      · simp only [Act.put, List.setIfInBounds_toArray, List.set_cons_zero, List.set_cons_succ, i64_w, i32_w]
        rfl
      refine done_ (by kernel_rfl) ?_
      clear hHeld hd2
      have H := H'.out
      clear H'
      cases t with
      | false =>
        rw [if_neg (by simp)] at H
        obtain rfl := Option.some.inj H
        clear H
        go_wp2
        go_ret
        exact ⟨rfl, HB2.out⟩
      | true =>
        rw [if_pos rfl] at H
        have H' := Aside0.mk H
        clear H
        go_wp2
        go_roundg k1
        case measure => omega
        case rel => exact ⟨_, rfl, H', HB2⟩

/-! ### laws_markIntS: function 80 -/
def laws_markIntS.l0 : Nat → List Int → Int → Int → Option (Int × List Int)
  | 0, _, _, _ => none
  | k + 1, x0, x1, x5 => if x5 < (x0.length : Int) then (if 0 ≤ x5 then (laws_markIntS.l0 k (x0.set (x5 : Int).toNat x1) (wrap64 (x1 + 1)) (wrap64 (x5 + 1))) else (none)) else (some (x1, x0))
def laws_markIntS.f (k : Nat) (l0 : List Int) (a1 : Int) : Option (Int × List Int) := laws_markIntS.l0 k l0 a1 0
set_option maxHeartbeats 8000000 in
set_option maxRecDepth 100000 in
theorem laws_markIntS.calls (k : Nat) (P0_ : Nat → Prop) (u9000_ : Value) (l0 : List Int) (a1 : Int) (r1 : Int) (r2 : List Int) (w0 w : World) (hB : Below w0.heap.size w0 w) (ho0 : Kd.R (Kd.int .i64) 3 w w0.heap.size P0_ u9000_ l0) (h : laws_markIntS.f k l0 a1 = some (r1, r2)) :
    Calls Try.prog 80 #[u9000_, .int .i64 a1] w fun e w' => e = .returned (.int .i64 r1) ∧ Kd.R (Kd.int .i64) 3 w' w0.heap.size (fun k_ => (P0_ k_ ∨ w.heap.size ≤ k_)) u9000_ r2 ∧ Below w0.heap.size w0 w' ∧ Kept w w' (fun k_ => P0_ k_) := by
  have HO0 := Aside0.mk (show Kd.R (Kd.int .i64) 3 w w0.heap.size (fun k_ => (P0_ k_ ∨ w.heap.size ≤ k_)) u9000_ l0 from Kd.R_mono ho0 (fun k_ hk => (.inl hk)))
  have HK := Aside0.mk (Kept.refl w (fun k_ => P0_ k_))
  have HW0 := Aside0.mk hB.size
  have HB := Aside0.mk hB
  clear hB
  have H : (laws_markIntS.l0 k l0 a1 0) = some (r1, r2) := h
  clear h
  have H' := Aside0.mk H
  clear H
  go_enter Try.func80, Try.ntmps80
  go_wp2
  go_loopg [1, 5] k (fun kq v1 v5 w' => ∃ (x0_1 : List Int) (x1_1 : Int) (x5_1 : Int), v1 = .int .i64 x1_1 ∧ v5 = .int .i64 x5_1 ∧ Aside0 (laws_markIntS.l0 kq x0_1 x1_1 x5_1 = some (r1, r2)) ∧ Aside0 (kq ≤ k) ∧ Aside0 (Kd.R (Kd.int .i64) 3 w' w0.heap.size (fun k_ => (P0_ k_ ∨ w.heap.size ≤ k_)) u9000_ x0_1) ∧ Aside0 (Kept w w' (fun k_ => P0_ k_)) ∧ Aside0 (Below w0.heap.size w0 w'))
  case atStart => exact ⟨(l0), (a1), (0), (by first | rfl | (simp; done) | (simp [*]; done)), (by first | rfl | (simp; done) | (simp [*]; done)), H', ⟨Nat.le_refl _⟩, ⟨by (with_reducible repeat (first | apply Kd.R_alloc | apply Kd.R_drewN | apply Kd.R_drew)); exact HO0.out⟩, ⟨by repeat (first | (with_reducible first | exact HK.out | apply Kept.alloc | apply Kept.drewN | apply Kept.drew) | exact HK.out)⟩, ⟨by repeat (first | (with_reducible first | exact HB.out | apply below_alloc | apply pw_below_drewN | apply below_drew1) | exact HB.out)⟩⟩
  case round =>
    clear H'
    try clear p2
    obtain ⟨x0_1, x1_1, x5_1, rfl, rfl, HA, HK1, HO_0, HK, HB⟩ := hrel
    cases gk with
    | zero => exact absurd HA.out (by simp [laws_markIntS.l0])
    | succ k1 =>
      have H := HA.out
      clear HA
      simp only [laws_markIntS.l0] at H
      by_cases c3 : x5_1 < (x0_1.length : Int)
      · rw [if_pos c3] at H
        have c3b0 : decide (x5_1 < (x0_1.length : Int)) = true := decide_eq_true c3
        clear c3
        by_cases c4 : 0 ≤ x5_1
        · rw [if_pos c4] at H
          have c4b0 : decide (0 ≤ x5_1) = true := decide_eq_true c4
          clear c4
          obtain ⟨y135, hy135⟩ : ∃ y_ : List Int, y_ = (x0_1.set (x5_1 : Int).toNat x1_1) := ⟨_, rfl⟩
          replace H : (laws_markIntS.l0 k1 y135 (wrap64 (x1_1 + 1)) (wrap64 (x5_1 + 1))) = some (r1, r2) := by first | (rw [hy135]; with_reducible exact H) | (have H2_ := (Option.bind_some _ _).symm.trans H; rw [hy135]; with_reducible exact H2_) | (have H2_ := (Option.bind_some _ _).symm.trans H; with_reducible exact H2_) | with_reducible exact H | (rw [hy135]; exact H) | exact H
          have Ny135 := Aside0.mk hy135
          clear hy135
          have H' := Aside0.mk H
          clear H
          obtain ⟨Ao6, co6, eo6⟩ := Kd.R_slice HO_0.out
          subst eo6
          have p5 : 0 ≤ (x5_1 : Int) := of_decide_eq_true (by first | (with_reducible assumption) | assumption)
          have q5 : (x5_1 : Int) < ((x0_1.length : Int) : Int) := of_decide_eq_true (by first | (with_reducible assumption) | assumption)
          obtain ⟨go5, co5, eo5, gb5, gl5, cl5, HG5⟩ := Kd.R_form HO_0.out (by omega)
          (first | cases eo5 | (injection eo5 with ea_ en_ ec_; (first | subst ea_ | (injection ea_ with ea_; subst ea_)); subst ec_; clear en_))
          have GB5 := Aside0.mk gb5
          have GG5 := Aside0.mk HG5
          clear gb5 gl5 HG5
          have HMgo5 := Aside0.mk (show (P0_ go5 ∨ w.heap.size ≤ go5) from (HO_0.out.1 _ rfl))
          obtain ⟨hx5_0, hf5_0⟩ := Kd.R_celln 0 HO_0.out (x5_1 : Int) p5 q5
          replace p5 := eq_true p5
          replace q5 := eq_true q5
          have HP7 := Kd.R_putg HO_0.out (x5_1 : Int) x1_1
          go_wp2_with (first | ((with_reducible refine gate_store (t := 3) (p := 15) rfl ?_); refine store_event (t := 3) (p := 15) (v := ?vo_w8) (w1 := (wr.setCell ⟨go5, (x5_1 : Int).toNat, none⟩ (.int .i64 x1_1))) ?hg ?ho ?hn ?hr ?_; (case ho => rfl); (case hg => rfl); (case hn => rfl); (case hr => first | (go_simp; done) | (go_simp; rfl)); intro w8 hw; have hg : wr.grownBy w8 (some go5) := (by rw [hw]; exact HP7.2); have hp_ : Kd.R (Kd.int .i64) 3 w8 w0.heap.size (fun k_ => (P0_ k_ ∨ w.heap.size ≤ k_)) (.slice (some ⟨go5, 0, none⟩) x0_1.length co6) y135 := (by rw [hw, Ny135.out]; exact HP7.1); clear HP7; have n0_ := Aside0.mk (hp_); have n1_ := Aside0.mk ((by rw [hw]; exact below_set (HB.out) GB5.out : Below w0.heap.size w0 w8)); have n2_ := Aside0.mk (Kept.of_grown (S := (fun k_ => P0_ k_)) hg (by repeat (first | (with_reducible first | exact HK.out | apply Kept.alloc | apply Kept.drewN | apply Kept.drew) | exact HK.out)) (fun k_ e_ => (HO_0.out.1 k_ e_))); clear HO_0; clear HB; clear HK; have HO_0 := n0_; have HB := n1_; have HK := n2_; clear n0_ n1_ n2_; clear hg hw hp_))
          go_roundg k1
          case measure => have := HK1.out; omega
          case rel => exact ⟨(y135), (wrap64 (x1_1 + 1)), (wrap64 (x5_1 + 1)), (by first | rfl | (simp; done) | (simp [*]; done)), (by first | rfl | (simp; done) | (simp [*]; done)), H', ⟨by have := HK1.out; omega⟩, ⟨by (with_reducible repeat (first | apply Kd.R_alloc | apply Kd.R_drewN | apply Kd.R_drew)); exact HO_0.out⟩, ⟨by repeat (first | (with_reducible first | exact HK.out | apply Kept.alloc | apply Kept.drewN | apply Kept.drew) | exact HK.out)⟩, ⟨by repeat (first | (with_reducible first | exact HB.out | apply below_alloc | apply pw_below_drewN | apply below_drew1) | exact HB.out)⟩⟩
        · rw [if_neg c4] at H
          exact absurd H (by simp)
      · rw [if_neg c3] at H
        have c3b0 : decide (x5_1 < (x0_1.length : Int)) = false := decide_eq_false c3
        clear c3
        simp only [Option.some.injEq, Prod.mk.injEq] at H
        obtain ⟨rfl, rfl⟩ := H
        obtain ⟨Ao9, co9, eo9⟩ := Kd.R_slice HO_0.out
        subst eo9
        go_wp2
        go_ret
        exact ⟨by first | rfl | (simp [errW_none, errW_some] <;> rfl) | (simp [*, errW_none, errW_some] <;> rfl), by (with_reducible repeat (first | apply Kd.R_alloc | apply Kd.R_drewN | apply Kd.R_drew)); exact HO_0.out, by repeat (first | (with_reducible first | exact HB.out | apply below_alloc | apply pw_below_drewN | apply below_drew1) | exact HB.out), by repeat (first | (with_reducible first | exact HK.out | apply Kept.alloc | apply Kept.drewN | apply Kept.drew) | exact HK.out)⟩

/-! ### laws_markGrantS: function 31 -/
def laws_markGrantS.l0 : Nat → List S51 → Int → Int → Option (Int × List S51)
  | 0, _, _, _ => none
  | k + 1, l, n, i => if i < (l.length : Int) then (laws_markIntS.f k (rd_T51 l i).f3 (wrap64 (wrap64 (wrap64 (n + 1) + 1) + 1))).bind fun r0 => laws_markGrantS.l0 k (l.set i.toNat (⟨n, wrap64 (n + 1), wrap64 (wrap64 (n + 1) + 1), r0.2, r0.1, wrap64 (r0.1 + 1), Int.tmod (wrap64 (wrap64 (r0.1 + 1) + 1)) 3 == 0⟩ : S51)) (wrap64 (wrap64 (wrap64 (r0.1 + 1) + 1) + 1)) (wrap64 (i + 1)) else some (n, l)
def laws_markGrantS.f (k : Nat) (l0 : List S51) (a1 : Int) : Option (Int × List S51) := laws_markGrantS.l0 k l0 a1 0
set_option maxHeartbeats 8000000 in
set_option maxRecDepth 100000 in
open Go.Proofs.YtplfbjbbnjlnkaaM in
theorem laws_markGrantS.calls (k : Nat) (P0_ : Nat → Prop) (A0 : Option Addr) (n0 c0 : Nat) (l0 : List S51) (a1 : Int) (r1 : Int) (r2 : List S51) (w0 w : World) (hB : Below w0.heap.size w0 w) (ho0 : Kd.S k51 51 w w0.heap.size P0_ (.slice A0 n0 c0) l0) (h : laws_markGrantS.f k l0 a1 = some (r1, r2)) :
    Calls Try.prog 31 #[.slice A0 n0 c0, .int .i64 a1] w fun e w' => e = .returned (.int .i64 r1) ∧ Kd.S k51 51 w' w0.heap.size P0_ (.slice A0 n0 c0) r2 ∧ Below w0.heap.size w0 w' ∧ Kept w w' P0_ := by
  have HS := Aside0.mk ho0
  have hN : Aside0 (n0 = l0.length) := ⟨(Kd.S_reads' ho0).1⟩
  have HLEN : Aside0 (n0 ≤ 9223372036854775807) := ⟨by have h_ := (Kd.S_reads' ho0).2.2.2.1; have := hN.out; omega⟩
  have HB := Aside0.mk hB
  have H' := Aside0.mk (show laws_markGrantS.l0 k l0 a1 0 = some (r1, r2) from h)
  have HK := Aside0.mk (Kept.refl w P0_)
  clear h hB ho0
  have hu51 := Try.underlying51
  go_enter Try.func31, Try.ntmps31
  go_wp2
  go_loopg [1, 5] k (fun kq v1 v5 w' => ∃ (l : List S51) (n i : Int), v1 = .int .i64 n ∧ v5 = .int .i64 i ∧ Aside0 (laws_markGrantS.l0 kq l n i = some (r1, r2)) ∧ Aside0 (0 ≤ i ∧ n0 = l.length) ∧ Aside0 (Kd.S k51 51 w' w0.heap.size P0_ (.slice A0 n0 c0) l) ∧ Aside0 (Below w0.heap.size w0 w') ∧ Aside0 (Kept w w' P0_))
  case atStart => exact ⟨l0, a1, 0, rfl, rfl, H', ⟨by omega, hN.out⟩, HS, HB, HK⟩
  case round =>
    clear H' HS HB HK hN
    obtain ⟨l, n, i, rfl, rfl, HA, HX, HS, HB, HK⟩ := hrel
    cases gk with
    | zero => exact absurd HA.out (by simp [laws_markGrantS.l0])
    | succ k1 =>
      have H := HA.out
      clear HA
      simp only [laws_markGrantS.l0] at H
      by_cases hlt : i < (l.length : Int)
      · rw [if_pos hlt] at H
        obtain ⟨r0, hm0, H⟩ := Option.bind_eq_some_iff.mp H
        have HM0 := Aside0.mk hm0
        have p1 : 0 ≤ i := HX.out.1
        have q1 : i < (n0 : Int) := by have := HX.out.2; omega
        have c1 : decide (i < (n0 : Int)) = true := decide_eq_true q1
        obtain ⟨go, co, eo, gb, gl, cl, HG⟩ := Kd.S_form HS.out (by have := HX.out.2; omega)
        cases eo
        obtain ⟨oki, ce, hcl, hM, hcc, hfr, hoki, hH⟩ := Kd.S_elem HS.out z51 i p1 q1
        obtain ⟨v3, rfl, g3⟩ := k51_openM hM
        obtain ⟨A3, c3, rfl⟩ := Kd.R_slice g3
        have HH := Aside0.mk hH
        have HO := Aside0.mk hoki
        have H' := Aside0.mk H
        have GB := Aside0.mk gb
        have HGO : Aside0 (P0_ go ∨ w.heap.size ≤ go) := ⟨.inl ((Kd.S_R HS.out).1 go rfl)⟩
        have HP := Aside0.mk p1
        have HQ := Aside0.mk q1
        have hx0 : wr.cell? ⟨go, i.toNat * 7, none⟩ = some (.int .i64 ((rd_T51 l i).f0)) := hcc 0 _ rfl
        have hf0 : wr.frozen? ⟨go, i.toNat * 7, none⟩ = false := hfr 0
        have hx1 : wr.cell? ⟨go, i.toNat * 7 + 1, none⟩ = some (.int .i64 ((rd_T51 l i).f1)) := hcc 1 _ rfl
        have hf1 : wr.frozen? ⟨go, i.toNat * 7 + 1, none⟩ = false := hfr 1
        have hx2 : wr.cell? ⟨go, i.toNat * 7 + 2, none⟩ = some (.int .i64 ((rd_T51 l i).f2)) := hcc 2 _ rfl
        have hf2 : wr.frozen? ⟨go, i.toNat * 7 + 2, none⟩ = false := hfr 2
        have hx3 : wr.cell? ⟨go, i.toNat * 7 + 3, none⟩ = some (.slice A3 (rd_T51 l i).f3.length c3) := hcc 3 _ rfl
        have hf3 : wr.frozen? ⟨go, i.toNat * 7 + 3, none⟩ = false := hfr 3
        have G3 : Aside0 (Kd.R (Kd.int .i64) 3 wr w0.heap.size oki (.slice A3 (rd_T51 l i).f3.length c3) (rd_T51 l i).f3) := ⟨g3⟩
        clear hm0 H hM hcc hfr hcl hH HG gb gl hlt hoki g3
        replace p1 := eq_true p1
        replace q1 := eq_true q1
        go_wp2_with fail
        refine (laws_markIntS.calls k1 oki _ _ _ r0.1 r0.2 w0 _ (below_set (below_set (below_set (HB.out) GB.out) GB.out) GB.out) (Kd.R_far (p := ⟨go, i.toNat * 7 + 2, none⟩) (Kd.R_far (p := ⟨go, i.toNat * 7 + 1, none⟩) (Kd.R_far (p := ⟨go, i.toNat * 7, none⟩) (G3.out) (fun k_ h_ => (HO.out k_ h_).2) (.int .i64 (n))) (fun k_ h_ => (HO.out k_ h_).2) (.int .i64 (wrap64 (n + 1)))) (fun k_ h_ => (HO.out k_ h_).2) (.int .i64 (wrap64 (wrap64 (n + 1) + 1)))) HM0.out).mono ?_
        rintro e w1 ⟨rfl, h4, hb4, hk4⟩
        have H5_3 := Aside0.mk (Kd.R_reok (ok := oki) rfl h4 (fun k_ e_ => G3.out.1 k_ e_))
        have HH1 := Aside0.mk (H_call (H_cell (H_cell (H_cell (HH.out) HP.out HQ.out 0 (.int .i64 (n)) (by decide) rfl rfl) HP.out HQ.out 1 (.int .i64 (wrap64 (n + 1))) (by decide) rfl rfl) HP.out HQ.out 2 (.int .i64 (wrap64 (wrap64 (n + 1) + 1))) (by decide) rfl rfl) hk4)
        have HK1 : Aside0 (Kept w w1 P0_) := ⟨Kept.then_ (Kept.setCell (Kept.setCell (Kept.setCell (HK.out) HGO.out _) HGO.out _) HGO.out _) hk4 (fun k_ h_ => .inl (HO.out k_ h_).1)⟩
        have HB1 := Aside0.mk hb4
        clear h4 hb4 hk4 hx0 hf0 hx1 hf1 hx2 hf2 hx3 hf3
        have hx4 : w1.cell? ⟨go, i.toNat * 7 + 4, none⟩ = some (.int .i64 ((rd_T51 l i).f4)) := H_cells HH1.out HP.out HQ.out 4 rfl
        have hf4 : w1.frozen? ⟨go, i.toNat * 7 + 4, none⟩ = false := H_fr HH1.out HP.out HQ.out 4
        have hx5 : w1.cell? ⟨go, i.toNat * 7 + 5, none⟩ = some (.int .i64 ((rd_T51 l i).f5)) := H_cells HH1.out HP.out HQ.out 5 rfl
        have hf5 : w1.frozen? ⟨go, i.toNat * 7 + 5, none⟩ = false := H_fr HH1.out HP.out HQ.out 5
        have hx6 : w1.cell? ⟨go, i.toNat * 7 + 6, none⟩ = some (.bool ((rd_T51 l i).f6)) := H_cells HH1.out HP.out HQ.out 6 rfl
        have hf6 : w1.frozen? ⟨go, i.toNat * 7 + 6, none⟩ = false := H_fr HH1.out HP.out HQ.out 6
        go_wp2
        have he : wrap64 (i + 1) = i + 1 := Go.Proofs.YtplfbjbbnjlnkaaH.wrap_up HP.out HQ.out HLEN.out
        go_roundg k1
        case measure => omega
        case rel =>
          refine ⟨_, _, _, rfl, rfl, H', ⟨by have := HP.out; omega, by rw [List.length_set]⟩, ⟨?_⟩, ⟨below_set (below_set (below_set (HB1.out) GB.out) GB.out) GB.out⟩, ⟨Kept.setCell (Kept.setCell (Kept.setCell (HK1.out) HGO.out _) HGO.out _) HGO.out _⟩⟩
          exact Kd.H_back (H_cell (H_cell (H_cell (HH1.out) HP.out HQ.out 4 (.int .i64 (r0.1)) (by decide) rfl rfl) HP.out HQ.out 5 (.int .i64 (wrap64 (r0.1 + 1))) (by decide) rfl rfl) HP.out HQ.out 6 (.bool (Int.tmod (wrap64 (wrap64 (r0.1 + 1) + 1)) 3 == 0)) (by decide) rfl rfl) (k51_mkM _ _ oki (⟨n, wrap64 (n + 1), wrap64 (wrap64 (n + 1) + 1), r0.2, r0.1, wrap64 (r0.1 + 1), Int.tmod (wrap64 (wrap64 (r0.1 + 1) + 1)) 3 == 0⟩ : S51) (Kd.R_far (p := ⟨go, i.toNat * 7 + 6, none⟩) (Kd.R_far (p := ⟨go, i.toNat * 7 + 5, none⟩) (Kd.R_far (p := ⟨go, i.toNat * 7 + 4, none⟩) (H5_3.out) (fun k_ h_ => (HO.out k_ h_).2) (.int .i64 (r0.1))) (fun k_ h_ => (HO.out k_ h_).2) (.int .i64 (wrap64 (r0.1 + 1)))) (fun k_ h_ => (HO.out k_ h_).2) (.bool (Int.tmod (wrap64 (wrap64 (r0.1 + 1) + 1)) 3 == 0)))) (fun _ h_ => h_)
      · rw [if_neg hlt] at H
        simp only [Option.some.injEq, Prod.mk.injEq] at H
        obtain ⟨rfl, rfl⟩ := H
        have q1 : ¬ i < (n0 : Int) := by have := HX.out.2; omega
        have c1 : decide (i < (n0 : Int)) = false := decide_eq_false q1
        clear q1 hlt
        go_wp2
        go_ret
        exact ⟨rfl, HS.out, HB.out, HK.out⟩

/-! ### laws_heldIntS: function 81 -/
def laws_heldIntS.l0 : Nat → List Int → Int → Int → Option (Int)
  | 0, _, _, _ => none
  | k + 1, x0, x1, x5 => if x5 < (x0.length : Int) then (if 0 ≤ x5 then (if (rd x0 x5) = x1 then (laws_heldIntS.l0 k x0 (wrap64 (x1 + 1)) (wrap64 (x5 + 1))) else (some (-1))) else (none)) else (some x1)
def laws_heldIntS.f (k : Nat) (l0 : List Int) (a1 : Int) : Option (Int) := laws_heldIntS.l0 k l0 a1 0
set_option maxHeartbeats 8000000 in
set_option maxRecDepth 100000 in
theorem laws_heldIntS.calls (k : Nat) (A0 : Option Addr) (c0 : Nat) (l0 : List Int) (a1 : Int) (r : Int) (w : World) (hr0 : Kd.C (Kd.int .i64) w A0 l0.length l0) (hc0 : l0.length ≤ c0) (h : laws_heldIntS.f k l0 a1 = some r) :
    Calls Try.prog 81 #[.slice A0 l0.length c0, .int .i64 a1] w fun e w' => e = .returned (.int .i64 r) ∧ Drawn0 w w' := by
  have HR0 := Aside0.mk hr0
  have HC0 := Aside0.mk hc0
  clear hr0 hc0
  have H : (laws_heldIntS.l0 k l0 a1 0) = some r := h
  clear h
  have H' := Aside0.mk H
  clear H
  go_enter Try.func81, Try.ntmps81
  go_wp2
  go_loopg [1, 5] k (fun kq v1 v5 w' => ∃ (x1_1 : Int) (x5_1 : Int), v1 = .int .i64 x1_1 ∧ v5 = .int .i64 x5_1 ∧ Aside0 (laws_heldIntS.l0 kq l0 x1_1 x5_1 = some r) ∧ Aside0 (kq ≤ k) ∧ Drawn0 w w')
  case atStart => exact ⟨(a1), (0), (by first | rfl | (simp; done) | (simp [*]; done)), (by first | rfl | (simp; done) | (simp [*]; done)), H', ⟨Nat.le_refl _⟩, by repeat (first | exact Drawn0.refl _ | apply Drawn0.step)⟩
  case round =>
    clear H'
    try clear p2
    obtain ⟨x1_1, x5_1, rfl, rfl, HA, HK1, ⟨m1, rfl⟩⟩ := hrel
    cases gk with
    | zero => exact absurd HA.out (by simp [laws_heldIntS.l0])
    | succ k1 =>
      have H := HA.out
      clear HA
      simp only [laws_heldIntS.l0] at H
      by_cases c3 : x5_1 < (l0.length : Int)
      · rw [if_pos c3] at H
        have c3b0 : decide (x5_1 < (l0.length : Int)) = true := decide_eq_true c3
        clear c3
        by_cases c4 : 0 ≤ x5_1
        · rw [if_pos c4] at H
          have c4b0 : decide (0 ≤ x5_1) = true := decide_eq_true c4
          clear c4
          by_cases c5 : (rd l0 x5_1) = x1_1
          · rw [if_pos c5] at H
            have c5b0 : ((rd l0 x5_1) == x1_1) = true := beq_iff_eq.mpr c5
            have c5b1 : ((rd l0 x5_1) != x1_1) = false := bne_eq_false_iff_eq.mpr c5
            clear c5
            have H' := Aside0.mk H
            clear H
            have p136 : 0 ≤ (x5_1 : Int) := of_decide_eq_true (by first | (with_reducible assumption) | assumption)
            have q136 : x5_1 < (l0.length : Int) := of_decide_eq_true (by first | (with_reducible assumption) | assumption)
            obtain ⟨ad136, e136, hx136_0⟩ := Kd.at_int HR0.out x5_1 p136 q136
            cases e136
            replace p136 := eq_true p136
            replace q136 := eq_true q136
            go_wp2
            go_roundg k1
            case measure => have := HK1.out; omega
            case rel => exact ⟨(wrap64 (x1_1 + 1)), (wrap64 (x5_1 + 1)), (by first | rfl | (simp; done) | (simp [*]; done)), (by first | rfl | (simp; done) | (simp [*]; done)), H', ⟨by have := HK1.out; omega⟩, by repeat (first | exact Drawn0.refl _ | apply Drawn0.step)⟩
          · rw [if_neg c5] at H
            have c5b0 : ((rd l0 x5_1) == x1_1) = false := beq_eq_false_iff_ne.mpr c5
            have c5b1 : ((rd l0 x5_1) != x1_1) = true := bne_iff_ne.mpr c5
            obtain rfl := Option.some.inj H
            have p136 : 0 ≤ (x5_1 : Int) := of_decide_eq_true (by first | (with_reducible assumption) | assumption)
            have q136 : x5_1 < (l0.length : Int) := of_decide_eq_true (by first | (with_reducible assumption) | assumption)
            obtain ⟨ad136, e136, hx136_0⟩ := Kd.at_int HR0.out x5_1 p136 q136
            cases e136
            replace p136 := eq_true p136
            replace q136 := eq_true q136
            go_wp2
            go_ret
            exact ⟨by first | rfl | (simp; done) | (simp [*]; done), by repeat (first | exact Drawn0.refl _ | apply Drawn0.step)⟩
        · rw [if_neg c4] at H
          exact absurd H (by simp)
      · rw [if_neg c3] at H
        have c3b0 : decide (x5_1 < (l0.length : Int)) = false := decide_eq_false c3
        clear c3
        obtain rfl := Option.some.inj H
        go_wp2
        go_ret
        exact ⟨by first | rfl | (simp; done) | (simp [*]; done), by repeat (first | exact Drawn0.refl _ | apply Drawn0.step)⟩

end Go.Proofs.Ytplfbjbbnjlnkaa.QFnExactAddGrant
