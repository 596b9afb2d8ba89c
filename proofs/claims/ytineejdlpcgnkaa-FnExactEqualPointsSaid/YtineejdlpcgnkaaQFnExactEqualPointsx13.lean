/- The machine side of FnExactEqualPoints: what each function that it reaches computes, and that the machine's call gives just that. -/
import Derived.Test.YtineejdlpcgnkaaQFnExactEqualPointsx0
import Derived.Test.YtineejdlpcgnkaaQFnExactEqualPointsx4
import Derived.Test.YtineejdlpcgnkaaQFnExactEqualPointsx12
namespace Go.Proofs.Ytineejdlpcgnkaa.QFnExactEqualPoints
open Go.RowKit Go.Proofs.YtineejdlpcgnkaaW.PrintWords Go.Proofs.YtineejdlpcgnkaaW.PrintLast Go.Proofs.YtineejdlpcgnkaaW.PrintMore
attribute [local go_sem] max2_int min2_int max_two min_two max_three min_three max_four min_four   -- for this text's walks alone
set_option linter.unusedVariables false
set_option linter.unusedSimpArgs false

attribute [local go_sem high] eqA149
/-! ### spec_EqualPoints: function 25 -/
def spec_EqualPoints.f (k : Nat) (a0_0 : Int) (a0_1 : Int) (a0_2 : Int) (l0_3 : List (S149)) (a0_4 : Int) (l0_5 : List (S174)) (l0_6 : List (S132)) (l0_7 : List (S99)) (a0_8 : Int) (l0_9 : List (S103)) (a1_0 : Int) (a1_1 : Int) (a1_2 : Int) (l1_3 : List (S149)) (a1_4 : Int) (l1_5 : List (S174)) (l1_6 : List (S132)) (l1_7 : List (S99)) (a1_8 : Int) (l1_9 : List (S103)) : Option (Bool) := if a0_0 = a1_0 then (if a0_8 = a1_8 then ((spec_EqualEpochs.f k a0_1 a0_2 l0_3 a0_4 l0_5 a1_1 a1_2 l1_3 a1_4 l1_5).bind fun t314 => (if t314 = true then ((spec_EqualStores.f k l0_6 l1_6).bind fun t315 => (if t315 = true then ((spec_l27Revoked.f k l0_7 l1_7).bind fun t316 => (if t316 = true then ((spec_l27Saved.f k l0_9 l1_9).bind fun t317 => (some t317)) else (some false))) else (some false))) else (some false))) else (some false)) else (some false)
open Go.Proofs.YtineejdlpcgnkaaM in
set_option maxHeartbeats 8000000 in
set_option maxRecDepth 100000 in
theorem spec_EqualPoints.calls (k : Nat) (a0_0 : Int) (a0_1 : Int) (a0_2 : Int) (A0_3 : Option Addr) (c0_3 : Nat) (l0_3 : List (S149)) (a0_4 : Int) (A0_5 : Option Addr) (c0_5 : Nat) (l0_5 : List (S174)) (A0_6 : Option Addr) (c0_6 : Nat) (l0_6 : List (S132)) (A0_7 : Option Addr) (c0_7 : Nat) (l0_7 : List (S99)) (a0_8 : Int) (A0_9 : Option Addr) (c0_9 : Nat) (l0_9 : List (S103)) (a1_0 : Int) (a1_1 : Int) (a1_2 : Int) (A1_3 : Option Addr) (c1_3 : Nat) (l1_3 : List (S149)) (a1_4 : Int) (A1_5 : Option Addr) (c1_5 : Nat) (l1_5 : List (S174)) (A1_6 : Option Addr) (c1_6 : Nat) (l1_6 : List (S132)) (A1_7 : Option Addr) (c1_7 : Nat) (l1_7 : List (S99)) (a1_8 : Int) (A1_9 : Option Addr) (c1_9 : Nat) (l1_9 : List (S103)) (r : Bool) (w : World) (hr0_3 : Kd.C k149 w A0_3 l0_3.length l0_3) (hc0_3 : l0_3.length ≤ c0_3) (hr0_5 : Kd.C k174 w A0_5 l0_5.length l0_5) (hc0_5 : l0_5.length ≤ c0_5) (hr0_6 : Kd.C k132 w A0_6 l0_6.length l0_6) (hc0_6 : l0_6.length ≤ c0_6) (hr0_7 : Kd.C k99 w A0_7 l0_7.length l0_7) (hc0_7 : l0_7.length ≤ c0_7) (hr0_9 : Kd.C k103 w A0_9 l0_9.length l0_9) (hc0_9 : l0_9.length ≤ c0_9) (hr1_3 : Kd.C k149 w A1_3 l1_3.length l1_3) (hc1_3 : l1_3.length ≤ c1_3) (hr1_5 : Kd.C k174 w A1_5 l1_5.length l1_5) (hc1_5 : l1_5.length ≤ c1_5) (hr1_6 : Kd.C k132 w A1_6 l1_6.length l1_6) (hc1_6 : l1_6.length ≤ c1_6) (hr1_7 : Kd.C k99 w A1_7 l1_7.length l1_7) (hc1_7 : l1_7.length ≤ c1_7) (hr1_9 : Kd.C k103 w A1_9 l1_9.length l1_9) (hc1_9 : l1_9.length ≤ c1_9) (h : spec_EqualPoints.f k a0_0 a0_1 a0_2 l0_3 a0_4 l0_5 l0_6 l0_7 a0_8 l0_9 a1_0 a1_1 a1_2 l1_3 a1_4 l1_5 l1_6 l1_7 a1_8 l1_9 = some r) :
    Calls Try.prog 25 #[.agg #[.int .i64 a0_0, .int .i64 a0_1, .int .i64 a0_2, .slice A0_3 l0_3.length c0_3, .int .i64 a0_4, .slice A0_5 l0_5.length c0_5, .slice A0_6 l0_6.length c0_6, .slice A0_7 l0_7.length c0_7, .int .i64 a0_8, .slice A0_9 l0_9.length c0_9], .agg #[.int .i64 a1_0, .int .i64 a1_1, .int .i64 a1_2, .slice A1_3 l1_3.length c1_3, .int .i64 a1_4, .slice A1_5 l1_5.length c1_5, .slice A1_6 l1_6.length c1_6, .slice A1_7 l1_7.length c1_7, .int .i64 a1_8, .slice A1_9 l1_9.length c1_9]] w fun e w' => e = .returned (.bool r) ∧ Below w.heap.size w w' := by
  have HR0_3 := Aside0.mk hr0_3
  have HC0_3 := Aside0.mk hc0_3
  clear hr0_3 hc0_3
  have HR0_5 := Aside0.mk hr0_5
  have HC0_5 := Aside0.mk hc0_5
  clear hr0_5 hc0_5
  have HR0_6 := Aside0.mk hr0_6
  have HC0_6 := Aside0.mk hc0_6
  clear hr0_6 hc0_6
  have HR0_7 := Aside0.mk hr0_7
  have HC0_7 := Aside0.mk hc0_7
  clear hr0_7 hc0_7
  have HR0_9 := Aside0.mk hr0_9
  have HC0_9 := Aside0.mk hc0_9
  clear hr0_9 hc0_9
  have HR1_3 := Aside0.mk hr1_3
  have HC1_3 := Aside0.mk hc1_3
  clear hr1_3 hc1_3
  have HR1_5 := Aside0.mk hr1_5
  have HC1_5 := Aside0.mk hc1_5
  clear hr1_5 hc1_5
  have HR1_6 := Aside0.mk hr1_6
  have HC1_6 := Aside0.mk hc1_6
  clear hr1_6 hc1_6
  have HR1_7 := Aside0.mk hr1_7
  have HC1_7 := Aside0.mk hc1_7
  clear hr1_7 hc1_7
  have HR1_9 := Aside0.mk hr1_9
  have HC1_9 := Aside0.mk hc1_9
  clear hr1_9 hc1_9
  have HB := Aside0.mk (Below.refl w.heap.size w)
  have H := h
  clear h
  unfold spec_EqualPoints.f at H
  have hu40 := Try.underlying40
  have hu45 := Try.underlying45
  go_enter Try.func25, Try.ntmps25
  replace H := Aside0.mk H
  go_upto_region 1 with (first | ((with_reducible refine gate_dst (N := 2) rfl ?_); refine box_event ?hg (N := 2) ?hd (cs := #[.int .i64 a0_0, .int .i64 a0_1, .int .i64 a0_2, .slice A0_3 l0_3.length c0_3, .int .i64 a0_4, .slice A0_5 l0_5.length c0_5, .slice A0_6 l0_6.length c0_6, .slice A0_7 l0_7.length c0_7, .int .i64 a0_8, .slice A0_9 l0_9.length c0_9]) (t := 45) ?hr ?_; (case hd => rfl); (case hg => rfl); (case hr => first | (go_simp; done) | (go_simp; rfl)); intro gb1 hg W1 hbox hb; replace HB := bH HB hb; clear hb; have BK1 := Aside0.mk hbox; have c_BK1 := blk_cell hbox; have z_BK1 := blk_frozen hbox; clear hg hbox) | ((with_reducible refine gate_dst (N := 3) rfl ?_); refine box_event ?hg (N := 3) ?hd (cs := #[.int .i64 a1_0, .int .i64 a1_1, .int .i64 a1_2, .slice A1_3 l1_3.length c1_3, .int .i64 a1_4, .slice A1_5 l1_5.length c1_5, .slice A1_6 l1_6.length c1_6, .slice A1_7 l1_7.length c1_7, .int .i64 a1_8, .slice A1_9 l1_9.length c1_9]) (t := 45) ?hr ?_; (case hd => rfl); (case hg => rfl); (case hr => first | (go_simp; done) | (go_simp; rfl)); intro gb2 hg W2 hbox hb; replace BK1 := bK BK1 hb; replace c_BK1 := blk_cell BK1.out; replace z_BK1 := blk_frozen BK1.out; replace HB := bH HB hb; clear hb; have BK2 := Aside0.mk hbox; have c_BK2 := blk_cell hbox; have z_BK2 := blk_frozen hbox; clear hg hbox))
  replace H := H.out
  by_cases c3 : a0_0 = a1_0
  · rw [if_pos c3] at H
    have c3_0 := decT c3; have c3_1 := eqT c3; have c3_2 := neT c3
    clear c3
    by_cases c4 : a0_8 = a1_8
    · rw [if_pos c4] at H
      have c4_0 := decT c4; have c4_1 := eqT c4; have c4_2 := neT c4
      clear c4
      obtain ⟨t314, hm, H⟩ := Option.bind_eq_some_iff.mp H
      try dsimp only at H
      replace H := Aside0.mk H
      have hcall := spec_EqualEpochs.calls k _ _ _ _ _ _ _ _ _ _ _ _ _ _ _ _ _ _ _ W2 (Kd.C_below HR0_3.out HB.out) HC0_3.out (Kd.C_below HR0_5.out HB.out) HC0_5.out (Kd.C_below HR1_3.out HB.out) HC1_3.out (Kd.C_below HR1_5.out HB.out) HC1_5.out hm
      clear hm
      go_wp2_with fail
      refine hcall.mono ?_
      rintro e W5 ⟨rfl, hb⟩
      clear hcall
      replace BK1 := bK BK1 hb; replace c_BK1 := blk_cell BK1.out; replace z_BK1 := blk_frozen BK1.out
      replace BK2 := bK BK2 hb; replace c_BK2 := blk_cell BK2.out; replace z_BK2 := blk_frozen BK2.out
      replace HB := bH HB hb; clear hb
      replace H := H.out
      by_cases c6 : t314 = true
      · rw [if_pos c6] at H
        subst c6
        obtain ⟨t315, hm, H⟩ := Option.bind_eq_some_iff.mp H
        try dsimp only at H
        replace H := Aside0.mk H
        have hcall := spec_EqualStores.calls k _ _ _ _ _ _ _ W5 (Kd.C_below HR0_6.out HB.out) HC0_6.out (Kd.C_below HR1_6.out HB.out) HC1_6.out hm
        clear hm
        go_wp2_with fail
        refine hcall.mono ?_
        rintro e W7 ⟨rfl, hb⟩
        clear hcall
        replace BK1 := bK BK1 hb; replace c_BK1 := blk_cell BK1.out; replace z_BK1 := blk_frozen BK1.out
        replace BK2 := bK BK2 hb; replace c_BK2 := blk_cell BK2.out; replace z_BK2 := blk_frozen BK2.out
        replace HB := bH HB hb; clear hb
        replace H := H.out
        by_cases c8 : t315 = true
        · rw [if_pos c8] at H
          subst c8
          obtain ⟨t316, hm, H⟩ := Option.bind_eq_some_iff.mp H
          try dsimp only at H
          replace H := Aside0.mk H
          have hcall := spec_l27Revoked.calls k _ _ _ _ _ _ _ W7 (Kd.C_below HR0_7.out HB.out) HC0_7.out (Kd.C_below HR1_7.out HB.out) HC1_7.out hm
          clear hm
          go_wp2_with fail
          refine hcall.mono ?_
          rintro e W9 ⟨rfl, hb⟩
          clear hcall
          replace BK1 := bK BK1 hb; replace c_BK1 := blk_cell BK1.out; replace z_BK1 := blk_frozen BK1.out
          replace BK2 := bK BK2 hb; replace c_BK2 := blk_cell BK2.out; replace z_BK2 := blk_frozen BK2.out
          replace HB := bH HB hb; clear hb
          replace H := H.out
          by_cases c10 : t316 = true
          · rw [if_pos c10] at H
            subst c10
            obtain ⟨t317, hm, H⟩ := Option.bind_eq_some_iff.mp H
            try dsimp only at H
            replace H := Aside0.mk H
            have hcall := spec_l27Saved.calls k _ _ _ _ _ _ _ W9 (Kd.C_below HR0_9.out HB.out) HC0_9.out (Kd.C_below HR1_9.out HB.out) HC1_9.out hm
            clear hm
            go_wp2_with fail
            refine hcall.mono ?_
            rintro e W11 ⟨rfl, hb⟩
            clear hcall
            replace BK1 := bK BK1 hb; replace c_BK1 := blk_cell BK1.out; replace z_BK1 := blk_frozen BK1.out
            replace BK2 := bK BK2 hb; replace c_BK2 := blk_cell BK2.out; replace z_BK2 := blk_frozen BK2.out
            replace HB := bH HB hb; clear hb
            replace H := H.out
            obtain rfl := Option.some.inj H
            clear H
            go_wp2
            go_ret
            exact ⟨rfl, HB.out⟩
          · rw [if_neg c10] at H
            replace c10 := (Bool.not_eq_true _).mp c10
            subst c10
            obtain rfl := Option.some.inj H
            clear H
            go_wp2
            go_ret
            exact ⟨rfl, HB.out⟩
        · rw [if_neg c8] at H
          replace c8 := (Bool.not_eq_true _).mp c8
          subst c8
          obtain rfl := Option.some.inj H
          clear H
          go_wp2
          go_ret
          exact ⟨rfl, HB.out⟩
      · rw [if_neg c6] at H
        replace c6 := (Bool.not_eq_true _).mp c6
        subst c6
        obtain rfl := Option.some.inj H
        clear H
        go_wp2
        go_ret
        exact ⟨rfl, HB.out⟩
    · rw [if_neg c4] at H
      have c4_0 := decF c4; have c4_1 := eqF c4; have c4_2 := neF c4
      clear c4
      obtain rfl := Option.some.inj H
      clear H
      go_wp2
      go_ret
      exact ⟨rfl, HB.out⟩
  · rw [if_neg c3] at H
    have c3_0 := decF c3; have c3_1 := eqF c3; have c3_2 := neF c3
    clear c3
    obtain rfl := Option.some.inj H
    clear H
    go_wp2
    go_ret
    exact ⟨rfl, HB.out⟩

/-! ### impl_Includes: function 121 -/
def impl_Includes.l0 : Nat → List (S149) → List (S149) → Int → Int → Option (Bool)
  | 0, _, _, _, _ => none
  | k + 1, x0, x1, x12, x13 => if x13 < x12 then (if 0 ≤ x13 then (if x13 < (x0.length : Int) then (if x13 < (x1.length : Int) then (if (!(((rd_T149 x0 x13).f0) == ((rd_T149 x1 x13).f0)) || (!(((rd_T149 x0 x13).f1) == ((rd_T149 x1 x13).f1)))) = true then (some false) else (impl_Includes.l0 k x0 x1 x12 (wrap64 (x13 + 1)))) else (none)) else (none)) else (none)) else (some true)
def impl_Includes.f (k : Nat) (l0 : List (S149)) (l1 : List (S149)) : Option (Bool) := if (l0.length : Int) = (l1.length : Int) then (impl_Includes.l0 k l0 l1 (l0.length : Int) 0) else (some false)
set_option maxHeartbeats 8000000 in
set_option maxRecDepth 100000 in
theorem impl_Includes.calls (k : Nat) (A0 : Option Addr) (c0 : Nat) (l0 : List (S149)) (A1 : Option Addr) (c1 : Nat) (l1 : List (S149)) (r : Bool) (w : World) (hr0 : Kd.C k149 w A0 l0.length l0) (hc0 : l0.length ≤ c0) (hr1 : Kd.C k149 w A1 l1.length l1) (hc1 : l1.length ≤ c1) (h : impl_Includes.f k l0 l1 = some r) :
    Calls Try.prog 121 #[.slice A0 l0.length c0, .slice A1 l1.length c1] w fun e w' => e = .returned (.bool r) ∧ Drawn0 w w' := by
  have hu149 := Try.underlying149
  have HR0 := Aside0.mk hr0
  have HC0 := Aside0.mk hc0
  clear hr0 hc0
  have HR1 := Aside0.mk hr1
  have HC1 := Aside0.mk hc1
  clear hr1 hc1
  have H : (if (l0.length : Int) = (l1.length : Int) then (impl_Includes.l0 k l0 l1 (l0.length : Int) 0) else (some false)) = some r := h
  clear h
  by_cases c3 : (l0.length : Int) = (l1.length : Int)
  · rw [if_pos c3] at H
    have c3b0 : ((l0.length : Int) == (l1.length : Int)) = true := beq_iff_eq.mpr c3
    have c3b1 : ((l0.length : Int) != (l1.length : Int)) = false := bne_eq_false_iff_eq.mpr c3
    have c3b2 : (l0.length == l1.length) = true := by first | simpa using c3 | (simp at c3 ⊢; omega)
    clear c3
    have H' := Aside0.mk H
    clear H
    go_enter Try.func121, Try.ntmps121
    go_wp2
    repeat (go_quiet (fail); try go_wp2)
    go_loopg [13] k (fun kq v13 w' => ∃ (x13_1 : Int), v13 = .int .i64 x13_1 ∧ Aside0 (impl_Includes.l0 kq l0 l1 (l0.length : Int) x13_1 = some r) ∧ Aside0 (kq ≤ k) ∧ Drawn0 w w')
    case atStart => exact ⟨(0), (by first | rfl | (simp; done) | (simp [*]; done)), H', ⟨Nat.le_refl _⟩, by repeat (first | exact Drawn0.refl _ | apply Drawn0.step)⟩
    case round =>
      clear H'
      try clear c1
      try clear p2
      try clear c3
      try clear c3b0
      try clear c3b1
      try clear c3b2
      obtain ⟨x13_1, rfl, HA, HK1, ⟨m1, rfl⟩⟩ := hrel
      cases gk with
      | zero => exact absurd HA.out (by simp [impl_Includes.l0])
      | succ k1 =>
        have H := HA.out
        clear HA
        simp only [impl_Includes.l0] at H
        by_cases c4 : x13_1 < (l0.length : Int)
        · rw [if_pos c4] at H
          have c4b0 : decide (x13_1 < (l0.length : Int)) = true := decide_eq_true c4
          clear c4
          by_cases c5 : 0 ≤ x13_1
          · rw [if_pos c5] at H
            have c5b0 : decide (0 ≤ x13_1) = true := decide_eq_true c5
            clear c5
            by_cases c6 : x13_1 < (l0.length : Int)
            · rw [if_pos c6] at H
              have c6b0 : decide (x13_1 < (l0.length : Int)) = true := decide_eq_true c6
              clear c6
              by_cases c7 : x13_1 < (l1.length : Int)
              · rw [if_pos c7] at H
                have c7b0 : decide (x13_1 < (l1.length : Int)) = true := decide_eq_true c7
                clear c7
                by_cases c8 : (!(((rd_T149 l0 x13_1).f0) == ((rd_T149 l1 x13_1).f0)) || (!(((rd_T149 l0 x13_1).f1) == ((rd_T149 l1 x13_1).f1)))) = true
                · rw [if_pos c8] at H
                  have c8b0 : (!(((rd_T149 l0 x13_1).f0) == ((rd_T149 l1 x13_1).f0)) || (!(((rd_T149 l0 x13_1).f1) == ((rd_T149 l1 x13_1).f1)))) = true := c8
                  clear c8
                  obtain rfl := Option.some.inj H
                  have p318 : 0 ≤ (x13_1 : Int) := of_decide_eq_true (by first | (with_reducible assumption) | assumption)
                  have q318 : x13_1 < (l0.length : Int) := of_decide_eq_true (by first | (with_reducible assumption) | assumption)
                  obtain ⟨ad318, e318, hx318_0, hx318_1⟩ := at_T149 HR0.out x13_1 p318 q318
                  cases e318
                  replace p318 := eq_true p318
                  replace q318 := eq_true q318
                  have p319 : 0 ≤ (x13_1 : Int) := of_decide_eq_true (by first | (with_reducible assumption) | assumption)
                  have q319 : x13_1 < (l1.length : Int) := of_decide_eq_true (by first | (with_reducible assumption) | assumption)
                  obtain ⟨ad319, e319, hx319_0, hx319_1⟩ := at_T149 HR1.out x13_1 p319 q319
                  cases e319
                  replace p319 := eq_true p319
                  replace q319 := eq_true q319
                  go_wp2
                  repeat (go_quiet (fail); try go_wp2)
                  go_ret
                  exact ⟨by first | rfl | (simp; done) | (simp [*]; done), by repeat (first | exact Drawn0.refl _ | apply Drawn0.step)⟩
                · rw [if_neg c8] at H
                  have c8b0 : (!(((rd_T149 l0 x13_1).f0) == ((rd_T149 l1 x13_1).f0)) || (!(((rd_T149 l0 x13_1).f1) == ((rd_T149 l1 x13_1).f1)))) = false := by simpa using c8
                  clear c8
                  have H' := Aside0.mk H
                  clear H
                  have p318 : 0 ≤ (x13_1 : Int) := of_decide_eq_true (by first | (with_reducible assumption) | assumption)
                  have q318 : x13_1 < (l0.length : Int) := of_decide_eq_true (by first | (with_reducible assumption) | assumption)
                  obtain ⟨ad318, e318, hx318_0, hx318_1⟩ := at_T149 HR0.out x13_1 p318 q318
                  cases e318
                  replace p318 := eq_true p318
                  replace q318 := eq_true q318
                  have p319 : 0 ≤ (x13_1 : Int) := of_decide_eq_true (by first | (with_reducible assumption) | assumption)
                  have q319 : x13_1 < (l1.length : Int) := of_decide_eq_true (by first | (with_reducible assumption) | assumption)
                  obtain ⟨ad319, e319, hx319_0, hx319_1⟩ := at_T149 HR1.out x13_1 p319 q319
                  cases e319
                  replace p319 := eq_true p319
                  replace q319 := eq_true q319
                  go_wp2
                  repeat (go_quiet (fail); try go_wp2)
                  go_roundg k1
                  case measure => have := HK1.out; omega
                  case rel => exact ⟨(wrap64 (x13_1 + 1)), (by first | rfl | (simp; done) | (simp [*]; done)), H', ⟨by have := HK1.out; omega⟩, by repeat (first | exact Drawn0.refl _ | apply Drawn0.step)⟩
              · rw [if_neg c7] at H
                exact absurd H (by simp)
            · rw [if_neg c6] at H
              exact absurd H (by simp)
          · rw [if_neg c5] at H
            exact absurd H (by simp)
        · rw [if_neg c4] at H
          have c4b0 : decide (x13_1 < (l0.length : Int)) = false := decide_eq_false c4
          clear c4
          obtain rfl := Option.some.inj H
          go_wp2
          repeat (go_quiet (fail); try go_wp2)
          go_ret
          exact ⟨by first | rfl | (simp; done) | (simp [*]; done), by repeat (first | exact Drawn0.refl _ | apply Drawn0.step)⟩
  · rw [if_neg c3] at H
    have c3b0 : ((l0.length : Int) == (l1.length : Int)) = false := beq_eq_false_iff_ne.mpr c3
    have c3b1 : ((l0.length : Int) != (l1.length : Int)) = true := bne_iff_ne.mpr c3
    have c3b2 : (l0.length == l1.length) = false := by first | simpa using c3 | (simp at c3 ⊢; omega)
    obtain rfl := Option.some.inj H
    go_enter Try.func121, Try.ntmps121
    go_wp2
    repeat (go_quiet (fail); try go_wp2)
    go_ret
    exact ⟨by first | rfl | (simp; done) | (simp [*]; done), by repeat (first | exact Drawn0.refl _ | apply Drawn0.step)⟩

/-! ### eqf166: function 166 -/
set_option maxHeartbeats 8000000 in
set_option maxRecDepth 100000 in
open Go.Proofs.YtineejdlpcgnkaaH in
theorem eqf166.calls (g : Nat) (lb : Array Value) (eg : ∀ args w, (callFunc g args).run Try.prog w = .ok (.enter g args) w) (p : S172 → S172 → Option Bool) (A0 : Option Addr) (c0 : Nat) (l0 : List S172) (A1 : Option Addr) (c1 : Nat) (l1 : List S172) (r : Bool) (w : World)
    (hp : ∀ (W : World) (x y : S172) (E3 : Option Addr) (d3 : Nat) (G3 : Option Addr) (h3 : Nat) (b : Bool), Below w.heap.size w W → (x).f3.length ≤ d3 → Kd.C k172 W E3 (x).f3.length ((x).f3) → (y).f3.length ≤ h3 → Kd.C k172 W G3 (y).f3.length ((y).f3) → p x y = some b → Calls Try.prog g (#[.agg #[.int .i64 ((x).f0), .int .i64 ((x).f1), .int .i64 ((x).f2), .slice E3 (x).f3.length d3], .agg #[.int .i64 ((y).f0), .int .i64 ((y).f1), .int .i64 ((y).f2), .slice G3 (y).f3.length h3]] ++ lb) W fun e w' => e = .returned (.bool b) ∧ Below w.heap.size w w')
    (hr0 : Kd.C k172 w A0 l0.length l0) (hc0 : l0.length ≤ c0) (hr1 : Kd.C k172 w A1 l1.length l1) (hc1 : l1.length ≤ c1) (h : eqO p l0 l1 = some r) :
    Calls Try.prog 166 #[.slice A0 l0.length c0, .slice A1 l1.length c1, .func (.func g) #[] lb] w fun e w' => e = .returned (.bool r) ∧ Below w.heap.size w w' := by
  have hu172 := Try.underlying172
  have HLEN : Aside0 (l0.length ≤ 9223372036854775807) := ⟨hr0.2.1⟩
  have HR0 := Aside0.mk hr0
  have HR1 := Aside0.mk hr1
  have HP := Aside0.mk hp
  unfold eqO at h
  by_cases hl : l0.length = l1.length
  rotate_left
  · rw [if_neg hl] at h
    obtain rfl := Option.some.inj h
    have c1b : (l0.length == l1.length) = false := by simpa using hl
    have c2b : (l0.length != l1.length) = true := by simpa using hl
    have c3b : ((l0.length : Int) == (l1.length : Int)) = false := beq_eq_false_iff_ne.mpr (by omega)
    have c4b : ((l0.length : Int) != (l1.length : Int)) = true := bne_iff_ne.mpr (by omega)
    clear hr0 hc0 hr1 hc1 h hp HP hl eg
    go_enter Try.func166, Try.ntmps166
    go_wp2
    go_ret
    exact ⟨rfl, Below.refl _ _⟩
  · rw [if_pos hl] at h
    have c1b : (l0.length == l1.length) = true := by simpa using hl
    have c2b : (l0.length != l1.length) = false := by simpa using hl
    have c3b : ((l0.length : Int) == (l1.length : Int)) = true := beq_iff_eq.mpr (by omega)
    have c4b : ((l0.length : Int) != (l1.length : Int)) = false := bne_eq_false_iff_eq.mpr (by omega)
    have HL := Aside0.mk hl
    have H' := Aside0.mk (show allO p (l0.drop (0 : Int).toNat) (l1.drop (0 : Int).toNat) = some r from h)
    clear hr0 hc0 hr1 hc1 h hp hl
    go_enter Try.func166, Try.ntmps166
    go_wp2
    go_loopg [17] l0.length (fun gg v17 wr => ∃ x : Int, v17 = .int .i64 x ∧ Aside0 (0 ≤ x ∧ x ≤ l0.length ∧ l0.length - x.toNat ≤ gg) ∧ Aside0 (Below w.heap.size w wr) ∧ Aside0 (allO p (l0.drop x.toNat) (l1.drop x.toNat) = some r))
    case atStart => exact ⟨0, rfl, ⟨by omega, by omega, by omega⟩, ⟨Below.refl _ w⟩, H'⟩
    case round =>
      clear H'
      obtain ⟨x, rfl, HX, BW, HA⟩ := hrel
      by_cases hlt : x < (l0.length : Int)
      · have b1 : decide (x < (l0.length : Int)) = true := decide_eq_true hlt
        have p1 : 0 ≤ x := HX.out.1
        have q1 : x < (l0.length : Int) := hlt
        have q2 : x < (l1.length : Int) := by have := HL.out; omega
        have b2 : decide (x < (l1.length : Int)) = true := decide_eq_true q2
        obtain ⟨b, hb, hf, ht⟩ := allO_at (z := z172) (z' := z172) HA.out p1 q1 q2
        have HB := Aside0.mk hb
        have HQ := Aside0.mk hlt
        clear hb HA
        obtain ⟨ada, E3, d3, ea, ha0, ha1, ha2, ha3, la3, ga3⟩ := at_T172 (Kd.C_below HR0.out BW.out) x p1 q1
        obtain ⟨adb, G3, h3, eb, hb0, hb1, hb2, hb3, lb3, gb3⟩ := at_T172 (Kd.C_below HR1.out BW.out) x p1 q2
        cases ea
        cases eb
        have La3 := Aside0.mk la3; have Ga3 := Aside0.mk ga3; have Lb3 := Aside0.mk lb3; have Gb3 := Aside0.mk gb3; clear la3 ga3 lb3 gb3
        have p1' := eq_true p1
        have q1' := eq_true q1
        have q2' := eq_true q2
        clear p1 q1 q2 hlt
        replace hb0 := cell_kept (.cells #[.int .i64 ((rd_T172 l0 x).f0), .int .i64 ((rd_T172 l0 x).f1), .int .i64 ((rd_T172 l0 x).f2), .slice E3 (rd_T172 l0 x).f3.length d3] 172) hb0
        replace hb1 := cell_kept (.cells #[.int .i64 ((rd_T172 l0 x).f0), .int .i64 ((rd_T172 l0 x).f1), .int .i64 ((rd_T172 l0 x).f2), .slice E3 (rd_T172 l0 x).f3.length d3] 172) hb1
        replace hb2 := cell_kept (.cells #[.int .i64 ((rd_T172 l0 x).f0), .int .i64 ((rd_T172 l0 x).f1), .int .i64 ((rd_T172 l0 x).f2), .slice E3 (rd_T172 l0 x).f3.length d3] 172) hb2
        replace hb3 := cell_kept (.cells #[.int .i64 ((rd_T172 l0 x).f0), .int .i64 ((rd_T172 l0 x).f1), .int .i64 ((rd_T172 l0 x).f2), .slice E3 (rd_T172 l0 x).f3.length d3] 172) hb3
        have hq0 : ((wr.alloc (.cells #[.int .i64 ((rd_T172 l0 x).f0), .int .i64 ((rd_T172 l0 x).f1), .int .i64 ((rd_T172 l0 x).f2), .slice E3 (rd_T172 l0 x).f3.length d3] 172)).alloc (.cells #[.int .i64 ((rd_T172 l1 x).f0), .int .i64 ((rd_T172 l1 x).f1), .int .i64 ((rd_T172 l1 x).f2), .slice G3 (rd_T172 l1 x).f3.length h3] 172)).cell? ⟨wr.heap.size, 0, none⟩ = some (.int .i64 ((rd_T172 l0 x).f0)) := cell_kept _ (cell_made rfl 0 rfl)
        have hq1 : ((wr.alloc (.cells #[.int .i64 ((rd_T172 l0 x).f0), .int .i64 ((rd_T172 l0 x).f1), .int .i64 ((rd_T172 l0 x).f2), .slice E3 (rd_T172 l0 x).f3.length d3] 172)).alloc (.cells #[.int .i64 ((rd_T172 l1 x).f0), .int .i64 ((rd_T172 l1 x).f1), .int .i64 ((rd_T172 l1 x).f2), .slice G3 (rd_T172 l1 x).f3.length h3] 172)).cell? ⟨wr.heap.size, 1, none⟩ = some (.int .i64 ((rd_T172 l0 x).f1)) := cell_kept _ (cell_made rfl 1 rfl)
        have hq2 : ((wr.alloc (.cells #[.int .i64 ((rd_T172 l0 x).f0), .int .i64 ((rd_T172 l0 x).f1), .int .i64 ((rd_T172 l0 x).f2), .slice E3 (rd_T172 l0 x).f3.length d3] 172)).alloc (.cells #[.int .i64 ((rd_T172 l1 x).f0), .int .i64 ((rd_T172 l1 x).f1), .int .i64 ((rd_T172 l1 x).f2), .slice G3 (rd_T172 l1 x).f3.length h3] 172)).cell? ⟨wr.heap.size, 2, none⟩ = some (.int .i64 ((rd_T172 l0 x).f2)) := cell_kept _ (cell_made rfl 2 rfl)
        have hq3 : ((wr.alloc (.cells #[.int .i64 ((rd_T172 l0 x).f0), .int .i64 ((rd_T172 l0 x).f1), .int .i64 ((rd_T172 l0 x).f2), .slice E3 (rd_T172 l0 x).f3.length d3] 172)).alloc (.cells #[.int .i64 ((rd_T172 l1 x).f0), .int .i64 ((rd_T172 l1 x).f1), .int .i64 ((rd_T172 l1 x).f2), .slice G3 (rd_T172 l1 x).f3.length h3] 172)).cell? ⟨wr.heap.size, 3, none⟩ = some (.slice E3 (rd_T172 l0 x).f3.length d3) := cell_kept _ (cell_made rfl 3 rfl)
        have hz0 : ((wr.alloc (.cells #[.int .i64 ((rd_T172 l0 x).f0), .int .i64 ((rd_T172 l0 x).f1), .int .i64 ((rd_T172 l0 x).f2), .slice E3 (rd_T172 l0 x).f3.length d3] 172)).alloc (.cells #[.int .i64 ((rd_T172 l1 x).f0), .int .i64 ((rd_T172 l1 x).f1), .int .i64 ((rd_T172 l1 x).f2), .slice G3 (rd_T172 l1 x).f3.length h3] 172)).cell? ⟨wr.heap.size + 1, 0, none⟩ = some (.int .i64 ((rd_T172 l1 x).f0)) := cell_made (by simp) 0 rfl
        have hz1 : ((wr.alloc (.cells #[.int .i64 ((rd_T172 l0 x).f0), .int .i64 ((rd_T172 l0 x).f1), .int .i64 ((rd_T172 l0 x).f2), .slice E3 (rd_T172 l0 x).f3.length d3] 172)).alloc (.cells #[.int .i64 ((rd_T172 l1 x).f0), .int .i64 ((rd_T172 l1 x).f1), .int .i64 ((rd_T172 l1 x).f2), .slice G3 (rd_T172 l1 x).f3.length h3] 172)).cell? ⟨wr.heap.size + 1, 1, none⟩ = some (.int .i64 ((rd_T172 l1 x).f1)) := cell_made (by simp) 1 rfl
        have hz2 : ((wr.alloc (.cells #[.int .i64 ((rd_T172 l0 x).f0), .int .i64 ((rd_T172 l0 x).f1), .int .i64 ((rd_T172 l0 x).f2), .slice E3 (rd_T172 l0 x).f3.length d3] 172)).alloc (.cells #[.int .i64 ((rd_T172 l1 x).f0), .int .i64 ((rd_T172 l1 x).f1), .int .i64 ((rd_T172 l1 x).f2), .slice G3 (rd_T172 l1 x).f3.length h3] 172)).cell? ⟨wr.heap.size + 1, 2, none⟩ = some (.int .i64 ((rd_T172 l1 x).f2)) := cell_made (by simp) 2 rfl
        have hz3 : ((wr.alloc (.cells #[.int .i64 ((rd_T172 l0 x).f0), .int .i64 ((rd_T172 l0 x).f1), .int .i64 ((rd_T172 l0 x).f2), .slice E3 (rd_T172 l0 x).f3.length d3] 172)).alloc (.cells #[.int .i64 ((rd_T172 l1 x).f0), .int .i64 ((rd_T172 l1 x).f1), .int .i64 ((rd_T172 l1 x).f2), .slice G3 (rd_T172 l1 x).f3.length h3] 172)).cell? ⟨wr.heap.size + 1, 3, none⟩ = some (.slice G3 (rd_T172 l1 x).f3.length h3) := cell_made (by simp) 3 rfl
        have BW2 : Aside0 (Below w.heap.size w ((wr.alloc (.cells #[.int .i64 ((rd_T172 l0 x).f0), .int .i64 ((rd_T172 l0 x).f1), .int .i64 ((rd_T172 l0 x).f2), .slice E3 (rd_T172 l0 x).f3.length d3] 172)).alloc (.cells #[.int .i64 ((rd_T172 l1 x).f0), .int .i64 ((rd_T172 l1 x).f1), .int .i64 ((rd_T172 l1 x).f2), .slice G3 (rd_T172 l1 x).f3.length h3] 172))) := ⟨below_alloc (below_alloc BW.out _) _⟩
        have hcall := HP.out ((wr.alloc (.cells #[.int .i64 ((rd_T172 l0 x).f0), .int .i64 ((rd_T172 l0 x).f1), .int .i64 ((rd_T172 l0 x).f2), .slice E3 (rd_T172 l0 x).f3.length d3] 172)).alloc (.cells #[.int .i64 ((rd_T172 l1 x).f0), .int .i64 ((rd_T172 l1 x).f1), .int .i64 ((rd_T172 l1 x).f2), .slice G3 (rd_T172 l1 x).f3.length h3] 172)) (rd_T172 l0 x) (rd_T172 l1 x) E3 d3 G3 h3 b BW2.out La3.out (Kd.C_alloc (Kd.C_alloc Ga3.out _) _) Lb3.out (Kd.C_alloc (Kd.C_alloc Gb3.out _) _) HB.out
        cases b with
        | false =>
          have HF := Aside0.mk (hf rfl)
          clear hf ht HP HB
          go_wp2_with fail
          refine hcall.mono ?_
          rintro e w' ⟨rfl, hb'⟩
          clear hcall eg ha0 hb0 hq0 hz0 ha1 hb1 hq1 hz1 ha2 hb2 hq2 hz2 ha3 hb3 hq3 hz3
          go_wp2
          go_ret
          exact ⟨by rw [← HF.out]; rfl, hb'⟩
        | true =>
          have HT := Aside0.mk (ht rfl)
          clear hf ht HP HB
          go_wp2_with fail
          refine hcall.mono ?_
          rintro e w' ⟨rfl, hb'⟩
          clear hcall eg ha0 hb0 hq0 hz0 ha1 hb1 hq1 hz1 ha2 hb2 hq2 hz2 ha3 hb3 hq3 hz3
          go_wp2
          have he : wrap64 (x + 1) = x + 1 := wrap_up HX.out.1 HQ.out HLEN.out
          go_roundg (l0.length - (x + 1).toNat)
          case measure => have := HX.out; have := HQ.out; omega
          case rel =>
            refine ⟨x + 1, ?_, ⟨by have := HX.out; omega, by have := HQ.out; omega, Nat.le_refl _⟩, ⟨hb'⟩, HT⟩
            simp [he]
      · have b1 : decide (x < (l0.length : Int)) = false := decide_eq_false hlt
        have HN := Aside0.mk hlt
        clear hlt
        go_wp2
        go_ret
        exact ⟨by rw [← allO_end HA.out HX.out.2.1 (by have := HN.out; omega)]; rfl, BW.out⟩


/-! ### impl_EqualConds: function 162 -/
mutual
def eqF166.f : Nat → List S172 → List S172 → Nat → Option Bool
  | 0, _, _, _ => none
  | k + 1, l0, l1, g => if g = 162 then Go.Proofs.YtineejdlpcgnkaaH.eqO (fun x y => impl_EqualConds.f k x.f0 x.f1 x.f2 x.f3 y.f0 y.f1 y.f2 y.f3) l0 l1 else none
def impl_EqualConds.f : Nat → Int → Int → Int → List (S172) → Int → Int → Int → List (S172) → Option (Bool)
  | 0, _, _, _, _, _, _, _, _ => none
  | k + 1, a0_0, a0_1, a0_2, l0_3, a1_0, a1_1, a1_2, l1_3 => if a0_0 = a1_0 then (if a0_1 = a1_1 then (if a0_2 = a1_2 then ((eqF166.f k l0_3 l1_3 162).bind fun t322 => (some t322)) else (some false)) else (some false)) else (some false)
end
abbrev eqF166.Stmt (k : Nat) : Prop := ∀ (A0 : Option Addr) (c0 : Nat) (l0 : List S172) (A1 : Option Addr) (c1 : Nat) (l1 : List S172) (g : Nat) (r : Bool) (w : World) (hr0 : Kd.C k172 w A0 l0.length l0) (hc0 : l0.length ≤ c0) (hr1 : Kd.C k172 w A1 l1.length l1) (hc1 : l1.length ≤ c1) (h : eqF166.f k l0 l1 g = some r),
    Calls Try.prog 166 #[.slice A0 l0.length c0, .slice A1 l1.length c1, .func (.func g) #[] #[]] w fun e w' => e = .returned (.bool r) ∧ Below w.heap.size w w'
abbrev impl_EqualConds.Stmt (k : Nat) : Prop := ∀ (a0_0 : Int) (a0_1 : Int) (a0_2 : Int) (A0_3 : Option Addr) (c0_3 : Nat) (l0_3 : List (S172)) (a1_0 : Int) (a1_1 : Int) (a1_2 : Int) (A1_3 : Option Addr) (c1_3 : Nat) (l1_3 : List (S172)) (r : Bool) (w : World) (hr0_3 : Kd.C k172 w A0_3 l0_3.length l0_3) (hc0_3 : l0_3.length ≤ c0_3) (hr1_3 : Kd.C k172 w A1_3 l1_3.length l1_3) (hc1_3 : l1_3.length ≤ c1_3) (h : impl_EqualConds.f k a0_0 a0_1 a0_2 l0_3 a1_0 a1_1 a1_2 l1_3 = some r),
    Calls Try.prog 162 #[.agg #[.int .i64 a0_0, .int .i64 a0_1, .int .i64 a0_2, .slice A0_3 l0_3.length c0_3], .agg #[.int .i64 a1_0, .int .i64 a1_1, .int .i64 a1_2, .slice A1_3 l1_3.length c1_3]] w fun e w' => e = .returned (.bool r) ∧ Below w.heap.size w w'
set_option maxHeartbeats 8000000 in
set_option maxRecDepth 100000 in
theorem eqF166.step (k : Nat) (ih_eqF166 : ∀ m_, m_ < k → eqF166.Stmt m_) (ih_impl_EqualConds : ∀ m_, m_ < k → impl_EqualConds.Stmt m_) : eqF166.Stmt k := by
  unfold eqF166.Stmt
  intro A0 c0 l0 A1 c1 l1 g r w hr0 hc0 hr1 hc1 h
  cases k with
  | zero => exact absurd h (by simp [eqF166.f])
  | succ k =>
  simp only [eqF166.f] at h
  by_cases hg_ : g = 162
  case neg => rw [if_neg hg_] at h; exact absurd h (by simp)
  rw [if_pos hg_] at h
  subst hg_
  have eg : ∀ args w, (callFunc 162 args).run Try.prog w = .ok (.enter 162 args) w := Go.Proofs.YtineejdlpcgnkaaH.enters Try.func162 (by kernel_rfl) rfl
  exact eqf166.calls 162 #[] eg _ A0 c0 l0 A1 c1 l1 r w (fun W x y E3 d3 G3 h3 b hW a3 b3 u3 v3 hp => (ih_impl_EqualConds k (by omega) x.f0 x.f1 x.f2 _ _ x.f3 y.f0 y.f1 y.f2 _ _ y.f3 b W b3 a3 v3 u3 hp).mono (fun e w' ⟨he, hb⟩ => ⟨he, hW.trans (hb.mono hW.size)⟩)) hr0 hc0 hr1 hc1 h
set_option maxHeartbeats 8000000 in
set_option maxRecDepth 100000 in
theorem impl_EqualConds.step (k : Nat) (ih_eqF166 : ∀ m_, m_ < k → eqF166.Stmt m_) (ih_impl_EqualConds : ∀ m_, m_ < k → impl_EqualConds.Stmt m_) : impl_EqualConds.Stmt k := by
  unfold impl_EqualConds.Stmt
  intro a0_0 a0_1 a0_2 A0_3 c0_3 l0_3 a1_0 a1_1 a1_2 A1_3 c1_3 l1_3 r w hr0_3 hc0_3 hr1_3 hc1_3 h
  cases k with
  | zero => exact absurd h (by simp [impl_EqualConds.f])
  | succ k =>
  simp only [impl_EqualConds.f] at h
  have hu172 := Try.underlying172
  have HR0_3 := Aside0.mk hr0_3
  have HC0_3 := Aside0.mk hc0_3
  clear hr0_3 hc0_3
  have HR1_3 := Aside0.mk hr1_3
  have HC1_3 := Aside0.mk hc1_3
  clear hr1_3 hc1_3
  have HB := Aside0.mk (Below.refl w.heap.size w)
  have H : (if a0_0 = a1_0 then (if a0_1 = a1_1 then (if a0_2 = a1_2 then ((eqF166.f k l0_3 l1_3 162).bind fun t322 => (some t322)) else (some false)) else (some false)) else (some false)) = some r := h
  clear h
  by_cases c3 : a0_0 = a1_0
  · rw [if_pos c3] at H
    have c3b0 : (a0_0 == a1_0) = true := beq_iff_eq.mpr c3
    have c3b1 : (a0_0 != a1_0) = false := bne_eq_false_iff_eq.mpr c3
    clear c3
    by_cases c4 : a0_1 = a1_1
    · rw [if_pos c4] at H
      have c4b0 : (a0_1 == a1_1) = true := beq_iff_eq.mpr c4
      have c4b1 : (a0_1 != a1_1) = false := bne_eq_false_iff_eq.mpr c4
      clear c4
      by_cases c5 : a0_2 = a1_2
      · rw [if_pos c5] at H
        have c5b0 : (a0_2 == a1_2) = true := beq_iff_eq.mpr c5
        have c5b1 : (a0_2 != a1_2) = false := bne_eq_false_iff_eq.mpr c5
        clear c5
        replace H := Option.bind_eq_some_iff.mp H
        obtain ⟨t322, A60, H⟩ := H
        replace H : (some t322) = some r := H
        have A6 := Aside0.mk A60
        clear A60
        obtain rfl := Option.some.inj H
        go_enter Try.func162, Try.ntmps162
        go_wp2_with (first | ((with_reducible refine gate_dst (N := 2) rfl ?_); refine box_event ?hg (N := 2) ?hd (cs := #[.int .i64 a0_0, .int .i64 a0_1, .int .i64 a0_2, .slice A0_3 l0_3.length c0_3]) (t := 172) ?hr ?_; (case hd => rfl); (case hg => rfl); (case hr => first | (go_simp; done) | (go_simp; rfl)); intro gb320 hg w7 hbox hb; have n0_ := Aside0.mk (below_step (by repeat (first | (with_reducible first | exact HB.out | apply below_alloc | apply pw_below_drewN | apply below_drew1) | exact HB.out)) hb); have n1_ := Aside0.mk (hbox); have n2_ := Aside0.mk ((by rw [hg]; exact (below_size (by repeat (first | (with_reducible first | exact HB.out | apply below_alloc | apply pw_below_drewN | apply below_drew1) | exact HB.out))) : w.heap.size ≤ gb320)); have n3_ := Aside0.mk ((by rw [hg]; exact (below_size (by repeat (first | (with_reducible first | exact HB.out | apply below_alloc | apply pw_below_drewN | apply below_drew1) | exact HB.out))) : w.heap.size ≤ gb320)); clear HB; have HB := n0_; have BK320 := n1_; have GW320 := n2_; have GE320 := n3_; clear n0_ n1_ n2_ n3_; clear hb hbox hg) | ((with_reducible refine gate_dst (N := 3) rfl ?_); refine box_event ?hg (N := 3) ?hd (cs := #[.int .i64 a1_0, .int .i64 a1_1, .int .i64 a1_2, .slice A1_3 l1_3.length c1_3]) (t := 172) ?hr ?_; (case hd => rfl); (case hg => rfl); (case hr => first | (go_simp; done) | (go_simp; rfl)); intro gb321 hg w8 hbox hb; have n0_ := Aside0.mk (blk_below (g := gb320) (o := .cells #[.int .i64 a0_0, .int .i64 a0_1, .int .i64 a0_2, .slice A0_3 l0_3.length c0_3] 172 (0, 0)) (by (with_reducible repeat (first | refine blk_drewN ?_ _ | refine blk_drew ?_ | refine blk_alloc ?_ _)); exact BK320.out) hb); have n1_ := Aside0.mk (below_step (by repeat (first | (with_reducible first | exact HB.out | apply below_alloc | apply pw_below_drewN | apply below_drew1 | refine below_set ?_ GE320.out) | exact HB.out)) hb); have n2_ := Aside0.mk (hbox); have n3_ := Aside0.mk ((by rw [hg]; exact (below_size (by repeat (first | (with_reducible first | exact HB.out | apply below_alloc | apply pw_below_drewN | apply below_drew1 | refine below_set ?_ GE320.out) | exact HB.out))) : w.heap.size ≤ gb321)); have n4_ := Aside0.mk ((by rw [hg]; exact (below_size (by repeat (first | (with_reducible first | exact HB.out | apply below_alloc | apply pw_below_drewN | apply below_drew1 | refine below_set ?_ GE320.out) | exact HB.out))) : w.heap.size ≤ gb321)); have n5_ := Aside0.mk ((by rw [hg]; exact Nat.ne_of_lt (blk_lt (g := gb320) (o := .cells #[.int .i64 a0_0, .int .i64 a0_1, .int .i64 a0_2, .slice A0_3 l0_3.length c0_3] 172 (0, 0)) (by (with_reducible repeat (first | refine blk_drewN ?_ _ | refine blk_drew ?_ | refine blk_alloc ?_ _)); exact BK320.out)) : gb320 ≠ gb321)); have n6_ := Aside0.mk ((by rw [hg]; exact Nat.ne_of_gt (blk_lt (g := gb320) (o := .cells #[.int .i64 a0_0, .int .i64 a0_1, .int .i64 a0_2, .slice A0_3 l0_3.length c0_3] 172 (0, 0)) (by (with_reducible repeat (first | refine blk_drewN ?_ _ | refine blk_drew ?_ | refine blk_alloc ?_ _)); exact BK320.out)) : gb321 ≠ gb320)); clear BK320; clear HB; have BK320 := n0_; have HB := n1_; have BK321 := n2_; have GW321 := n3_; have GE321 := n4_; have NB320_321 := n5_; have NB321_320 := n6_; clear n0_ n1_ n2_ n3_ n4_ n5_ n6_; clear hb hbox hg; have hnb9 := NB320_321.out; have hnc9 := NB321_320.out; have hcz10_0 : w8.cell? ⟨gb320, 0, none⟩ = some (.int .i64 a0_0) := (blk_cell BK320.out 0).trans rfl; have hcz10_1 : w8.cell? ⟨gb320, 1, none⟩ = some (.int .i64 a0_1) := (blk_cell BK320.out 1).trans rfl; have hcz10_2 : w8.cell? ⟨gb320, 2, none⟩ = some (.int .i64 a0_2) := (blk_cell BK320.out 2).trans rfl; have hcz10_3 : w8.cell? ⟨gb320, 3, none⟩ = some (.slice A0_3 l0_3.length c0_3) := (blk_cell BK320.out 3).trans rfl; have hfz10_0 := blk_frozen BK320.out 0; have hfz10_1 := blk_frozen BK320.out 1; have hfz10_2 := blk_frozen BK320.out 2; have hfz10_3 := blk_frozen BK320.out 3; have hcz11_0 : w8.cell? ⟨gb321, 0, none⟩ = some (.int .i64 a1_0) := (blk_cell BK321.out 0).trans rfl; have hcz11_1 : w8.cell? ⟨gb321, 1, none⟩ = some (.int .i64 a1_1) := (blk_cell BK321.out 1).trans rfl; have hcz11_2 : w8.cell? ⟨gb321, 2, none⟩ = some (.int .i64 a1_2) := (blk_cell BK321.out 2).trans rfl; have hcz11_3 : w8.cell? ⟨gb321, 3, none⟩ = some (.slice A1_3 l1_3.length c1_3) := (blk_cell BK321.out 3).trans rfl; have hfz11_0 := blk_frozen BK321.out 0; have hfz11_1 := blk_frozen BK321.out 1; have hfz11_2 := blk_frozen BK321.out 2; have hfz11_3 := blk_frozen BK321.out 3) | (go_at_call 166; (with_reducible refine (ih_eqF166 k (by omega) _ _ l0_3 _ _ l1_3 162 t322 _ ?side1 ?side2 ?side3 ?side4 A6.out).mono ?_); (case side1 => repeat (first | exact (Kd.C_below HR0_3.out HB.out) | (with_reducible refine Kd.C_alloc ?_ _) | (with_reducible refine Kd.C_drewN ?_ _) | (with_reducible refine Kd.C_drew ?_))); (case side2 => exact HC0_3.out); (case side3 => repeat (first | exact (Kd.C_below HR1_3.out HB.out) | (with_reducible refine Kd.C_alloc ?_ _) | (with_reducible refine Kd.C_drewN ?_ _) | (with_reducible refine Kd.C_drew ?_))); (case side4 => exact HC1_3.out); rintro e w12 ⟨rfl, hb⟩; have n0_ := Aside0.mk (blk_below (g := gb320) (o := .cells #[.int .i64 a0_0, .int .i64 a0_1, .int .i64 a0_2, .slice A0_3 l0_3.length c0_3] 172 (0, 0)) (by (with_reducible repeat (first | refine blk_drewN ?_ _ | refine blk_drew ?_ | refine blk_alloc ?_ _)); exact BK320.out) hb); have n1_ := Aside0.mk (blk_below (g := gb321) (o := .cells #[.int .i64 a1_0, .int .i64 a1_1, .int .i64 a1_2, .slice A1_3 l1_3.length c1_3] 172 (0, 0)) (by (with_reducible repeat (first | refine blk_drewN ?_ _ | refine blk_drew ?_ | refine blk_alloc ?_ _)); exact BK321.out) hb); have n2_ := Aside0.mk (below_step (by repeat (first | (with_reducible first | exact HB.out | apply below_alloc | apply pw_below_drewN | apply below_drew1 | refine below_set ?_ GE320.out | refine below_set ?_ GE321.out) | exact HB.out)) hb); clear BK320; clear BK321; clear HB; have BK320 := n0_; have BK321 := n1_; have HB := n2_; clear n0_ n1_ n2_; (try clear hb); (try clear hb2); (try clear hk); (try clear hi)))
        go_ret
        exact ⟨by first | rfl | (simp [errW_none, errW_some] <;> rfl) | (simp [*, errW_none, errW_some] <;> rfl), by repeat (first | (with_reducible first | exact HB.out | apply below_alloc | apply pw_below_drewN | apply below_drew1 | refine below_set ?_ GE320.out | refine below_set ?_ GE321.out) | exact HB.out)⟩
      · rw [if_neg c5] at H
        have c5b0 : (a0_2 == a1_2) = false := beq_eq_false_iff_ne.mpr c5
        have c5b1 : (a0_2 != a1_2) = true := bne_iff_ne.mpr c5
        obtain rfl := Option.some.inj H
        go_enter Try.func162, Try.ntmps162
        go_wp2_with (first | ((with_reducible refine gate_dst (N := 2) rfl ?_); refine box_event ?hg (N := 2) ?hd (cs := #[.int .i64 a0_0, .int .i64 a0_1, .int .i64 a0_2, .slice A0_3 l0_3.length c0_3]) (t := 172) ?hr ?_; (case hd => rfl); (case hg => rfl); (case hr => first | (go_simp; done) | (go_simp; rfl)); intro gb320 hg w13 hbox hb; have n0_ := Aside0.mk (below_step (by repeat (first | (with_reducible first | exact HB.out | apply below_alloc | apply pw_below_drewN | apply below_drew1) | exact HB.out)) hb); have n1_ := Aside0.mk (hbox); have n2_ := Aside0.mk ((by rw [hg]; exact (below_size (by repeat (first | (with_reducible first | exact HB.out | apply below_alloc | apply pw_below_drewN | apply below_drew1) | exact HB.out))) : w.heap.size ≤ gb320)); have n3_ := Aside0.mk ((by rw [hg]; exact (below_size (by repeat (first | (with_reducible first | exact HB.out | apply below_alloc | apply pw_below_drewN | apply below_drew1) | exact HB.out))) : w.heap.size ≤ gb320)); clear HB; have HB := n0_; have BK320 := n1_; have GW320 := n2_; have GE320 := n3_; clear n0_ n1_ n2_ n3_; clear hb hbox hg) | ((with_reducible refine gate_dst (N := 3) rfl ?_); refine box_event ?hg (N := 3) ?hd (cs := #[.int .i64 a1_0, .int .i64 a1_1, .int .i64 a1_2, .slice A1_3 l1_3.length c1_3]) (t := 172) ?hr ?_; (case hd => rfl); (case hg => rfl); (case hr => first | (go_simp; done) | (go_simp; rfl)); intro gb321 hg w14 hbox hb; have n0_ := Aside0.mk (blk_below (g := gb320) (o := .cells #[.int .i64 a0_0, .int .i64 a0_1, .int .i64 a0_2, .slice A0_3 l0_3.length c0_3] 172 (0, 0)) (by (with_reducible repeat (first | refine blk_drewN ?_ _ | refine blk_drew ?_ | refine blk_alloc ?_ _)); exact BK320.out) hb); have n1_ := Aside0.mk (below_step (by repeat (first | (with_reducible first | exact HB.out | apply below_alloc | apply pw_below_drewN | apply below_drew1 | refine below_set ?_ GE320.out) | exact HB.out)) hb); have n2_ := Aside0.mk (hbox); have n3_ := Aside0.mk ((by rw [hg]; exact (below_size (by repeat (first | (with_reducible first | exact HB.out | apply below_alloc | apply pw_below_drewN | apply below_drew1 | refine below_set ?_ GE320.out) | exact HB.out))) : w.heap.size ≤ gb321)); have n4_ := Aside0.mk ((by rw [hg]; exact (below_size (by repeat (first | (with_reducible first | exact HB.out | apply below_alloc | apply pw_below_drewN | apply below_drew1 | refine below_set ?_ GE320.out) | exact HB.out))) : w.heap.size ≤ gb321)); have n5_ := Aside0.mk ((by rw [hg]; exact Nat.ne_of_lt (blk_lt (g := gb320) (o := .cells #[.int .i64 a0_0, .int .i64 a0_1, .int .i64 a0_2, .slice A0_3 l0_3.length c0_3] 172 (0, 0)) (by (with_reducible repeat (first | refine blk_drewN ?_ _ | refine blk_drew ?_ | refine blk_alloc ?_ _)); exact BK320.out)) : gb320 ≠ gb321)); have n6_ := Aside0.mk ((by rw [hg]; exact Nat.ne_of_gt (blk_lt (g := gb320) (o := .cells #[.int .i64 a0_0, .int .i64 a0_1, .int .i64 a0_2, .slice A0_3 l0_3.length c0_3] 172 (0, 0)) (by (with_reducible repeat (first | refine blk_drewN ?_ _ | refine blk_drew ?_ | refine blk_alloc ?_ _)); exact BK320.out)) : gb321 ≠ gb320)); clear BK320; clear HB; have BK320 := n0_; have HB := n1_; have BK321 := n2_; have GW321 := n3_; have GE321 := n4_; have NB320_321 := n5_; have NB321_320 := n6_; clear n0_ n1_ n2_ n3_ n4_ n5_ n6_; clear hb hbox hg; have hnb15 := NB320_321.out; have hnc15 := NB321_320.out; have hcz16_0 : w14.cell? ⟨gb320, 0, none⟩ = some (.int .i64 a0_0) := (blk_cell BK320.out 0).trans rfl; have hcz16_1 : w14.cell? ⟨gb320, 1, none⟩ = some (.int .i64 a0_1) := (blk_cell BK320.out 1).trans rfl; have hcz16_2 : w14.cell? ⟨gb320, 2, none⟩ = some (.int .i64 a0_2) := (blk_cell BK320.out 2).trans rfl; have hcz16_3 : w14.cell? ⟨gb320, 3, none⟩ = some (.slice A0_3 l0_3.length c0_3) := (blk_cell BK320.out 3).trans rfl; have hfz16_0 := blk_frozen BK320.out 0; have hfz16_1 := blk_frozen BK320.out 1; have hfz16_2 := blk_frozen BK320.out 2; have hfz16_3 := blk_frozen BK320.out 3; have hcz17_0 : w14.cell? ⟨gb321, 0, none⟩ = some (.int .i64 a1_0) := (blk_cell BK321.out 0).trans rfl; have hcz17_1 : w14.cell? ⟨gb321, 1, none⟩ = some (.int .i64 a1_1) := (blk_cell BK321.out 1).trans rfl; have hcz17_2 : w14.cell? ⟨gb321, 2, none⟩ = some (.int .i64 a1_2) := (blk_cell BK321.out 2).trans rfl; have hcz17_3 : w14.cell? ⟨gb321, 3, none⟩ = some (.slice A1_3 l1_3.length c1_3) := (blk_cell BK321.out 3).trans rfl; have hfz17_0 := blk_frozen BK321.out 0; have hfz17_1 := blk_frozen BK321.out 1; have hfz17_2 := blk_frozen BK321.out 2; have hfz17_3 := blk_frozen BK321.out 3))
        go_ret
        exact ⟨by first | rfl | (simp [errW_none, errW_some] <;> rfl) | (simp [*, errW_none, errW_some] <;> rfl), by repeat (first | (with_reducible first | exact HB.out | apply below_alloc | apply pw_below_drewN | apply below_drew1 | refine below_set ?_ GE320.out | refine below_set ?_ GE321.out) | exact HB.out)⟩
    · rw [if_neg c4] at H
      have c4b0 : (a0_1 == a1_1) = false := beq_eq_false_iff_ne.mpr c4
      have c4b1 : (a0_1 != a1_1) = true := bne_iff_ne.mpr c4
      obtain rfl := Option.some.inj H
      go_enter Try.func162, Try.ntmps162
      go_wp2_with (first | ((with_reducible refine gate_dst (N := 2) rfl ?_); refine box_event ?hg (N := 2) ?hd (cs := #[.int .i64 a0_0, .int .i64 a0_1, .int .i64 a0_2, .slice A0_3 l0_3.length c0_3]) (t := 172) ?hr ?_; (case hd => rfl); (case hg => rfl); (case hr => first | (go_simp; done) | (go_simp; rfl)); intro gb320 hg w18 hbox hb; have n0_ := Aside0.mk (below_step (by repeat (first | (with_reducible first | exact HB.out | apply below_alloc | apply pw_below_drewN | apply below_drew1) | exact HB.out)) hb); have n1_ := Aside0.mk (hbox); have n2_ := Aside0.mk ((by rw [hg]; exact (below_size (by repeat (first | (with_reducible first | exact HB.out | apply below_alloc | apply pw_below_drewN | apply below_drew1) | exact HB.out))) : w.heap.size ≤ gb320)); have n3_ := Aside0.mk ((by rw [hg]; exact (below_size (by repeat (first | (with_reducible first | exact HB.out | apply below_alloc | apply pw_below_drewN | apply below_drew1) | exact HB.out))) : w.heap.size ≤ gb320)); clear HB; have HB := n0_; have BK320 := n1_; have GW320 := n2_; have GE320 := n3_; clear n0_ n1_ n2_ n3_; clear hb hbox hg) | ((with_reducible refine gate_dst (N := 3) rfl ?_); refine box_event ?hg (N := 3) ?hd (cs := #[.int .i64 a1_0, .int .i64 a1_1, .int .i64 a1_2, .slice A1_3 l1_3.length c1_3]) (t := 172) ?hr ?_; (case hd => rfl); (case hg => rfl); (case hr => first | (go_simp; done) | (go_simp; rfl)); intro gb321 hg w19 hbox hb; have n0_ := Aside0.mk (blk_below (g := gb320) (o := .cells #[.int .i64 a0_0, .int .i64 a0_1, .int .i64 a0_2, .slice A0_3 l0_3.length c0_3] 172 (0, 0)) (by (with_reducible repeat (first | refine blk_drewN ?_ _ | refine blk_drew ?_ | refine blk_alloc ?_ _)); exact BK320.out) hb); have n1_ := Aside0.mk (below_step (by repeat (first | (with_reducible first | exact HB.out | apply below_alloc | apply pw_below_drewN | apply below_drew1 | refine below_set ?_ GE320.out) | exact HB.out)) hb); have n2_ := Aside0.mk (hbox); have n3_ := Aside0.mk ((by rw [hg]; exact (below_size (by repeat (first | (with_reducible first | exact HB.out | apply below_alloc | apply pw_below_drewN | apply below_drew1 | refine below_set ?_ GE320.out) | exact HB.out))) : w.heap.size ≤ gb321)); have n4_ := Aside0.mk ((by rw [hg]; exact (below_size (by repeat (first | (with_reducible first | exact HB.out | apply below_alloc | apply pw_below_drewN | apply below_drew1 | refine below_set ?_ GE320.out) | exact HB.out))) : w.heap.size ≤ gb321)); have n5_ := Aside0.mk ((by rw [hg]; exact Nat.ne_of_lt (blk_lt (g := gb320) (o := .cells #[.int .i64 a0_0, .int .i64 a0_1, .int .i64 a0_2, .slice A0_3 l0_3.length c0_3] 172 (0, 0)) (by (with_reducible repeat (first | refine blk_drewN ?_ _ | refine blk_drew ?_ | refine blk_alloc ?_ _)); exact BK320.out)) : gb320 ≠ gb321)); have n6_ := Aside0.mk ((by rw [hg]; exact Nat.ne_of_gt (blk_lt (g := gb320) (o := .cells #[.int .i64 a0_0, .int .i64 a0_1, .int .i64 a0_2, .slice A0_3 l0_3.length c0_3] 172 (0, 0)) (by (with_reducible repeat (first | refine blk_drewN ?_ _ | refine blk_drew ?_ | refine blk_alloc ?_ _)); exact BK320.out)) : gb321 ≠ gb320)); clear BK320; clear HB; have BK320 := n0_; have HB := n1_; have BK321 := n2_; have GW321 := n3_; have GE321 := n4_; have NB320_321 := n5_; have NB321_320 := n6_; clear n0_ n1_ n2_ n3_ n4_ n5_ n6_; clear hb hbox hg; have hnb20 := NB320_321.out; have hnc20 := NB321_320.out; have hcz21_0 : w19.cell? ⟨gb320, 0, none⟩ = some (.int .i64 a0_0) := (blk_cell BK320.out 0).trans rfl; have hcz21_1 : w19.cell? ⟨gb320, 1, none⟩ = some (.int .i64 a0_1) := (blk_cell BK320.out 1).trans rfl; have hcz21_2 : w19.cell? ⟨gb320, 2, none⟩ = some (.int .i64 a0_2) := (blk_cell BK320.out 2).trans rfl; have hcz21_3 : w19.cell? ⟨gb320, 3, none⟩ = some (.slice A0_3 l0_3.length c0_3) := (blk_cell BK320.out 3).trans rfl; have hfz21_0 := blk_frozen BK320.out 0; have hfz21_1 := blk_frozen BK320.out 1; have hfz21_2 := blk_frozen BK320.out 2; have hfz21_3 := blk_frozen BK320.out 3; have hcz22_0 : w19.cell? ⟨gb321, 0, none⟩ = some (.int .i64 a1_0) := (blk_cell BK321.out 0).trans rfl; have hcz22_1 : w19.cell? ⟨gb321, 1, none⟩ = some (.int .i64 a1_1) := (blk_cell BK321.out 1).trans rfl; have hcz22_2 : w19.cell? ⟨gb321, 2, none⟩ = some (.int .i64 a1_2) := (blk_cell BK321.out 2).trans rfl; have hcz22_3 : w19.cell? ⟨gb321, 3, none⟩ = some (.slice A1_3 l1_3.length c1_3) := (blk_cell BK321.out 3).trans rfl; have hfz22_0 := blk_frozen BK321.out 0; have hfz22_1 := blk_frozen BK321.out 1; have hfz22_2 := blk_frozen BK321.out 2; have hfz22_3 := blk_frozen BK321.out 3))
      go_ret
      exact ⟨by first | rfl | (simp [errW_none, errW_some] <;> rfl) | (simp [*, errW_none, errW_some] <;> rfl), by repeat (first | (with_reducible first | exact HB.out | apply below_alloc | apply pw_below_drewN | apply below_drew1 | refine below_set ?_ GE320.out | refine below_set ?_ GE321.out) | exact HB.out)⟩
  · rw [if_neg c3] at H
    have c3b0 : (a0_0 == a1_0) = false := beq_eq_false_iff_ne.mpr c3
    have c3b1 : (a0_0 != a1_0) = true := bne_iff_ne.mpr c3
    obtain rfl := Option.some.inj H
    go_enter Try.func162, Try.ntmps162
    go_wp2_with (first | ((with_reducible refine gate_dst (N := 2) rfl ?_); refine box_event ?hg (N := 2) ?hd (cs := #[.int .i64 a0_0, .int .i64 a0_1, .int .i64 a0_2, .slice A0_3 l0_3.length c0_3]) (t := 172) ?hr ?_; (case hd => rfl); (case hg => rfl); (case hr => first | (go_simp; done) | (go_simp; rfl)); intro gb320 hg w23 hbox hb; have n0_ := Aside0.mk (below_step (by repeat (first | (with_reducible first | exact HB.out | apply below_alloc | apply pw_below_drewN | apply below_drew1) | exact HB.out)) hb); have n1_ := Aside0.mk (hbox); have n2_ := Aside0.mk ((by rw [hg]; exact (below_size (by repeat (first | (with_reducible first | exact HB.out | apply below_alloc | apply pw_below_drewN | apply below_drew1) | exact HB.out))) : w.heap.size ≤ gb320)); have n3_ := Aside0.mk ((by rw [hg]; exact (below_size (by repeat (first | (with_reducible first | exact HB.out | apply below_alloc | apply pw_below_drewN | apply below_drew1) | exact HB.out))) : w.heap.size ≤ gb320)); clear HB; have HB := n0_; have BK320 := n1_; have GW320 := n2_; have GE320 := n3_; clear n0_ n1_ n2_ n3_; clear hb hbox hg) | ((with_reducible refine gate_dst (N := 3) rfl ?_); refine box_event ?hg (N := 3) ?hd (cs := #[.int .i64 a1_0, .int .i64 a1_1, .int .i64 a1_2, .slice A1_3 l1_3.length c1_3]) (t := 172) ?hr ?_; (case hd => rfl); (case hg => rfl); (case hr => first | (go_simp; done) | (go_simp; rfl)); intro gb321 hg w24 hbox hb; have n0_ := Aside0.mk (blk_below (g := gb320) (o := .cells #[.int .i64 a0_0, .int .i64 a0_1, .int .i64 a0_2, .slice A0_3 l0_3.length c0_3] 172 (0, 0)) (by (with_reducible repeat (first | refine blk_drewN ?_ _ | refine blk_drew ?_ | refine blk_alloc ?_ _)); exact BK320.out) hb); have n1_ := Aside0.mk (below_step (by repeat (first | (with_reducible first | exact HB.out | apply below_alloc | apply pw_below_drewN | apply below_drew1 | refine below_set ?_ GE320.out) | exact HB.out)) hb); have n2_ := Aside0.mk (hbox); have n3_ := Aside0.mk ((by rw [hg]; exact (below_size (by repeat (first | (with_reducible first | exact HB.out | apply below_alloc | apply pw_below_drewN | apply below_drew1 | refine below_set ?_ GE320.out) | exact HB.out))) : w.heap.size ≤ gb321)); have n4_ := Aside0.mk ((by rw [hg]; exact (below_size (by repeat (first | (with_reducible first | exact HB.out | apply below_alloc | apply pw_below_drewN | apply below_drew1 | refine below_set ?_ GE320.out) | exact HB.out))) : w.heap.size ≤ gb321)); have n5_ := Aside0.mk ((by rw [hg]; exact Nat.ne_of_lt (blk_lt (g := gb320) (o := .cells #[.int .i64 a0_0, .int .i64 a0_1, .int .i64 a0_2, .slice A0_3 l0_3.length c0_3] 172 (0, 0)) (by (with_reducible repeat (first | refine blk_drewN ?_ _ | refine blk_drew ?_ | refine blk_alloc ?_ _)); exact BK320.out)) : gb320 ≠ gb321)); have n6_ := Aside0.mk ((by rw [hg]; exact Nat.ne_of_gt (blk_lt (g := gb320) (o := .cells #[.int .i64 a0_0, .int .i64 a0_1, .int .i64 a0_2, .slice A0_3 l0_3.length c0_3] 172 (0, 0)) (by (with_reducible repeat (first | refine blk_drewN ?_ _ | refine blk_drew ?_ | refine blk_alloc ?_ _)); exact BK320.out)) : gb321 ≠ gb320)); clear BK320; clear HB; have BK320 := n0_; have HB := n1_; have BK321 := n2_; have GW321 := n3_; have GE321 := n4_; have NB320_321 := n5_; have NB321_320 := n6_; clear n0_ n1_ n2_ n3_ n4_ n5_ n6_; clear hb hbox hg; have hnb25 := NB320_321.out; have hnc25 := NB321_320.out; have hcz26_0 : w24.cell? ⟨gb320, 0, none⟩ = some (.int .i64 a0_0) := (blk_cell BK320.out 0).trans rfl; have hcz26_1 : w24.cell? ⟨gb320, 1, none⟩ = some (.int .i64 a0_1) := (blk_cell BK320.out 1).trans rfl; have hcz26_2 : w24.cell? ⟨gb320, 2, none⟩ = some (.int .i64 a0_2) := (blk_cell BK320.out 2).trans rfl; have hcz26_3 : w24.cell? ⟨gb320, 3, none⟩ = some (.slice A0_3 l0_3.length c0_3) := (blk_cell BK320.out 3).trans rfl; have hfz26_0 := blk_frozen BK320.out 0; have hfz26_1 := blk_frozen BK320.out 1; have hfz26_2 := blk_frozen BK320.out 2; have hfz26_3 := blk_frozen BK320.out 3; have hcz27_0 : w24.cell? ⟨gb321, 0, none⟩ = some (.int .i64 a1_0) := (blk_cell BK321.out 0).trans rfl; have hcz27_1 : w24.cell? ⟨gb321, 1, none⟩ = some (.int .i64 a1_1) := (blk_cell BK321.out 1).trans rfl; have hcz27_2 : w24.cell? ⟨gb321, 2, none⟩ = some (.int .i64 a1_2) := (blk_cell BK321.out 2).trans rfl; have hcz27_3 : w24.cell? ⟨gb321, 3, none⟩ = some (.slice A1_3 l1_3.length c1_3) := (blk_cell BK321.out 3).trans rfl; have hfz27_0 := blk_frozen BK321.out 0; have hfz27_1 := blk_frozen BK321.out 1; have hfz27_2 := blk_frozen BK321.out 2; have hfz27_3 := blk_frozen BK321.out 3))
    go_ret
    exact ⟨by first | rfl | (simp [errW_none, errW_some] <;> rfl) | (simp [*, errW_none, errW_some] <;> rfl), by repeat (first | (with_reducible first | exact HB.out | apply below_alloc | apply pw_below_drewN | apply below_drew1 | refine below_set ?_ GE320.out | refine below_set ?_ GE321.out) | exact HB.out)⟩
theorem eqF166.both (k : Nat) : eqF166.Stmt k ∧ impl_EqualConds.Stmt k := by
  induction k using Nat.strongRecOn with
  | _ k ih =>
  exact ⟨eqF166.step k (fun m hm => (ih m hm).1) (fun m hm => (ih m hm).2), impl_EqualConds.step k (fun m hm => (ih m hm).1) (fun m hm => (ih m hm).2)⟩
theorem impl_EqualConds.calls (k : Nat) : ∀ (a0_0 : Int) (a0_1 : Int) (a0_2 : Int) (A0_3 : Option Addr) (c0_3 : Nat) (l0_3 : List (S172)) (a1_0 : Int) (a1_1 : Int) (a1_2 : Int) (A1_3 : Option Addr) (c1_3 : Nat) (l1_3 : List (S172)) (r : Bool) (w : World) (hr0_3 : Kd.C k172 w A0_3 l0_3.length l0_3) (hc0_3 : l0_3.length ≤ c0_3) (hr1_3 : Kd.C k172 w A1_3 l1_3.length l1_3) (hc1_3 : l1_3.length ≤ c1_3) (h : impl_EqualConds.f k a0_0 a0_1 a0_2 l0_3 a1_0 a1_1 a1_2 l1_3 = some r),
    Calls Try.prog 162 #[.agg #[.int .i64 a0_0, .int .i64 a0_1, .int .i64 a0_2, .slice A0_3 l0_3.length c0_3], .agg #[.int .i64 a1_0, .int .i64 a1_1, .int .i64 a1_2, .slice A1_3 l1_3.length c1_3]] w fun e w' => e = .returned (.bool r) ∧ Below w.heap.size w w' := (eqF166.both k).2

/-! ### impl_equalRules: function 152 -/
def impl_equalRules.f (k : Nat) (a0_0 : Int) (a0_1 : Int) (a0_2 : Int) (a0_3 : Int) (a0_4 : Int) (a0_5 : Int) (l0_6 : List (S172)) (a1_0 : Int) (a1_1 : Int) (a1_2 : Int) (a1_3 : Int) (a1_4 : Int) (a1_5 : Int) (l1_6 : List (S172)) : Option (Bool) := if a0_0 = a1_0 then (if a0_1 = a1_1 then (if a0_2 = a1_2 then ((impl_EqualConds.f k a0_3 a0_4 a0_5 l0_6 a1_3 a1_4 a1_5 l1_6).bind fun t325 => (some t325)) else (some false)) else (some false)) else (some false)
open Go.Proofs.YtineejdlpcgnkaaM in
set_option maxHeartbeats 8000000 in
set_option maxRecDepth 100000 in
theorem impl_equalRules.calls (k : Nat) (a0_0 : Int) (a0_1 : Int) (a0_2 : Int) (a0_3 : Int) (a0_4 : Int) (a0_5 : Int) (A0_6 : Option Addr) (c0_6 : Nat) (l0_6 : List (S172)) (a1_0 : Int) (a1_1 : Int) (a1_2 : Int) (a1_3 : Int) (a1_4 : Int) (a1_5 : Int) (A1_6 : Option Addr) (c1_6 : Nat) (l1_6 : List (S172)) (r : Bool) (w : World) (hr0_6 : Kd.C k172 w A0_6 l0_6.length l0_6) (hc0_6 : l0_6.length ≤ c0_6) (hr1_6 : Kd.C k172 w A1_6 l1_6.length l1_6) (hc1_6 : l1_6.length ≤ c1_6) (h : impl_equalRules.f k a0_0 a0_1 a0_2 a0_3 a0_4 a0_5 l0_6 a1_0 a1_1 a1_2 a1_3 a1_4 a1_5 l1_6 = some r) :
    Calls Try.prog 152 #[.agg #[.int .i64 a0_0, .int .i64 a0_1, .int .i64 a0_2, .int .i64 a0_3, .int .i64 a0_4, .int .i64 a0_5, .slice A0_6 l0_6.length c0_6], .agg #[.int .i64 a1_0, .int .i64 a1_1, .int .i64 a1_2, .int .i64 a1_3, .int .i64 a1_4, .int .i64 a1_5, .slice A1_6 l1_6.length c1_6]] w fun e w' => e = .returned (.bool r) ∧ Below w.heap.size w w' := by
  have HR0_6 := Aside0.mk hr0_6
  have HC0_6 := Aside0.mk hc0_6
  clear hr0_6 hc0_6
  have HR1_6 := Aside0.mk hr1_6
  have HC1_6 := Aside0.mk hc1_6
  clear hr1_6 hc1_6
  have HB := Aside0.mk (Below.refl w.heap.size w)
  have H := h
  clear h
  unfold impl_equalRules.f at H
  have hu172 := Try.underlying172
  have hu174 := Try.underlying174
  go_enter Try.func152, Try.ntmps152
  replace H := Aside0.mk H
  go_upto_region 1 with (first | ((with_reducible refine gate_dst (N := 2) rfl ?_); refine box_event ?hg (N := 2) ?hd (cs := #[.int .i64 a0_0, .int .i64 a0_1, .int .i64 a0_2, .int .i64 a0_3, .int .i64 a0_4, .int .i64 a0_5, .slice A0_6 l0_6.length c0_6]) (t := 174) ?hr ?_; (case hd => rfl); (case hg => rfl); (case hr => first | (go_simp; done) | (go_simp; rfl)); intro gb1 hg W1 hbox hb; replace HB := bH HB hb; clear hb; have BK1 := Aside0.mk hbox; have c_BK1 := blk_cell hbox; have z_BK1 := blk_frozen hbox; clear hg hbox) | ((with_reducible refine gate_dst (N := 3) rfl ?_); refine box_event ?hg (N := 3) ?hd (cs := #[.int .i64 a1_0, .int .i64 a1_1, .int .i64 a1_2, .int .i64 a1_3, .int .i64 a1_4, .int .i64 a1_5, .slice A1_6 l1_6.length c1_6]) (t := 174) ?hr ?_; (case hd => rfl); (case hg => rfl); (case hr => first | (go_simp; done) | (go_simp; rfl)); intro gb2 hg W2 hbox hb; replace BK1 := bK BK1 hb; replace c_BK1 := blk_cell BK1.out; replace z_BK1 := blk_frozen BK1.out; replace HB := bH HB hb; clear hb; have BK2 := Aside0.mk hbox; have c_BK2 := blk_cell hbox; have z_BK2 := blk_frozen hbox; clear hg hbox))
  replace H := H.out
  by_cases c3 : a0_0 = a1_0
  · rw [if_pos c3] at H
    have c3_0 := decT c3; have c3_1 := eqT c3; have c3_2 := neT c3
    clear c3
    by_cases c4 : a0_1 = a1_1
    · rw [if_pos c4] at H
      have c4_0 := decT c4; have c4_1 := eqT c4; have c4_2 := neT c4
      clear c4
      by_cases c5 : a0_2 = a1_2
      · rw [if_pos c5] at H
        have c5_0 := decT c5; have c5_1 := eqT c5; have c5_2 := neT c5
        clear c5
        obtain ⟨t325, hm, H⟩ := Option.bind_eq_some_iff.mp H
        try dsimp only at H
        replace H := Aside0.mk H
        have hcall := impl_EqualConds.calls k _ _ _ _ _ _ _ _ _ _ _ _ _ W2 (Kd.C_below HR0_6.out HB.out) HC0_6.out (Kd.C_below HR1_6.out HB.out) HC1_6.out hm
        clear hm
        go_wp2_with fail
        refine hcall.mono ?_
        rintro e W6 ⟨rfl, hb⟩
        clear hcall
        replace BK1 := bK BK1 hb; replace c_BK1 := blk_cell BK1.out; replace z_BK1 := blk_frozen BK1.out
        replace BK2 := bK BK2 hb; replace c_BK2 := blk_cell BK2.out; replace z_BK2 := blk_frozen BK2.out
        replace HB := bH HB hb; clear hb
        replace H := H.out
        obtain rfl := Option.some.inj H
        clear H
        go_wp2
        go_ret
        exact ⟨rfl, HB.out⟩
      · rw [if_neg c5] at H
        have c5_0 := decF c5; have c5_1 := eqF c5; have c5_2 := neF c5
        clear c5
        obtain rfl := Option.some.inj H
        clear H
        go_wp2
        go_ret
        exact ⟨rfl, HB.out⟩
    · rw [if_neg c4] at H
      have c4_0 := decF c4; have c4_1 := eqF c4; have c4_2 := neF c4
      clear c4
      obtain rfl := Option.some.inj H
      clear H
      go_wp2
      go_ret
      exact ⟨rfl, HB.out⟩
  · rw [if_neg c3] at H
    have c3_0 := decF c3; have c3_1 := eqF c3; have c3_2 := neF c3
    clear c3
    obtain rfl := Option.some.inj H
    clear H
    go_wp2
    go_ret
    exact ⟨rfl, HB.out⟩

/-! ### eqf151: function 151 -/
set_option maxHeartbeats 8000000 in
set_option maxRecDepth 100000 in
open Go.Proofs.YtineejdlpcgnkaaH in
theorem eqf151.calls (g : Nat) (lb : Array Value) (eg : ∀ args w, (callFunc g args).run Try.prog w = .ok (.enter g args) w) (p : S174 → S174 → Option Bool) (A0 : Option Addr) (c0 : Nat) (l0 : List S174) (A1 : Option Addr) (c1 : Nat) (l1 : List S174) (r : Bool) (w : World)
    (hp : ∀ (W : World) (x y : S174) (E6 : Option Addr) (d6 : Nat) (G6 : Option Addr) (h6 : Nat) (b : Bool), Below w.heap.size w W → (x).f3.f3.length ≤ d6 → Kd.C k172 W E6 (x).f3.f3.length ((x).f3.f3) → (y).f3.f3.length ≤ h6 → Kd.C k172 W G6 (y).f3.f3.length ((y).f3.f3) → p x y = some b → Calls Try.prog g (#[.agg #[.int .i64 ((x).f0), .int .i64 ((x).f1), .int .i64 ((x).f2), .int .i64 ((x).f3.f0), .int .i64 ((x).f3.f1), .int .i64 ((x).f3.f2), .slice E6 (x).f3.f3.length d6], .agg #[.int .i64 ((y).f0), .int .i64 ((y).f1), .int .i64 ((y).f2), .int .i64 ((y).f3.f0), .int .i64 ((y).f3.f1), .int .i64 ((y).f3.f2), .slice G6 (y).f3.f3.length h6]] ++ lb) W fun e w' => e = .returned (.bool b) ∧ Below w.heap.size w w')
    (hr0 : Kd.C k174 w A0 l0.length l0) (hc0 : l0.length ≤ c0) (hr1 : Kd.C k174 w A1 l1.length l1) (hc1 : l1.length ≤ c1) (h : eqO p l0 l1 = some r) :
    Calls Try.prog 151 #[.slice A0 l0.length c0, .slice A1 l1.length c1, .func (.func g) #[] lb] w fun e w' => e = .returned (.bool r) ∧ Below w.heap.size w w' := by
  have hu174 := Try.underlying174
  have HLEN : Aside0 (l0.length ≤ 9223372036854775807) := ⟨hr0.2.1⟩
  have HR0 := Aside0.mk hr0
  have HR1 := Aside0.mk hr1
  have HP := Aside0.mk hp
  unfold eqO at h
  by_cases hl : l0.length = l1.length
  rotate_left
  · rw [if_neg hl] at h
    obtain rfl := Option.some.inj h
    have c1b : (l0.length == l1.length) = false := by simpa using hl
    have c2b : (l0.length != l1.length) = true := by simpa using hl
    have c3b : ((l0.length : Int) == (l1.length : Int)) = false := beq_eq_false_iff_ne.mpr (by omega)
    have c4b : ((l0.length : Int) != (l1.length : Int)) = true := bne_iff_ne.mpr (by omega)
    clear hr0 hc0 hr1 hc1 h hp HP hl eg
    go_enter Try.func151, Try.ntmps151
    go_wp2
    go_ret
    exact ⟨rfl, Below.refl _ _⟩
  · rw [if_pos hl] at h
    have c1b : (l0.length == l1.length) = true := by simpa using hl
    have c2b : (l0.length != l1.length) = false := by simpa using hl
    have c3b : ((l0.length : Int) == (l1.length : Int)) = true := beq_iff_eq.mpr (by omega)
    have c4b : ((l0.length : Int) != (l1.length : Int)) = false := bne_eq_false_iff_eq.mpr (by omega)
    have HL := Aside0.mk hl
    have H' := Aside0.mk (show allO p (l0.drop (0 : Int).toNat) (l1.drop (0 : Int).toNat) = some r from h)
    clear hr0 hc0 hr1 hc1 h hp hl
    go_enter Try.func151, Try.ntmps151
    go_wp2
    go_loopg [17] l0.length (fun gg v17 wr => ∃ x : Int, v17 = .int .i64 x ∧ Aside0 (0 ≤ x ∧ x ≤ l0.length ∧ l0.length - x.toNat ≤ gg) ∧ Aside0 (Below w.heap.size w wr) ∧ Aside0 (allO p (l0.drop x.toNat) (l1.drop x.toNat) = some r))
    case atStart => exact ⟨0, rfl, ⟨by omega, by omega, by omega⟩, ⟨Below.refl _ w⟩, H'⟩
    case round =>
      clear H'
      obtain ⟨x, rfl, HX, BW, HA⟩ := hrel
      by_cases hlt : x < (l0.length : Int)
      · have b1 : decide (x < (l0.length : Int)) = true := decide_eq_true hlt
        have p1 : 0 ≤ x := HX.out.1
        have q1 : x < (l0.length : Int) := hlt
        have q2 : x < (l1.length : Int) := by have := HL.out; omega
        have b2 : decide (x < (l1.length : Int)) = true := decide_eq_true q2
        obtain ⟨b, hb, hf, ht⟩ := allO_at (z := z174) (z' := z174) HA.out p1 q1 q2
        have HB := Aside0.mk hb
        have HQ := Aside0.mk hlt
        clear hb HA
        obtain ⟨ada, E6, d6, ea, ha0, ha1, ha2, ha3, ha4, ha5, ha6, la6, ga6⟩ := at_T174 (Kd.C_below HR0.out BW.out) x p1 q1
        obtain ⟨adb, G6, h6, eb, hb0, hb1, hb2, hb3, hb4, hb5, hb6, lb6, gb6⟩ := at_T174 (Kd.C_below HR1.out BW.out) x p1 q2
        cases ea
        cases eb
        have La6 := Aside0.mk la6; have Ga6 := Aside0.mk ga6; have Lb6 := Aside0.mk lb6; have Gb6 := Aside0.mk gb6; clear la6 ga6 lb6 gb6
        have p1' := eq_true p1
        have q1' := eq_true q1
        have q2' := eq_true q2
        clear p1 q1 q2 hlt
        replace hb0 := cell_kept (.cells #[.int .i64 ((rd_T174 l0 x).f0), .int .i64 ((rd_T174 l0 x).f1), .int .i64 ((rd_T174 l0 x).f2), .int .i64 ((rd_T174 l0 x).f3.f0), .int .i64 ((rd_T174 l0 x).f3.f1), .int .i64 ((rd_T174 l0 x).f3.f2), .slice E6 (rd_T174 l0 x).f3.f3.length d6] 174) hb0
        replace hb1 := cell_kept (.cells #[.int .i64 ((rd_T174 l0 x).f0), .int .i64 ((rd_T174 l0 x).f1), .int .i64 ((rd_T174 l0 x).f2), .int .i64 ((rd_T174 l0 x).f3.f0), .int .i64 ((rd_T174 l0 x).f3.f1), .int .i64 ((rd_T174 l0 x).f3.f2), .slice E6 (rd_T174 l0 x).f3.f3.length d6] 174) hb1
        replace hb2 := cell_kept (.cells #[.int .i64 ((rd_T174 l0 x).f0), .int .i64 ((rd_T174 l0 x).f1), .int .i64 ((rd_T174 l0 x).f2), .int .i64 ((rd_T174 l0 x).f3.f0), .int .i64 ((rd_T174 l0 x).f3.f1), .int .i64 ((rd_T174 l0 x).f3.f2), .slice E6 (rd_T174 l0 x).f3.f3.length d6] 174) hb2
        replace hb3 := cell_kept (.cells #[.int .i64 ((rd_T174 l0 x).f0), .int .i64 ((rd_T174 l0 x).f1), .int .i64 ((rd_T174 l0 x).f2), .int .i64 ((rd_T174 l0 x).f3.f0), .int .i64 ((rd_T174 l0 x).f3.f1), .int .i64 ((rd_T174 l0 x).f3.f2), .slice E6 (rd_T174 l0 x).f3.f3.length d6] 174) hb3
        replace hb4 := cell_kept (.cells #[.int .i64 ((rd_T174 l0 x).f0), .int .i64 ((rd_T174 l0 x).f1), .int .i64 ((rd_T174 l0 x).f2), .int .i64 ((rd_T174 l0 x).f3.f0), .int .i64 ((rd_T174 l0 x).f3.f1), .int .i64 ((rd_T174 l0 x).f3.f2), .slice E6 (rd_T174 l0 x).f3.f3.length d6] 174) hb4
        replace hb5 := cell_kept (.cells #[.int .i64 ((rd_T174 l0 x).f0), .int .i64 ((rd_T174 l0 x).f1), .int .i64 ((rd_T174 l0 x).f2), .int .i64 ((rd_T174 l0 x).f3.f0), .int .i64 ((rd_T174 l0 x).f3.f1), .int .i64 ((rd_T174 l0 x).f3.f2), .slice E6 (rd_T174 l0 x).f3.f3.length d6] 174) hb5
        replace hb6 := cell_kept (.cells #[.int .i64 ((rd_T174 l0 x).f0), .int .i64 ((rd_T174 l0 x).f1), .int .i64 ((rd_T174 l0 x).f2), .int .i64 ((rd_T174 l0 x).f3.f0), .int .i64 ((rd_T174 l0 x).f3.f1), .int .i64 ((rd_T174 l0 x).f3.f2), .slice E6 (rd_T174 l0 x).f3.f3.length d6] 174) hb6
        have hq0 : ((wr.alloc (.cells #[.int .i64 ((rd_T174 l0 x).f0), .int .i64 ((rd_T174 l0 x).f1), .int .i64 ((rd_T174 l0 x).f2), .int .i64 ((rd_T174 l0 x).f3.f0), .int .i64 ((rd_T174 l0 x).f3.f1), .int .i64 ((rd_T174 l0 x).f3.f2), .slice E6 (rd_T174 l0 x).f3.f3.length d6] 174)).alloc (.cells #[.int .i64 ((rd_T174 l1 x).f0), .int .i64 ((rd_T174 l1 x).f1), .int .i64 ((rd_T174 l1 x).f2), .int .i64 ((rd_T174 l1 x).f3.f0), .int .i64 ((rd_T174 l1 x).f3.f1), .int .i64 ((rd_T174 l1 x).f3.f2), .slice G6 (rd_T174 l1 x).f3.f3.length h6] 174)).cell? ⟨wr.heap.size, 0, none⟩ = some (.int .i64 ((rd_T174 l0 x).f0)) := cell_kept _ (cell_made rfl 0 rfl)
        have hq1 : ((wr.alloc (.cells #[.int .i64 ((rd_T174 l0 x).f0), .int .i64 ((rd_T174 l0 x).f1), .int .i64 ((rd_T174 l0 x).f2), .int .i64 ((rd_T174 l0 x).f3.f0), .int .i64 ((rd_T174 l0 x).f3.f1), .int .i64 ((rd_T174 l0 x).f3.f2), .slice E6 (rd_T174 l0 x).f3.f3.length d6] 174)).alloc (.cells #[.int .i64 ((rd_T174 l1 x).f0), .int .i64 ((rd_T174 l1 x).f1), .int .i64 ((rd_T174 l1 x).f2), .int .i64 ((rd_T174 l1 x).f3.f0), .int .i64 ((rd_T174 l1 x).f3.f1), .int .i64 ((rd_T174 l1 x).f3.f2), .slice G6 (rd_T174 l1 x).f3.f3.length h6] 174)).cell? ⟨wr.heap.size, 1, none⟩ = some (.int .i64 ((rd_T174 l0 x).f1)) := cell_kept _ (cell_made rfl 1 rfl)
        have hq2 : ((wr.alloc (.cells #[.int .i64 ((rd_T174 l0 x).f0), .int .i64 ((rd_T174 l0 x).f1), .int .i64 ((rd_T174 l0 x).f2), .int .i64 ((rd_T174 l0 x).f3.f0), .int .i64 ((rd_T174 l0 x).f3.f1), .int .i64 ((rd_T174 l0 x).f3.f2), .slice E6 (rd_T174 l0 x).f3.f3.length d6] 174)).alloc (.cells #[.int .i64 ((rd_T174 l1 x).f0), .int .i64 ((rd_T174 l1 x).f1), .int .i64 ((rd_T174 l1 x).f2), .int .i64 ((rd_T174 l1 x).f3.f0), .int .i64 ((rd_T174 l1 x).f3.f1), .int .i64 ((rd_T174 l1 x).f3.f2), .slice G6 (rd_T174 l1 x).f3.f3.length h6] 174)).cell? ⟨wr.heap.size, 2, none⟩ = some (.int .i64 ((rd_T174 l0 x).f2)) := cell_kept _ (cell_made rfl 2 rfl)
        have hq3 : ((wr.alloc (.cells #[.int .i64 ((rd_T174 l0 x).f0), .int .i64 ((rd_T174 l0 x).f1), .int .i64 ((rd_T174 l0 x).f2), .int .i64 ((rd_T174 l0 x).f3.f0), .int .i64 ((rd_T174 l0 x).f3.f1), .int .i64 ((rd_T174 l0 x).f3.f2), .slice E6 (rd_T174 l0 x).f3.f3.length d6] 174)).alloc (.cells #[.int .i64 ((rd_T174 l1 x).f0), .int .i64 ((rd_T174 l1 x).f1), .int .i64 ((rd_T174 l1 x).f2), .int .i64 ((rd_T174 l1 x).f3.f0), .int .i64 ((rd_T174 l1 x).f3.f1), .int .i64 ((rd_T174 l1 x).f3.f2), .slice G6 (rd_T174 l1 x).f3.f3.length h6] 174)).cell? ⟨wr.heap.size, 3, none⟩ = some (.int .i64 ((rd_T174 l0 x).f3.f0)) := cell_kept _ (cell_made rfl 3 rfl)
        have hq4 : ((wr.alloc (.cells #[.int .i64 ((rd_T174 l0 x).f0), .int .i64 ((rd_T174 l0 x).f1), .int .i64 ((rd_T174 l0 x).f2), .int .i64 ((rd_T174 l0 x).f3.f0), .int .i64 ((rd_T174 l0 x).f3.f1), .int .i64 ((rd_T174 l0 x).f3.f2), .slice E6 (rd_T174 l0 x).f3.f3.length d6] 174)).alloc (.cells #[.int .i64 ((rd_T174 l1 x).f0), .int .i64 ((rd_T174 l1 x).f1), .int .i64 ((rd_T174 l1 x).f2), .int .i64 ((rd_T174 l1 x).f3.f0), .int .i64 ((rd_T174 l1 x).f3.f1), .int .i64 ((rd_T174 l1 x).f3.f2), .slice G6 (rd_T174 l1 x).f3.f3.length h6] 174)).cell? ⟨wr.heap.size, 4, none⟩ = some (.int .i64 ((rd_T174 l0 x).f3.f1)) := cell_kept _ (cell_made rfl 4 rfl)
        have hq5 : ((wr.alloc (.cells #[.int .i64 ((rd_T174 l0 x).f0), .int .i64 ((rd_T174 l0 x).f1), .int .i64 ((rd_T174 l0 x).f2), .int .i64 ((rd_T174 l0 x).f3.f0), .int .i64 ((rd_T174 l0 x).f3.f1), .int .i64 ((rd_T174 l0 x).f3.f2), .slice E6 (rd_T174 l0 x).f3.f3.length d6] 174)).alloc (.cells #[.int .i64 ((rd_T174 l1 x).f0), .int .i64 ((rd_T174 l1 x).f1), .int .i64 ((rd_T174 l1 x).f2), .int .i64 ((rd_T174 l1 x).f3.f0), .int .i64 ((rd_T174 l1 x).f3.f1), .int .i64 ((rd_T174 l1 x).f3.f2), .slice G6 (rd_T174 l1 x).f3.f3.length h6] 174)).cell? ⟨wr.heap.size, 5, none⟩ = some (.int .i64 ((rd_T174 l0 x).f3.f2)) := cell_kept _ (cell_made rfl 5 rfl)
        have hq6 : ((wr.alloc (.cells #[.int .i64 ((rd_T174 l0 x).f0), .int .i64 ((rd_T174 l0 x).f1), .int .i64 ((rd_T174 l0 x).f2), .int .i64 ((rd_T174 l0 x).f3.f0), .int .i64 ((rd_T174 l0 x).f3.f1), .int .i64 ((rd_T174 l0 x).f3.f2), .slice E6 (rd_T174 l0 x).f3.f3.length d6] 174)).alloc (.cells #[.int .i64 ((rd_T174 l1 x).f0), .int .i64 ((rd_T174 l1 x).f1), .int .i64 ((rd_T174 l1 x).f2), .int .i64 ((rd_T174 l1 x).f3.f0), .int .i64 ((rd_T174 l1 x).f3.f1), .int .i64 ((rd_T174 l1 x).f3.f2), .slice G6 (rd_T174 l1 x).f3.f3.length h6] 174)).cell? ⟨wr.heap.size, 6, none⟩ = some (.slice E6 (rd_T174 l0 x).f3.f3.length d6) := cell_kept _ (cell_made rfl 6 rfl)
        have hz0 : ((wr.alloc (.cells #[.int .i64 ((rd_T174 l0 x).f0), .int .i64 ((rd_T174 l0 x).f1), .int .i64 ((rd_T174 l0 x).f2), .int .i64 ((rd_T174 l0 x).f3.f0), .int .i64 ((rd_T174 l0 x).f3.f1), .int .i64 ((rd_T174 l0 x).f3.f2), .slice E6 (rd_T174 l0 x).f3.f3.length d6] 174)).alloc (.cells #[.int .i64 ((rd_T174 l1 x).f0), .int .i64 ((rd_T174 l1 x).f1), .int .i64 ((rd_T174 l1 x).f2), .int .i64 ((rd_T174 l1 x).f3.f0), .int .i64 ((rd_T174 l1 x).f3.f1), .int .i64 ((rd_T174 l1 x).f3.f2), .slice G6 (rd_T174 l1 x).f3.f3.length h6] 174)).cell? ⟨wr.heap.size + 1, 0, none⟩ = some (.int .i64 ((rd_T174 l1 x).f0)) := cell_made (by simp) 0 rfl
        have hz1 : ((wr.alloc (.cells #[.int .i64 ((rd_T174 l0 x).f0), .int .i64 ((rd_T174 l0 x).f1), .int .i64 ((rd_T174 l0 x).f2), .int .i64 ((rd_T174 l0 x).f3.f0), .int .i64 ((rd_T174 l0 x).f3.f1), .int .i64 ((rd_T174 l0 x).f3.f2), .slice E6 (rd_T174 l0 x).f3.f3.length d6] 174)).alloc (.cells #[.int .i64 ((rd_T174 l1 x).f0), .int .i64 ((rd_T174 l1 x).f1), .int .i64 ((rd_T174 l1 x).f2), .int .i64 ((rd_T174 l1 x).f3.f0), .int .i64 ((rd_T174 l1 x).f3.f1), .int .i64 ((rd_T174 l1 x).f3.f2), .slice G6 (rd_T174 l1 x).f3.f3.length h6] 174)).cell? ⟨wr.heap.size + 1, 1, none⟩ = some (.int .i64 ((rd_T174 l1 x).f1)) := cell_made (by simp) 1 rfl
        have hz2 : ((wr.alloc (.cells #[.int .i64 ((rd_T174 l0 x).f0), .int .i64 ((rd_T174 l0 x).f1), .int .i64 ((rd_T174 l0 x).f2), .int .i64 ((rd_T174 l0 x).f3.f0), .int .i64 ((rd_T174 l0 x).f3.f1), .int .i64 ((rd_T174 l0 x).f3.f2), .slice E6 (rd_T174 l0 x).f3.f3.length d6] 174)).alloc (.cells #[.int .i64 ((rd_T174 l1 x).f0), .int .i64 ((rd_T174 l1 x).f1), .int .i64 ((rd_T174 l1 x).f2), .int .i64 ((rd_T174 l1 x).f3.f0), .int .i64 ((rd_T174 l1 x).f3.f1), .int .i64 ((rd_T174 l1 x).f3.f2), .slice G6 (rd_T174 l1 x).f3.f3.length h6] 174)).cell? ⟨wr.heap.size + 1, 2, none⟩ = some (.int .i64 ((rd_T174 l1 x).f2)) := cell_made (by simp) 2 rfl
        have hz3 : ((wr.alloc (.cells #[.int .i64 ((rd_T174 l0 x).f0), .int .i64 ((rd_T174 l0 x).f1), .int .i64 ((rd_T174 l0 x).f2), .int .i64 ((rd_T174 l0 x).f3.f0), .int .i64 ((rd_T174 l0 x).f3.f1), .int .i64 ((rd_T174 l0 x).f3.f2), .slice E6 (rd_T174 l0 x).f3.f3.length d6] 174)).alloc (.cells #[.int .i64 ((rd_T174 l1 x).f0), .int .i64 ((rd_T174 l1 x).f1), .int .i64 ((rd_T174 l1 x).f2), .int .i64 ((rd_T174 l1 x).f3.f0), .int .i64 ((rd_T174 l1 x).f3.f1), .int .i64 ((rd_T174 l1 x).f3.f2), .slice G6 (rd_T174 l1 x).f3.f3.length h6] 174)).cell? ⟨wr.heap.size + 1, 3, none⟩ = some (.int .i64 ((rd_T174 l1 x).f3.f0)) := cell_made (by simp) 3 rfl
        have hz4 : ((wr.alloc (.cells #[.int .i64 ((rd_T174 l0 x).f0), .int .i64 ((rd_T174 l0 x).f1), .int .i64 ((rd_T174 l0 x).f2), .int .i64 ((rd_T174 l0 x).f3.f0), .int .i64 ((rd_T174 l0 x).f3.f1), .int .i64 ((rd_T174 l0 x).f3.f2), .slice E6 (rd_T174 l0 x).f3.f3.length d6] 174)).alloc (.cells #[.int .i64 ((rd_T174 l1 x).f0), .int .i64 ((rd_T174 l1 x).f1), .int .i64 ((rd_T174 l1 x).f2), .int .i64 ((rd_T174 l1 x).f3.f0), .int .i64 ((rd_T174 l1 x).f3.f1), .int .i64 ((rd_T174 l1 x).f3.f2), .slice G6 (rd_T174 l1 x).f3.f3.length h6] 174)).cell? ⟨wr.heap.size + 1, 4, none⟩ = some (.int .i64 ((rd_T174 l1 x).f3.f1)) := cell_made (by simp) 4 rfl
        have hz5 : ((wr.alloc (.cells #[.int .i64 ((rd_T174 l0 x).f0), .int .i64 ((rd_T174 l0 x).f1), .int .i64 ((rd_T174 l0 x).f2), .int .i64 ((rd_T174 l0 x).f3.f0), .int .i64 ((rd_T174 l0 x).f3.f1), .int .i64 ((rd_T174 l0 x).f3.f2), .slice E6 (rd_T174 l0 x).f3.f3.length d6] 174)).alloc (.cells #[.int .i64 ((rd_T174 l1 x).f0), .int .i64 ((rd_T174 l1 x).f1), .int .i64 ((rd_T174 l1 x).f2), .int .i64 ((rd_T174 l1 x).f3.f0), .int .i64 ((rd_T174 l1 x).f3.f1), .int .i64 ((rd_T174 l1 x).f3.f2), .slice G6 (rd_T174 l1 x).f3.f3.length h6] 174)).cell? ⟨wr.heap.size + 1, 5, none⟩ = some (.int .i64 ((rd_T174 l1 x).f3.f2)) := cell_made (by simp) 5 rfl
        have hz6 : ((wr.alloc (.cells #[.int .i64 ((rd_T174 l0 x).f0), .int .i64 ((rd_T174 l0 x).f1), .int .i64 ((rd_T174 l0 x).f2), .int .i64 ((rd_T174 l0 x).f3.f0), .int .i64 ((rd_T174 l0 x).f3.f1), .int .i64 ((rd_T174 l0 x).f3.f2), .slice E6 (rd_T174 l0 x).f3.f3.length d6] 174)).alloc (.cells #[.int .i64 ((rd_T174 l1 x).f0), .int .i64 ((rd_T174 l1 x).f1), .int .i64 ((rd_T174 l1 x).f2), .int .i64 ((rd_T174 l1 x).f3.f0), .int .i64 ((rd_T174 l1 x).f3.f1), .int .i64 ((rd_T174 l1 x).f3.f2), .slice G6 (rd_T174 l1 x).f3.f3.length h6] 174)).cell? ⟨wr.heap.size + 1, 6, none⟩ = some (.slice G6 (rd_T174 l1 x).f3.f3.length h6) := cell_made (by simp) 6 rfl
        have BW2 : Aside0 (Below w.heap.size w ((wr.alloc (.cells #[.int .i64 ((rd_T174 l0 x).f0), .int .i64 ((rd_T174 l0 x).f1), .int .i64 ((rd_T174 l0 x).f2), .int .i64 ((rd_T174 l0 x).f3.f0), .int .i64 ((rd_T174 l0 x).f3.f1), .int .i64 ((rd_T174 l0 x).f3.f2), .slice E6 (rd_T174 l0 x).f3.f3.length d6] 174)).alloc (.cells #[.int .i64 ((rd_T174 l1 x).f0), .int .i64 ((rd_T174 l1 x).f1), .int .i64 ((rd_T174 l1 x).f2), .int .i64 ((rd_T174 l1 x).f3.f0), .int .i64 ((rd_T174 l1 x).f3.f1), .int .i64 ((rd_T174 l1 x).f3.f2), .slice G6 (rd_T174 l1 x).f3.f3.length h6] 174))) := ⟨below_alloc (below_alloc BW.out _) _⟩
        have hcall := HP.out ((wr.alloc (.cells #[.int .i64 ((rd_T174 l0 x).f0), .int .i64 ((rd_T174 l0 x).f1), .int .i64 ((rd_T174 l0 x).f2), .int .i64 ((rd_T174 l0 x).f3.f0), .int .i64 ((rd_T174 l0 x).f3.f1), .int .i64 ((rd_T174 l0 x).f3.f2), .slice E6 (rd_T174 l0 x).f3.f3.length d6] 174)).alloc (.cells #[.int .i64 ((rd_T174 l1 x).f0), .int .i64 ((rd_T174 l1 x).f1), .int .i64 ((rd_T174 l1 x).f2), .int .i64 ((rd_T174 l1 x).f3.f0), .int .i64 ((rd_T174 l1 x).f3.f1), .int .i64 ((rd_T174 l1 x).f3.f2), .slice G6 (rd_T174 l1 x).f3.f3.length h6] 174)) (rd_T174 l0 x) (rd_T174 l1 x) E6 d6 G6 h6 b BW2.out La6.out (Kd.C_alloc (Kd.C_alloc Ga6.out _) _) Lb6.out (Kd.C_alloc (Kd.C_alloc Gb6.out _) _) HB.out
        cases b with
        | false =>
          have HF := Aside0.mk (hf rfl)
          clear hf ht HP HB
          go_wp2_with fail
          refine hcall.mono ?_
          rintro e w' ⟨rfl, hb'⟩
          clear hcall eg ha0 hb0 hq0 hz0 ha1 hb1 hq1 hz1 ha2 hb2 hq2 hz2 ha3 hb3 hq3 hz3 ha4 hb4 hq4 hz4 ha5 hb5 hq5 hz5 ha6 hb6 hq6 hz6
          go_wp2
          go_ret
          exact ⟨by rw [← HF.out]; rfl, hb'⟩
        | true =>
          have HT := Aside0.mk (ht rfl)
          clear hf ht HP HB
          go_wp2_with fail
          refine hcall.mono ?_
          rintro e w' ⟨rfl, hb'⟩
          clear hcall eg ha0 hb0 hq0 hz0 ha1 hb1 hq1 hz1 ha2 hb2 hq2 hz2 ha3 hb3 hq3 hz3 ha4 hb4 hq4 hz4 ha5 hb5 hq5 hz5 ha6 hb6 hq6 hz6
          go_wp2
          have he : wrap64 (x + 1) = x + 1 := wrap_up HX.out.1 HQ.out HLEN.out
          go_roundg (l0.length - (x + 1).toNat)
          case measure => have := HX.out; have := HQ.out; omega
          case rel =>
            refine ⟨x + 1, ?_, ⟨by have := HX.out; omega, by have := HQ.out; omega, Nat.le_refl _⟩, ⟨hb'⟩, HT⟩
            simp [he]
      · have b1 : decide (x < (l0.length : Int)) = false := decide_eq_false hlt
        have HN := Aside0.mk hlt
        clear hlt
        go_wp2
        go_ret
        exact ⟨by rw [← allO_end HA.out HX.out.2.1 (by have := HN.out; omega)]; rfl, BW.out⟩

def eqF151.f (k : Nat) (l0 : List S174) (l1 : List S174) (g : Nat) : Option Bool := if g = 152 then Go.Proofs.YtineejdlpcgnkaaH.eqO (fun x y => impl_equalRules.f k x.f0 x.f1 x.f2 x.f3.f0 x.f3.f1 x.f3.f2 x.f3.f3 y.f0 y.f1 y.f2 y.f3.f0 y.f3.f1 y.f3.f2 y.f3.f3) l0 l1 else none
set_option maxHeartbeats 8000000 in
set_option maxRecDepth 100000 in
theorem eqF151.calls (k : Nat) (A0 : Option Addr) (c0 : Nat) (l0 : List S174) (A1 : Option Addr) (c1 : Nat) (l1 : List S174) (g : Nat) (r : Bool) (w : World) (hr0 : Kd.C k174 w A0 l0.length l0) (hc0 : l0.length ≤ c0) (hr1 : Kd.C k174 w A1 l1.length l1) (hc1 : l1.length ≤ c1) (h : eqF151.f k l0 l1 g = some r) :
    Calls Try.prog 151 #[.slice A0 l0.length c0, .slice A1 l1.length c1, .func (.func g) #[] #[]] w fun e w' => e = .returned (.bool r) ∧ Below w.heap.size w w' := by
  unfold eqF151.f at h
  by_cases hg_ : g = 152
  case neg => rw [if_neg hg_] at h; exact absurd h (by simp)
  rw [if_pos hg_] at h
  subst hg_
  have eg : ∀ args w, (callFunc 152 args).run Try.prog w = .ok (.enter 152 args) w := Go.Proofs.YtineejdlpcgnkaaH.enters Try.func152 (by kernel_rfl) rfl
  exact eqf151.calls 152 #[] eg _ A0 c0 l0 A1 c1 l1 r w (fun W x y E6 d6 G6 h6 b hW a6 b6 u6 v6 hp => (impl_equalRules.calls k  x.f0 x.f1 x.f2 x.f3.f0 x.f3.f1 x.f3.f2 _ _ x.f3.f3 y.f0 y.f1 y.f2 y.f3.f0 y.f3.f1 y.f3.f2 _ _ y.f3.f3 b W b6 a6 v6 u6 hp).mono (fun e w' ⟨he, hb⟩ => ⟨he, hW.trans (hb.mono hW.size)⟩)) hr0 hc0 hr1 hc1 h

/-! ### impl_EqualPolicies: function 122 -/
def impl_EqualPolicies.f (k : Nat) (a0_0 : Int) (l0_1 : List (S174)) (a1_0 : Int) (l1_1 : List (S174)) : Option (Bool) := if a0_0 = a1_0 then ((eqF151.f k l0_1 l1_1 152).bind fun t328 => (some t328)) else (some false)
open Go.Proofs.YtineejdlpcgnkaaM in
set_option maxHeartbeats 8000000 in
set_option maxRecDepth 100000 in
theorem impl_EqualPolicies.calls (k : Nat) (a0_0 : Int) (A0_1 : Option Addr) (c0_1 : Nat) (l0_1 : List (S174)) (a1_0 : Int) (A1_1 : Option Addr) (c1_1 : Nat) (l1_1 : List (S174)) (r : Bool) (w : World) (hr0_1 : Kd.C k174 w A0_1 l0_1.length l0_1) (hc0_1 : l0_1.length ≤ c0_1) (hr1_1 : Kd.C k174 w A1_1 l1_1.length l1_1) (hc1_1 : l1_1.length ≤ c1_1) (h : impl_EqualPolicies.f k a0_0 l0_1 a1_0 l1_1 = some r) :
    Calls Try.prog 122 #[.agg #[.int .i64 a0_0, .slice A0_1 l0_1.length c0_1], .agg #[.int .i64 a1_0, .slice A1_1 l1_1.length c1_1]] w fun e w' => e = .returned (.bool r) ∧ Below w.heap.size w w' := by
  have HR0_1 := Aside0.mk hr0_1
  have HC0_1 := Aside0.mk hc0_1
  clear hr0_1 hc0_1
  have HR1_1 := Aside0.mk hr1_1
  have HC1_1 := Aside0.mk hc1_1
  clear hr1_1 hc1_1
  have HB := Aside0.mk (Below.refl w.heap.size w)
  have H := h
  clear h
  unfold impl_EqualPolicies.f at H
  have hu38 := Try.underlying38
  go_enter Try.func122, Try.ntmps122
  replace H := Aside0.mk H
  go_upto_region 1 with (first | ((with_reducible refine gate_dst (N := 2) rfl ?_); refine box_event ?hg (N := 2) ?hd (cs := #[.int .i64 a0_0, .slice A0_1 l0_1.length c0_1]) (t := 38) ?hr ?_; (case hd => rfl); (case hg => rfl); (case hr => first | (go_simp; done) | (go_simp; rfl)); intro gb1 hg W1 hbox hb; replace HB := bH HB hb; clear hb; have BK1 := Aside0.mk hbox; have c_BK1 := blk_cell hbox; have z_BK1 := blk_frozen hbox; clear hg hbox) | ((with_reducible refine gate_dst (N := 3) rfl ?_); refine box_event ?hg (N := 3) ?hd (cs := #[.int .i64 a1_0, .slice A1_1 l1_1.length c1_1]) (t := 38) ?hr ?_; (case hd => rfl); (case hg => rfl); (case hr => first | (go_simp; done) | (go_simp; rfl)); intro gb2 hg W2 hbox hb; replace BK1 := bK BK1 hb; replace c_BK1 := blk_cell BK1.out; replace z_BK1 := blk_frozen BK1.out; replace HB := bH HB hb; clear hb; have BK2 := Aside0.mk hbox; have c_BK2 := blk_cell hbox; have z_BK2 := blk_frozen hbox; clear hg hbox))
  replace H := H.out
  by_cases c3 : a0_0 = a1_0
  · rw [if_pos c3] at H
    have c3_0 := decT c3; have c3_1 := eqT c3; have c3_2 := neT c3
    clear c3
    obtain ⟨t328, hm, H⟩ := Option.bind_eq_some_iff.mp H
    try dsimp only at H
    replace H := Aside0.mk H
    have hcall := eqF151.calls k _ _ _ _ _ _ _ _ W2 (Kd.C_below HR0_1.out HB.out) HC0_1.out (Kd.C_below HR1_1.out HB.out) HC1_1.out hm
    clear hm
    go_wp2_with fail
    refine hcall.mono ?_
    rintro e W4 ⟨rfl, hb⟩
    clear hcall
    replace BK1 := bK BK1 hb; replace c_BK1 := blk_cell BK1.out; replace z_BK1 := blk_frozen BK1.out
    replace BK2 := bK BK2 hb; replace c_BK2 := blk_cell BK2.out; replace z_BK2 := blk_frozen BK2.out
    replace HB := bH HB hb; clear hb
    replace H := H.out
    obtain rfl := Option.some.inj H
    clear H
    go_wp2
    go_ret
    exact ⟨rfl, HB.out⟩
  · rw [if_neg c3] at H
    have c3_0 := decF c3; have c3_1 := eqF c3; have c3_2 := neF c3
    clear c3
    obtain rfl := Option.some.inj H
    clear H
    go_wp2
    go_ret
    exact ⟨rfl, HB.out⟩

end Go.Proofs.Ytineejdlpcgnkaa.QFnExactEqualPoints
