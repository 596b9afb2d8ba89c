/- The machine side of FnExactEqualCenters: what each function that it reaches computes, and that the machine's call gives just that. -/
import Derived.Test.YtineejdlpcgnkaaQFnExactEqualCentersx0
import Derived.Test.YtineejdlpcgnkaaQFnExactEqualCentersx4
import Derived.Test.YtineejdlpcgnkaaQFnExactEqualCentersx9
import Derived.Test.YtineejdlpcgnkaaQFnExactEqualCentersx10
namespace Go.Proofs.Ytineejdlpcgnkaa.QFnExactEqualCenters
open Go.RowKit Go.Proofs.YtineejdlpcgnkaaW.PrintWords Go.Proofs.YtineejdlpcgnkaaW.PrintLast Go.Proofs.YtineejdlpcgnkaaW.PrintMore
attribute [local go_sem] max2_int min2_int max_two min_two max_three min_three max_four min_four   -- for this text's walks alone
set_option linter.unusedVariables false
set_option linter.unusedSimpArgs false

attribute [local go_sem high] eqA149
/-! ### laws_szCenter: function 32 -/
def laws_szCenter.f (k : Nat) (l0_0 : List (S154)) (l0_1 : List (S27)) (l0_2 : List (S134)) (l0_3 : List (S136)) (a0_4 : Int) (l0_5 : List (S158)) (a1 : Int) : Option (Int) := (laws_szIssuerS.f k l0_0 a1).bind fun t157 => (if t157 < 0 then (some (-1)) else ((laws_szEpochS.f k l0_1 t157).bind fun t158 => (if t158 < 0 then (some (-1)) else ((laws_szFactS.f l0_2 t158).bind fun t159 => (if t159 < 0 then (some (-1)) else ((laws_szRevokedS.f l0_3 t159).bind fun t160 => (if t160 < 0 then (some (-1)) else ((laws_szCertS.f l0_5 t160).bind fun t161 => (if t161 < 0 then (some (-1)) else (some t161))))))))))
set_option maxHeartbeats 8000000 in
set_option maxRecDepth 100000 in
theorem laws_szCenter.calls (k : Nat) (A0_0 : Option Addr) (c0_0 : Nat) (l0_0 : List (S154)) (A0_1 : Option Addr) (c0_1 : Nat) (l0_1 : List (S27)) (A0_2 : Option Addr) (c0_2 : Nat) (l0_2 : List (S134)) (A0_3 : Option Addr) (c0_3 : Nat) (l0_3 : List (S136)) (a0_4 : Int) (A0_5 : Option Addr) (c0_5 : Nat) (l0_5 : List (S158)) (a1 : Int) (r : Int) (w : World) (hr0_0 : Kd.C k154 w A0_0 l0_0.length l0_0) (hc0_0 : l0_0.length ≤ c0_0) (hr0_1 : Kd.C k27 w A0_1 l0_1.length l0_1) (hc0_1 : l0_1.length ≤ c0_1) (hr0_2 : Kd.C k134 w A0_2 l0_2.length l0_2) (hc0_2 : l0_2.length ≤ c0_2) (hr0_3 : Kd.C k136 w A0_3 l0_3.length l0_3) (hc0_3 : l0_3.length ≤ c0_3) (hr0_5 : Kd.C k158 w A0_5 l0_5.length l0_5) (hc0_5 : l0_5.length ≤ c0_5) (h : laws_szCenter.f k l0_0 l0_1 l0_2 l0_3 a0_4 l0_5 a1 = some r) :
    Calls Try.prog 32 #[.agg #[.slice A0_0 l0_0.length c0_0, .slice A0_1 l0_1.length c0_1, .slice A0_2 l0_2.length c0_2, .slice A0_3 l0_3.length c0_3, .int .i64 a0_4, .slice A0_5 l0_5.length c0_5], .int .i64 a1] w fun e w' => e = .returned (.int .i64 r) ∧ Below w.heap.size w w' := by
  have HR0_0 := Aside0.mk hr0_0
  have HC0_0 := Aside0.mk hc0_0
  clear hr0_0 hc0_0
  have HR0_1 := Aside0.mk hr0_1
  have HC0_1 := Aside0.mk hc0_1
  clear hr0_1 hc0_1
  have HR0_2 := Aside0.mk hr0_2
  have HC0_2 := Aside0.mk hc0_2
  clear hr0_2 hc0_2
  have HR0_3 := Aside0.mk hr0_3
  have HC0_3 := Aside0.mk hc0_3
  clear hr0_3 hc0_3
  have HR0_5 := Aside0.mk hr0_5
  have HC0_5 := Aside0.mk hc0_5
  clear hr0_5 hc0_5
  have HB := Aside0.mk (Below.refl w.heap.size w)
  have H := h
  clear h
  unfold laws_szCenter.f at H
  have hu73 := Try.underlying73
  go_enter Try.func32, Try.ntmps32
  have H'' := Aside0.mk H
  clear H
  go_wp2_with (first | ((with_reducible refine gate_dst (N := 2) rfl ?_); refine box_event ?hg (N := 2) ?hd (cs := #[.slice A0_0 l0_0.length c0_0, .slice A0_1 l0_1.length c0_1, .slice A0_2 l0_2.length c0_2, .slice A0_3 l0_3.length c0_3, .int .i64 a0_4, .slice A0_5 l0_5.length c0_5]) (t := 73) ?hr ?_; (case hd => rfl); (case hg => rfl); (case hr => first | (go_simp; done) | (go_simp; rfl)); intro gb1 hg W1 hbox hb; have Z1 := Aside0.mk hb.size; have E1 := Aside0.mk (And.intro hg (blk_lt hbox)); have BK1 := Aside0.mk hbox; have c_BK1 := blk_cell hbox; have z_BK1 := blk_frozen hbox; have hB_ := below_step HB.out hb; clear HB hb hbox hg; have HB := Aside0.mk hB_; clear hB_))
  have H := H''.out
  clear H''
  replace H := Option.bind_eq_some_iff.mp H
  obtain ⟨t157, hm, H⟩ := H
  try dsimp only at H
  have H' := Aside0.mk H
  clear H
  have hcall := laws_szIssuerS.calls k _ _ l0_0 a1 t157 W1 (Kd.C_below HR0_0.out HB.out) HC0_0.out hm
  clear hm
  try go_wp2_with fail
  refine hcall.mono ?_
  rintro e W2 ⟨rfl, hb⟩
  clear hcall
  have Z2 := Aside0.mk hb.size
  have h_ := blk_below BK1.out hb
  clear BK1 c_BK1 z_BK1
  have BK1 := Aside0.mk h_
  have c_BK1 := blk_cell h_
  have z_BK1 := blk_frozen h_
  clear h_
  have hB_ := below_step HB.out hb
  clear HB hb
  have HB := Aside0.mk hB_
  clear hB_
  have H := H'.out
  clear H'
  by_cases c3 : t157 < 0
  · rw [if_pos c3] at H
    have c3_0 : decide (t157 < 0) = true := decide_eq_true c3
    clear c3
    obtain rfl := Option.some.inj H
    clear H
    go_wp2
    go_ret
    exact ⟨rfl, HB.out⟩
  · rw [if_neg c3] at H
    have c3_0 : decide (t157 < 0) = false := decide_eq_false c3
    clear c3
    replace H := Option.bind_eq_some_iff.mp H
    obtain ⟨t158, hm, H⟩ := H
    try dsimp only at H
    have H' := Aside0.mk H
    clear H
    have hcall := laws_szEpochS.calls k _ _ l0_1 t157 t158 W2 (Kd.C_below HR0_1.out HB.out) HC0_1.out hm
    clear hm
    go_wp2_with fail
    refine hcall.mono ?_
    rintro e W4 ⟨rfl, hb⟩
    clear hcall
    have Z4 := Aside0.mk hb.size
    have h_ := blk_below BK1.out hb
    clear BK1 c_BK1 z_BK1
    have BK1 := Aside0.mk h_
    have c_BK1 := blk_cell h_
    have z_BK1 := blk_frozen h_
    clear h_
    have hB_ := below_step HB.out hb
    clear HB hb
    have HB := Aside0.mk hB_
    clear hB_
    have H := H'.out
    clear H'
    by_cases c5 : t158 < 0
    · rw [if_pos c5] at H
      have c5_0 : decide (t158 < 0) = true := decide_eq_true c5
      clear c5
      obtain rfl := Option.some.inj H
      clear H
      go_wp2
      go_ret
      exact ⟨rfl, HB.out⟩
    · rw [if_neg c5] at H
      have c5_0 : decide (t158 < 0) = false := decide_eq_false c5
      clear c5
      replace H := Option.bind_eq_some_iff.mp H
      obtain ⟨t159, hm, H⟩ := H
      try dsimp only at H
      have H' := Aside0.mk H
      clear H
      have hcall := laws_szFactS.calls _ _ l0_2 t158 t159 W4 (Kd.C_below HR0_2.out HB.out) HC0_2.out hm
      clear hm
      go_wp2_with fail
      refine hcall.mono ?_
      rintro e W6 ⟨rfl, hd⟩
      clear hcall
      have hb : Below W4.heap.size W4 W6 := hd.below
      clear hd
      have Z6 := Aside0.mk hb.size
      have h_ := blk_below BK1.out hb
      clear BK1 c_BK1 z_BK1
      have BK1 := Aside0.mk h_
      have c_BK1 := blk_cell h_
      have z_BK1 := blk_frozen h_
      clear h_
      have hB_ := below_step HB.out hb
      clear HB hb
      have HB := Aside0.mk hB_
      clear hB_
      have H := H'.out
      clear H'
      by_cases c7 : t159 < 0
      · rw [if_pos c7] at H
        have c7_0 : decide (t159 < 0) = true := decide_eq_true c7
        clear c7
        obtain rfl := Option.some.inj H
        clear H
        go_wp2
        go_ret
        exact ⟨rfl, HB.out⟩
      · rw [if_neg c7] at H
        have c7_0 : decide (t159 < 0) = false := decide_eq_false c7
        clear c7
        replace H := Option.bind_eq_some_iff.mp H
        obtain ⟨t160, hm, H⟩ := H
        try dsimp only at H
        have H' := Aside0.mk H
        clear H
        have hcall := laws_szRevokedS.calls _ _ l0_3 t159 t160 W6 (Kd.C_below HR0_3.out HB.out) HC0_3.out hm
        clear hm
        go_wp2_with fail
        refine hcall.mono ?_
        rintro e W8 ⟨rfl, hd⟩
        clear hcall
        have hb : Below W6.heap.size W6 W8 := hd.below
        clear hd
        have Z8 := Aside0.mk hb.size
        have h_ := blk_below BK1.out hb
        clear BK1 c_BK1 z_BK1
        have BK1 := Aside0.mk h_
        have c_BK1 := blk_cell h_
        have z_BK1 := blk_frozen h_
        clear h_
        have hB_ := below_step HB.out hb
        clear HB hb
        have HB := Aside0.mk hB_
        clear hB_
        have H := H'.out
        clear H'
        by_cases c9 : t160 < 0
        · rw [if_pos c9] at H
          have c9_0 : decide (t160 < 0) = true := decide_eq_true c9
          clear c9
          obtain rfl := Option.some.inj H
          clear H
          go_wp2
          go_ret
          exact ⟨rfl, HB.out⟩
        · rw [if_neg c9] at H
          have c9_0 : decide (t160 < 0) = false := decide_eq_false c9
          clear c9
          replace H := Option.bind_eq_some_iff.mp H
          obtain ⟨t161, hm, H⟩ := H
          try dsimp only at H
          have H' := Aside0.mk H
          clear H
          have hcall := laws_szCertS.calls _ _ l0_5 t160 t161 W8 (Kd.C_below HR0_5.out HB.out) HC0_5.out hm
          clear hm
          go_wp2_with fail
          refine hcall.mono ?_
          rintro e W10 ⟨rfl, hd⟩
          clear hcall
          have hb : Below W8.heap.size W8 W10 := hd.below
          clear hd
          have Z10 := Aside0.mk hb.size
          have h_ := blk_below BK1.out hb
          clear BK1 c_BK1 z_BK1
          have BK1 := Aside0.mk h_
          have c_BK1 := blk_cell h_
          have z_BK1 := blk_frozen h_
          clear h_
          have hB_ := below_step HB.out hb
          clear HB hb
          have HB := Aside0.mk hB_
          clear hB_
          have H := H'.out
          clear H'
          by_cases c11 : t161 < 0
          · rw [if_pos c11] at H
            have c11_0 : decide (t161 < 0) = true := decide_eq_true c11
            clear c11
            obtain rfl := Option.some.inj H
            clear H
            go_wp2
            go_ret
            exact ⟨rfl, HB.out⟩
          · rw [if_neg c11] at H
            have c11_0 : decide (t161 < 0) = false := decide_eq_false c11
            clear c11
            obtain rfl := Option.some.inj H
            clear H
            go_wp2
            go_ret
            exact ⟨rfl, HB.out⟩

/-! ### spec_l24Pairs: function 119 -/
def spec_l24Pairs.l0 : Nat → List (S149) → List (S149) → Int → Option (Bool)
  | 0, _, _, _ => none
  | k + 1, x0, x1, x5 => if x5 < (x0.length : Int) then (if 0 ≤ x5 then (if x5 < (x1.length : Int) then (if (!(((rd_T149 x0 x5).f0) == ((rd_T149 x1 x5).f0)) || (!(((rd_T149 x0 x5).f1) == ((rd_T149 x1 x5).f1)))) = true then (some false) else (spec_l24Pairs.l0 k x0 x1 (wrap64 (x5 + 1)))) else (none)) else (none)) else (some true)
def spec_l24Pairs.f (k : Nat) (l0 : List (S149)) (l1 : List (S149)) : Option (Bool) := if (l0.length : Int) = (l1.length : Int) then (spec_l24Pairs.l0 k l0 l1 0) else (some false)
open Go.Proofs.YtineejdlpcgnkaaM in
set_option maxHeartbeats 8000000 in
set_option maxRecDepth 100000 in
theorem spec_l24Pairs.calls (k : Nat) (A0 : Option Addr) (c0 : Nat) (l0 : List (S149)) (A1 : Option Addr) (c1 : Nat) (l1 : List (S149)) (r : Bool) (w : World) (hr0 : Kd.C k149 w A0 l0.length l0) (hc0 : l0.length ≤ c0) (hr1 : Kd.C k149 w A1 l1.length l1) (hc1 : l1.length ≤ c1) (h : spec_l24Pairs.f k l0 l1 = some r) :
    Calls Try.prog 119 #[.slice A0 l0.length c0, .slice A1 l1.length c1] w fun e w' => e = .returned (.bool r) ∧ Below w.heap.size w w' := by
  have HR0 := Aside0.mk hr0
  have HC0 := Aside0.mk hc0
  clear hr0 hc0
  have HR1 := Aside0.mk hr1
  have HC1 := Aside0.mk hc1
  clear hr1 hc1
  have HB := Aside0.mk (Below.refl w.heap.size w)
  have H := h
  clear h
  unfold spec_l24Pairs.f at H
  have hu149 := Try.underlying149
  go_enter Try.func119, Try.ntmps119
  by_cases c1 : (l0.length : Int) = (l1.length : Int)
  · rw [if_pos c1] at H
    have c1_x0 : (l0.length == l1.length) = true := by first | simpa using c1 | (simp at c1 ⊢; omega)
    have c1_0 := decT c1; have c1_1 := eqT c1; have c1_2 := neT c1
    clear c1
    first | rw [c1_1] | rw [c1_2] | skip
    replace H := Aside0.mk H
    go_wp2
    go_loopg [5] k (fun kq v5 w' => ∃ (x5_2 : Int), v5 = .int .i64 x5_2 ∧ Aside0 (spec_l24Pairs.l0 kq l0 l1 x5_2 = some r) ∧ Aside0 (kq ≤ k) ∧ Aside0 (Below w.heap.size w w'))
    case atStart => exact ⟨(0), (by first | rfl | (simp; done) | (simp [*]; done)), H, ⟨Nat.le_refl _⟩, HB⟩
    case round =>
      clear H HB 
      try clear c1_x0 c1_0 c1_1 c1_2
      obtain ⟨x5_2, rfl, HA, Hk2, HB⟩ := hrel
      cases gk with
      | zero => exact absurd HA.out (by simp [spec_l24Pairs.l0])
      | succ k2 =>
        have H := HA.out
        clear HA
        simp only [spec_l24Pairs.l0] at H
        by_cases c3 : x5_2 < (l0.length : Int)
        · rw [if_pos c3] at H
          have c3_0 := decT c3
          replace c3 := Aside0.mk c3
          first | rw [c3_0] | skip
          by_cases c4 : 0 ≤ x5_2
          · rw [if_pos c4] at H
            have c4_0 := decT c4
            replace c4 := Aside0.mk c4
            have p162 : 0 ≤ (x5_2 : Int) := (of_decide_eq_true (by assumption))
            have q162 : x5_2 < (l0.length : Int) := (of_decide_eq_true (by assumption))
            obtain ⟨ad162, e162, hx162_0, hx162_1⟩ := at_T149 HR0.out x5_2 p162 q162
            cases e162
            replace hx162_0 := Aside0.mk hx162_0
            have y162_0 := xC HB hx162_0
            replace hx162_1 := Aside0.mk hx162_1
            have y162_1 := xC HB hx162_1
            have r162 := eq_true p162; have s162 := eq_true q162
            replace p162 := Aside0.mk p162; replace q162 := Aside0.mk q162
            by_cases c5 : x5_2 < (l1.length : Int)
            · rw [if_pos c5] at H
              have c5_0 := decT c5
              replace c5 := Aside0.mk c5
              have p163 : 0 ≤ (x5_2 : Int) := (of_decide_eq_true (by assumption))
              have q163 : x5_2 < (l1.length : Int) := (of_decide_eq_true (by assumption))
              obtain ⟨ad163, e163, hx163_0, hx163_1⟩ := at_T149 HR1.out x5_2 p163 q163
              cases e163
              replace hx163_0 := Aside0.mk hx163_0
              have y163_0 := xC HB hx163_0
              replace hx163_1 := Aside0.mk hx163_1
              have y163_1 := xC HB hx163_1
              have r163 := eq_true p163; have s163 := eq_true q163
              replace p163 := Aside0.mk p163; replace q163 := Aside0.mk q163
              replace H := Aside0.mk H
              try go_wp2
              go_quiet (fail)
              try clear y162_0 y162_1 y163_0 y163_1
              replace HB := qH HB nq
              generalize wr.drewN nq = W6 at HB ⊢
              clear nq
              replace H := H.out
              by_cases c7 : (!(((rd_T149 l0 x5_2).f0) == ((rd_T149 l1 x5_2).f0)) || (!(((rd_T149 l0 x5_2).f1) == ((rd_T149 l1 x5_2).f1)))) = true
              · rw [if_pos c7] at H
                try rw [c7]
                obtain rfl := Option.some.inj H
                clear H
                go_wp2
                go_ret
                exact ⟨rfl, HB.out⟩
              · rw [if_neg c7] at H
                replace c7 := (Bool.not_eq_true _).mp c7
                try rw [c7]
                replace H := Aside0.mk H
                go_wp2
                go_roundg k2
                case measure => have := Hk2.out; omega
                case rel => exact ⟨(wrap64 (x5_2 + 1)), (by first | rfl | (simp; done) | (simp [*]; done)), H, ⟨by have := Hk2.out; omega⟩, HB⟩
            · rw [if_neg c5] at H
              cases H
          · rw [if_neg c4] at H
            cases H
        · rw [if_neg c3] at H
          have c3_0 := decF c3
          replace c3 := Aside0.mk c3
          first | rw [c3_0] | skip
          obtain rfl := Option.some.inj H
          clear H
          go_wp2
          go_ret
          exact ⟨rfl, HB.out⟩
  · rw [if_neg c1] at H
    have c1_x0 : (l0.length == l1.length) = false := by first | simpa using c1 | (simp at c1 ⊢; omega)
    have c1_0 := decF c1; have c1_1 := eqF c1; have c1_2 := neF c1
    clear c1
    first | rw [c1_1] | rw [c1_2] | skip
    obtain rfl := Option.some.inj H
    clear H
    go_wp2
    go_ret
    exact ⟨rfl, HB.out⟩

/-! ### spec_EqualConds: function 150 -/
mutual
def spec_EqualConds.l0 : Nat → Int → Int → Int → Int → List (S172) → Int → Int → Int → List (S172) → Option (Bool)
  | 0, _, _, _, _, _, _, _, _, _ => none
  | k + 1, x5, x165000, x165001, x165002, x165003, x166000, x166001, x166002, x166003 => if x5 < (x165003.length : Int) then (if 0 ≤ x5 then (if x5 < (x166003.length : Int) then ((spec_EqualConds.f k ((rd_T172 x165003 x5).f0) ((rd_T172 x165003 x5).f1) ((rd_T172 x165003 x5).f2) ((rd_T172 x165003 x5).f3) ((rd_T172 x166003 x5).f0) ((rd_T172 x166003 x5).f1) ((rd_T172 x166003 x5).f2) ((rd_T172 x166003 x5).f3)).bind fun t168 => (if t168 = true then (spec_EqualConds.l0 k (wrap64 (x5 + 1)) x165000 x165001 x165002 x165003 x166000 x166001 x166002 x166003) else (some false))) else (none)) else (none)) else (some true)
def spec_EqualConds.f : Nat → Int → Int → Int → List (S172) → Int → Int → Int → List (S172) → Option (Bool)
  | 0, _, _, _, _, _, _, _, _ => none
  | k + 1, a0_0, a0_1, a0_2, l0_3, a1_0, a1_1, a1_2, l1_3 => if a0_0 = a1_0 then (if a0_1 = a1_1 then (if a0_2 = a1_2 then (if (l0_3.length : Int) = (l1_3.length : Int) then (spec_EqualConds.l0 k 0 a0_0 a0_1 a0_2 l0_3 a1_0 a1_1 a1_2 l1_3) else (some false)) else (some false)) else (some false)) else (some false)
end
open Go.Proofs.YtineejdlpcgnkaaM in
set_option maxHeartbeats 8000000 in
set_option maxRecDepth 100000 in
theorem spec_EqualConds.calls (k : Nat) : ∀ (a0_0 : Int) (a0_1 : Int) (a0_2 : Int) (A0_3 : Option Addr) (c0_3 : Nat) (l0_3 : List (S172)) (a1_0 : Int) (a1_1 : Int) (a1_2 : Int) (A1_3 : Option Addr) (c1_3 : Nat) (l1_3 : List (S172)) (r : Bool) (w : World) (hr0_3 : Kd.C k172 w A0_3 l0_3.length l0_3) (hc0_3 : l0_3.length ≤ c0_3) (hr1_3 : Kd.C k172 w A1_3 l1_3.length l1_3) (hc1_3 : l1_3.length ≤ c1_3) (h : spec_EqualConds.f k a0_0 a0_1 a0_2 l0_3 a1_0 a1_1 a1_2 l1_3 = some r),
    Calls Try.prog 150 #[.agg #[.int .i64 a0_0, .int .i64 a0_1, .int .i64 a0_2, .slice A0_3 l0_3.length c0_3], .agg #[.int .i64 a1_0, .int .i64 a1_1, .int .i64 a1_2, .slice A1_3 l1_3.length c1_3]] w fun e w' => e = .returned (.bool r) ∧ Below w.heap.size w w' := by
  induction k using Nat.strongRecOn with
  | _ k ih =>
  intro a0_0 a0_1 a0_2 A0_3 c0_3 l0_3 a1_0 a1_1 a1_2 A1_3 c1_3 l1_3 r w hr0_3 hc0_3 hr1_3 hc1_3 h
  cases k with
  | zero => exact absurd h (by simp [spec_EqualConds.f])
  | succ k =>
  simp only [spec_EqualConds.f] at h
  have HR0_3 := Aside0.mk hr0_3
  have HC0_3 := Aside0.mk hc0_3
  clear hr0_3 hc0_3
  have HR1_3 := Aside0.mk hr1_3
  have HC1_3 := Aside0.mk hc1_3
  clear hr1_3 hc1_3
  have HB := Aside0.mk (Below.refl w.heap.size w)
  have H := h
  clear h
  have hu172 := Try.underlying172
  go_enter Try.func150, Try.ntmps150
  replace H := Aside0.mk H
  go_upto_region 1 with (first | ((with_reducible refine gate_dst (N := 2) rfl ?_); refine box_event ?hg (N := 2) ?hd (cs := #[.int .i64 a0_0, .int .i64 a0_1, .int .i64 a0_2, .slice A0_3 l0_3.length c0_3]) (t := 172) ?hr ?_; (case hd => rfl); (case hg => rfl); (case hr => first | (go_simp; done) | (go_simp; rfl)); intro gb1 hg W1 hbox hb; replace HB := bH HB hb; clear hb; have BK1 := Aside0.mk hbox; have c_BK1 := blk_cell hbox; have z_BK1 := blk_frozen hbox; clear hg hbox) | ((with_reducible refine gate_dst (N := 3) rfl ?_); refine box_event ?hg (N := 3) ?hd (cs := #[.int .i64 a1_0, .int .i64 a1_1, .int .i64 a1_2, .slice A1_3 l1_3.length c1_3]) (t := 172) ?hr ?_; (case hd => rfl); (case hg => rfl); (case hr => first | (go_simp; done) | (go_simp; rfl)); intro gb2 hg W2 hbox hb; replace BK1 := bK BK1 hb; replace c_BK1 := blk_cell BK1.out; replace z_BK1 := blk_frozen BK1.out; replace HB := bH HB hb; clear hb; have BK2 := Aside0.mk hbox; have c_BK2 := blk_cell hbox; have z_BK2 := blk_frozen hbox; clear hg hbox))
  replace H := H.out
  by_cases c3 : a0_0 = a1_0
  · rw [if_pos c3] at H
    have c3_0 := decT c3; have c3_1 := eqT c3; have c3_2 := neT c3
    clear c3
    first | rw [c3_1] | rw [c3_2] | skip
    by_cases c4 : a0_1 = a1_1
    · rw [if_pos c4] at H
      have c4_0 := decT c4; have c4_1 := eqT c4; have c4_2 := neT c4
      clear c4
      first | rw [c4_1] | rw [c4_2] | skip
      by_cases c5 : a0_2 = a1_2
      · rw [if_pos c5] at H
        have c5_0 := decT c5; have c5_1 := eqT c5; have c5_2 := neT c5
        clear c5
        first | rw [c5_1] | rw [c5_2] | skip
        by_cases c6 : (l0_3.length : Int) = (l1_3.length : Int)
        · rw [if_pos c6] at H
          have c6_x0 : (l0_3.length == l1_3.length) = true := by first | simpa using c6 | (simp at c6 ⊢; omega)
          have c6_0 := decT c6; have c6_1 := eqT c6; have c6_2 := neT c6
          clear c6
          first | rw [c6_1] | rw [c6_2] | skip
          replace H := Aside0.mk H
          go_wp2
          go_loopg [5] k (fun kq v5 w' => ∃ (x5_7 : Int), v5 = .int .i64 x5_7 ∧ Aside0 (spec_EqualConds.l0 kq x5_7 a0_0 a0_1 a0_2 l0_3 a1_0 a1_1 a1_2 l1_3 = some r) ∧ Aside0 (kq ≤ k) ∧ Aside0 (w'.heap[gb1]? = some (.cells #[.int .i64 a0_0, .int .i64 a0_1, .int .i64 a0_2, .slice A0_3 l0_3.length c0_3] 172 (0, 0))) ∧ Aside0 (w'.heap[gb2]? = some (.cells #[.int .i64 a1_0, .int .i64 a1_1, .int .i64 a1_2, .slice A1_3 l1_3.length c1_3] 172 (0, 0))) ∧ Aside0 (Below w.heap.size w w'))
          case atStart => exact ⟨(0), (by first | rfl | (simp; done) | (simp [*]; done)), H, ⟨Nat.le_refl _⟩, BK1, BK2, HB⟩
          case round =>
            clear H HB BK1 c_BK1 z_BK1 BK2 c_BK2 z_BK2
            try clear c3_0 c3_1 c3_2 c4_0 c4_1 c4_2 c5_0 c5_1 c5_2 c6_x0 c6_0 c6_1
            try clear c6_2
            obtain ⟨x5_7, rfl, HA, Hk7, BK1, BK2, HB⟩ := hrel
            have c_BK1 := blk_cell BK1.out; have z_BK1 := blk_frozen BK1.out
            have c_BK2 := blk_cell BK2.out; have z_BK2 := blk_frozen BK2.out
            cases gk with
            | zero => exact absurd HA.out (by simp [spec_EqualConds.l0])
            | succ k7 =>
              have H := HA.out
              clear HA
              simp only [spec_EqualConds.l0] at H
              by_cases c8 : x5_7 < (l0_3.length : Int)
              · rw [if_pos c8] at H
                have c8_0 := decT c8
                replace c8 := Aside0.mk c8
                first | rw [c8_0] | skip
                by_cases c9 : 0 ≤ x5_7
                · rw [if_pos c9] at H
                  have c9_0 := decT c9
                  replace c9 := Aside0.mk c9
                  have p166 : 0 ≤ (x5_7 : Int) := (of_decide_eq_true (by assumption))
                  have q166 : x5_7 < (l0_3.length : Int) := (of_decide_eq_true (by assumption))
                  obtain ⟨ad166, A166_3, c166_3, e166, hx166_0, hx166_1, hx166_2, hx166_3, hl166_3, hi166_3⟩ := at_T172 HR0_3.out x5_7 p166 q166
                  cases e166
                  have HR166_3 := Aside0.mk hi166_3; have HC166_3 := Aside0.mk hl166_3; clear hi166_3 hl166_3
                  replace hx166_0 := Aside0.mk hx166_0
                  replace hx166_1 := Aside0.mk hx166_1
                  replace hx166_2 := Aside0.mk hx166_2
                  replace hx166_3 := Aside0.mk hx166_3
                  have r166 := eq_true p166; have s166 := eq_true q166
                  replace p166 := Aside0.mk p166; replace q166 := Aside0.mk q166
                  by_cases c10 : x5_7 < (l1_3.length : Int)
                  · rw [if_pos c10] at H
                    have c10_0 := decT c10
                    replace c10 := Aside0.mk c10
                    have p167 : 0 ≤ (x5_7 : Int) := (of_decide_eq_true (by assumption))
                    have q167 : x5_7 < (l1_3.length : Int) := (of_decide_eq_true (by assumption))
                    obtain ⟨ad167, A167_3, c167_3, e167, hx167_0, hx167_1, hx167_2, hx167_3, hl167_3, hi167_3⟩ := at_T172 HR1_3.out x5_7 p167 q167
                    cases e167
                    have HR167_3 := Aside0.mk hi167_3; have HC167_3 := Aside0.mk hl167_3; clear hi167_3 hl167_3
                    replace hx167_0 := Aside0.mk hx167_0
                    replace hx167_1 := Aside0.mk hx167_1
                    replace hx167_2 := Aside0.mk hx167_2
                    replace hx167_3 := Aside0.mk hx167_3
                    have r167 := eq_true p167; have s167 := eq_true q167
                    replace p167 := Aside0.mk p167; replace q167 := Aside0.mk q167
                    replace H := Option.bind_eq_some_iff.mp H
                    obtain ⟨t168, hm, H⟩ := H
                    try dsimp only at H
                    have HM11 := Aside0.mk hm
                    clear hm
                    replace H := Aside0.mk H
                    try go_wp2
                    clear c_BK1 z_BK1; replace BK1 := dK BK1
                    clear c_BK2 z_BK2; replace BK2 := dK BK2
                    replace HB := dH HB
                    refine start_ (n := 12) (S := fun w' => w'.cell? ⟨gb1, 0, none⟩ = some (.int .i64 a0_0) ∧ w'.cell? ⟨gb1, 1, none⟩ = some (.int .i64 a0_1) ∧ w'.cell? ⟨gb1, 2, none⟩ = some (.int .i64 a0_2) ∧ w'.cell? ⟨gb1, 3, none⟩ = some (.slice (some ad166) l0_3.length c0_3) ∧ w'.cell? ⟨gb2, 0, none⟩ = some (.int .i64 a1_0) ∧ w'.cell? ⟨gb2, 1, none⟩ = some (.int .i64 a1_1) ∧ w'.cell? ⟨gb2, 2, none⟩ = some (.int .i64 a1_2) ∧ w'.cell? ⟨gb2, 3, none⟩ = some (.slice (some ad167) l1_3.length c1_3) ∧ w'.cell? (ad166.add ((x5_7).toNat * 4)) = some (.int .i64 ((rd_T172 l0_3 x5_7).f0)) ∧ w'.cell? ⟨(ad166.add ((x5_7).toNat * 4)).block, (ad166.add ((x5_7).toNat * 4)).off + 1, none⟩ = some (.int .i64 ((rd_T172 l0_3 x5_7).f1)) ∧ w'.cell? ⟨(ad166.add ((x5_7).toNat * 4)).block, (ad166.add ((x5_7).toNat * 4)).off + 2, none⟩ = some (.int .i64 ((rd_T172 l0_3 x5_7).f2)) ∧ w'.cell? ⟨(ad166.add ((x5_7).toNat * 4)).block, (ad166.add ((x5_7).toNat * 4)).off + 3, none⟩ = some (.slice A166_3 (rd_T172 l0_3 x5_7).f3.length c166_3) ∧ w'.cell? (ad167.add ((x5_7).toNat * 4)) = some (.int .i64 ((rd_T172 l1_3 x5_7).f0)) ∧ w'.cell? ⟨(ad167.add ((x5_7).toNat * 4)).block, (ad167.add ((x5_7).toNat * 4)).off + 1, none⟩ = some (.int .i64 ((rd_T172 l1_3 x5_7).f1)) ∧ w'.cell? ⟨(ad167.add ((x5_7).toNat * 4)).block, (ad167.add ((x5_7).toNat * 4)).off + 2, none⟩ = some (.int .i64 ((rd_T172 l1_3 x5_7).f2)) ∧ w'.cell? ⟨(ad167.add ((x5_7).toNat * 4)).block, (ad167.add ((x5_7).toNat * 4)).off + 3, none⟩ = some (.slice A167_3 (rd_T172 l1_3 x5_7).f3.length c167_3)) (ds := []) #[false, false, false, false, false, false, false, false, false, false, false, false] (by kernel_rfl) rfl rfl ⟨(blk_cell BK1.out 0).trans rfl, (blk_cell BK1.out 1).trans rfl, (blk_cell BK1.out 2).trans rfl, (blk_cell BK1.out 3).trans rfl, (blk_cell BK2.out 0).trans rfl, (blk_cell BK2.out 1).trans rfl, (blk_cell BK2.out 2).trans rfl, (blk_cell BK2.out 3).trans rfl, xC HB hx166_0, xC HB hx166_1, xC HB hx166_2, xC HB hx166_3, xC HB hx167_0, xC HB hx167_1, xC HB hx167_2, xC HB hx167_3⟩ (fun hHeld => ?_)
                    generalize wr.drew = W12 at HB BK1 BK2 hHeld ⊢
                    have c_BK1 := blk_cell BK1.out; have z_BK1 := blk_frozen BK1.out
                    have c_BK2 := blk_cell BK2.out; have z_BK2 := blk_frozen BK2.out
                    refine pu 0 (some 41) 1 ?_; refine pu 2 (some 43) 5 ?_; refine pu 5 (some 46) 37 ?_; refine pu 7 (some 48) 165 ?_; refine ld 1 (some 42) 167 hHeld ?_; refine pu 3 (some 44) 175 ?_; refine ld 4 (some 45) 191 hHeld ?_; refine ld 6 (some 47) 255 hHeld ?_; refine pu 8 (some 49) 511 ?_; refine ld 9 (some 50) 1023 hHeld ?_
                    refine one_ (i := 10) (N := some 51) #[true, true, true, true, true, true, true, true, true, true, true, false] rfl rfl (by kernel_rfl) (by decide) (fun K hK => ?_)
                    have hcall := ih k7 (by have := Hk7.out; omega) _ _ _ _ _ _ _ _ _ _ _ _ _ W12 (Kd.C_below HR166_3.out HB.out) HC166_3.out (Kd.C_below HR167_3.out HB.out) HC167_3.out HM11.out
                    refine goes_ Try.func150 (by kernel_rfl) rfl #[.agg #[.int .i64 ((rd_T172 l0_3 x5_7).f0), .int .i64 ((rd_T172 l0_3 x5_7).f1), .int .i64 ((rd_T172 l0_3 x5_7).f2), .slice A166_3 ((rd_T172 l0_3 x5_7).f3).length c166_3], .agg #[.int .i64 ((rd_T172 l1_3 x5_7).f0), .int .i64 ((rd_T172 l1_3 x5_7).f1), .int .i64 ((rd_T172 l1_3 x5_7).f2), .slice A167_3 ((rd_T172 l1_3 x5_7).f3).length c167_3]] (by rfl) rfl rfl (by (try simp only [List.map_toArray, List.map_cons, List.map_nil]); first | done | rfl) ?_
                    refine hcall.mono ?_
                    rintro e W13 ⟨rfl, hb⟩
                    refine ⟨_, rfl, ?_⟩
                    clear hcall
                    replace BK1 := bK BK1 hb; replace c_BK1 := blk_cell BK1.out; replace z_BK1 := blk_frozen BK1.out
                    replace BK2 := bK BK2 hb; replace c_BK2 := blk_cell BK2.out; replace z_BK2 := blk_frozen BK2.out
                    replace HB := bH HB hb; clear hb
                    refine hK.out _ _ ⟨(blk_cell BK1.out 0).trans rfl, (blk_cell BK1.out 1).trans rfl, (blk_cell BK1.out 2).trans rfl, (blk_cell BK1.out 3).trans rfl, (blk_cell BK2.out 0).trans rfl, (blk_cell BK2.out 1).trans rfl, (blk_cell BK2.out 2).trans rfl, (blk_cell BK2.out 3).trans rfl, xC HB hx166_0, xC HB hx166_1, xC HB hx166_2, xC HB hx166_3, xC HB hx167_0, xC HB hx167_1, xC HB hx167_2, xC HB hx167_3⟩ (fun hHeld => ?_)
                    clear hK K
                    refine norm_ (a' := ?_) ?_ ?_
                    rotate_left
                    · show Act.put _ (some 51) _ = _
                      simp only [Act.put, List.setIfInBounds_toArray, List.set_cons_zero, List.set_cons_succ, i64_w, i32_w]
                      rfl
                    refine pu 11 (some 52) 4095 ?_
                    refine done_ (by kernel_rfl) ?_
                    clear hHeld
                    replace H := H.out
                    by_cases c14 : t168 = true
                    · rw [if_pos c14] at H
                      subst c14
                      replace H := Aside0.mk H
                      go_wp2
                      go_roundg k7
                      case measure => have := Hk7.out; omega
                      case rel => exact ⟨(wrap64 (x5_7 + 1)), (by first | rfl | (simp; done) | (simp [*]; done)), H, ⟨by have := Hk7.out; omega⟩, BK1, BK2, HB⟩
                    · rw [if_neg c14] at H
                      replace c14 := (Bool.not_eq_true _).mp c14
                      subst c14
                      obtain rfl := Option.some.inj H
                      clear H
                      go_wp2
                      go_ret
                      exact ⟨rfl, HB.out⟩
                  · rw [if_neg c10] at H
                    cases H
                · rw [if_neg c9] at H
                  cases H
              · rw [if_neg c8] at H
                have c8_0 := decF c8
                replace c8 := Aside0.mk c8
                first | rw [c8_0] | skip
                obtain rfl := Option.some.inj H
                clear H
                go_wp2
                go_ret
                exact ⟨rfl, HB.out⟩
        · rw [if_neg c6] at H
          have c6_x0 : (l0_3.length == l1_3.length) = false := by first | simpa using c6 | (simp at c6 ⊢; omega)
          have c6_0 := decF c6; have c6_1 := eqF c6; have c6_2 := neF c6
          clear c6
          first | rw [c6_1] | rw [c6_2] | skip
          obtain rfl := Option.some.inj H
          clear H
          go_wp2
          go_ret
          exact ⟨rfl, HB.out⟩
      · rw [if_neg c5] at H
        have c5_0 := decF c5; have c5_1 := eqF c5; have c5_2 := neF c5
        clear c5
        first | rw [c5_1] | rw [c5_2] | skip
        obtain rfl := Option.some.inj H
        clear H
        go_wp2
        go_ret
        exact ⟨rfl, HB.out⟩
    · rw [if_neg c4] at H
      have c4_0 := decF c4; have c4_1 := eqF c4; have c4_2 := neF c4
      clear c4
      first | rw [c4_1] | rw [c4_2] | skip
      obtain rfl := Option.some.inj H
      clear H
      go_wp2
      go_ret
      exact ⟨rfl, HB.out⟩
  · rw [if_neg c3] at H
    have c3_0 := decF c3; have c3_1 := eqF c3; have c3_2 := neF c3
    clear c3
    first | rw [c3_1] | rw [c3_2] | skip
    obtain rfl := Option.some.inj H
    clear H
    go_wp2
    go_ret
    exact ⟨rfl, HB.out⟩

/-! ### spec_EqualPolicies: function 120 -/
def spec_EqualPolicies.l0 : Nat → Int → Int → List (S174) → Int → List (S174) → Option (Bool)
  | 0, _, _, _, _, _ => none
  | k + 1, x5, x170000, x170001, x171000, x171001 => if x5 < (x170001.length : Int) then (if 0 ≤ x5 then (if x5 < (x171001.length : Int) then (if ((rd_T174 x170001 x5).f0) = ((rd_T174 x171001 x5).f0) then (if ((rd_T174 x170001 x5).f1) = ((rd_T174 x171001 x5).f1) then (if ((rd_T174 x170001 x5).f2) = ((rd_T174 x171001 x5).f2) then ((spec_EqualConds.f k ((rd_T174 x170001 x5).f3.f0) ((rd_T174 x170001 x5).f3.f1) ((rd_T174 x170001 x5).f3.f2) ((rd_T174 x170001 x5).f3.f3) ((rd_T174 x171001 x5).f3.f0) ((rd_T174 x171001 x5).f3.f1) ((rd_T174 x171001 x5).f3.f2) ((rd_T174 x171001 x5).f3.f3)).bind fun t175 => (if t175 = true then (spec_EqualPolicies.l0 k (wrap64 (x5 + 1)) x170000 x170001 x171000 x171001) else (some false))) else (some false)) else (some false)) else (some false)) else (none)) else (none)) else (some true)
def spec_EqualPolicies.f (k : Nat) (a0_0 : Int) (l0_1 : List (S174)) (a1_0 : Int) (l1_1 : List (S174)) : Option (Bool) := if a0_0 = a1_0 then (if (l0_1.length : Int) = (l1_1.length : Int) then (spec_EqualPolicies.l0 k 0 a0_0 l0_1 a1_0 l1_1) else (some false)) else (some false)
open Go.Proofs.YtineejdlpcgnkaaM in
set_option maxHeartbeats 8000000 in
set_option maxRecDepth 100000 in
theorem spec_EqualPolicies.calls (k : Nat) (a0_0 : Int) (A0_1 : Option Addr) (c0_1 : Nat) (l0_1 : List (S174)) (a1_0 : Int) (A1_1 : Option Addr) (c1_1 : Nat) (l1_1 : List (S174)) (r : Bool) (w : World) (hr0_1 : Kd.C k174 w A0_1 l0_1.length l0_1) (hc0_1 : l0_1.length ≤ c0_1) (hr1_1 : Kd.C k174 w A1_1 l1_1.length l1_1) (hc1_1 : l1_1.length ≤ c1_1) (h : spec_EqualPolicies.f k a0_0 l0_1 a1_0 l1_1 = some r) :
    Calls Try.prog 120 #[.agg #[.int .i64 a0_0, .slice A0_1 l0_1.length c0_1], .agg #[.int .i64 a1_0, .slice A1_1 l1_1.length c1_1]] w fun e w' => e = .returned (.bool r) ∧ Below w.heap.size w w' := by
  have HR0_1 := Aside0.mk hr0_1
  have HC0_1 := Aside0.mk hc0_1
  clear hr0_1 hc0_1
  have HR1_1 := Aside0.mk hr1_1
  have HC1_1 := Aside0.mk hc1_1
  clear hr1_1 hc1_1
  have HB := Aside0.mk (Below.refl w.heap.size w)
  have H := h
  clear h
  unfold spec_EqualPolicies.f at H
  have hu38 := Try.underlying38
  have hu172 := Try.underlying172
  have hu174 := Try.underlying174
  go_enter Try.func120, Try.ntmps120
  replace H := Aside0.mk H
  go_upto_region 1 with (first | ((with_reducible refine gate_dst (N := 2) rfl ?_); refine box_event ?hg (N := 2) ?hd (cs := #[.int .i64 a0_0, .slice A0_1 l0_1.length c0_1]) (t := 38) ?hr ?_; (case hd => rfl); (case hg => rfl); (case hr => first | (go_simp; done) | (go_simp; rfl)); intro gb1 hg W1 hbox hb; replace HB := bH HB hb; clear hb; have BK1 := Aside0.mk hbox; have c_BK1 := blk_cell hbox; have z_BK1 := blk_frozen hbox; clear hg hbox) | ((with_reducible refine gate_dst (N := 3) rfl ?_); refine box_event ?hg (N := 3) ?hd (cs := #[.int .i64 a1_0, .slice A1_1 l1_1.length c1_1]) (t := 38) ?hr ?_; (case hd => rfl); (case hg => rfl); (case hr => first | (go_simp; done) | (go_simp; rfl)); intro gb2 hg W2 hbox hb; replace BK1 := bK BK1 hb; replace c_BK1 := blk_cell BK1.out; replace z_BK1 := blk_frozen BK1.out; replace HB := bH HB hb; clear hb; have BK2 := Aside0.mk hbox; have c_BK2 := blk_cell hbox; have z_BK2 := blk_frozen hbox; clear hg hbox))
  replace H := H.out
  by_cases c3 : a0_0 = a1_0
  · rw [if_pos c3] at H
    have c3_0 := decT c3; have c3_1 := eqT c3; have c3_2 := neT c3
    clear c3
    first | rw [c3_1] | rw [c3_2] | skip
    by_cases c4 : (l0_1.length : Int) = (l1_1.length : Int)
    · rw [if_pos c4] at H
      have c4_x0 : (l0_1.length == l1_1.length) = true := by first | simpa using c4 | (simp at c4 ⊢; omega)
      have c4_0 := decT c4; have c4_1 := eqT c4; have c4_2 := neT c4
      clear c4
      first | rw [c4_1] | rw [c4_2] | skip
      replace H := Aside0.mk H
      go_wp2
      go_loopg [5] k (fun kq v5 w' => ∃ (x5_5 : Int), v5 = .int .i64 x5_5 ∧ Aside0 (spec_EqualPolicies.l0 kq x5_5 a0_0 l0_1 a1_0 l1_1 = some r) ∧ Aside0 (kq ≤ k) ∧ Aside0 (w'.heap[gb1]? = some (.cells #[.int .i64 a0_0, .slice A0_1 l0_1.length c0_1] 38 (0, 0))) ∧ Aside0 (w'.heap[gb2]? = some (.cells #[.int .i64 a1_0, .slice A1_1 l1_1.length c1_1] 38 (0, 0))) ∧ Aside0 (Below w.heap.size w w'))
      case atStart => exact ⟨(0), (by first | rfl | (simp; done) | (simp [*]; done)), H, ⟨Nat.le_refl _⟩, BK1, BK2, HB⟩
      case round =>
        clear H HB BK1 c_BK1 z_BK1 BK2 c_BK2 z_BK2
        try clear c3_0 c3_1 c3_2 c4_x0 c4_0 c4_1 c4_2
        obtain ⟨x5_5, rfl, HA, Hk5, BK1, BK2, HB⟩ := hrel
        have c_BK1 := blk_cell BK1.out; have z_BK1 := blk_frozen BK1.out
        have c_BK2 := blk_cell BK2.out; have z_BK2 := blk_frozen BK2.out
        cases gk with
        | zero => exact absurd HA.out (by simp [spec_EqualPolicies.l0])
        | succ k5 =>
          have H := HA.out
          clear HA
          simp only [spec_EqualPolicies.l0] at H
          by_cases c6 : x5_5 < (l0_1.length : Int)
          · rw [if_pos c6] at H
            have c6_0 := decT c6
            replace c6 := Aside0.mk c6
            first | rw [c6_0] | skip
            by_cases c7 : 0 ≤ x5_5
            · rw [if_pos c7] at H
              have c7_0 := decT c7
              replace c7 := Aside0.mk c7
              first | rw [c7_0] | skip
              have p171 : 0 ≤ (x5_5 : Int) := (of_decide_eq_true (by assumption))
              have q171 : x5_5 < (l0_1.length : Int) := (of_decide_eq_true (by assumption))
              obtain ⟨ad171, A171_6, c171_6, e171, hx171_0, hx171_1, hx171_2, hx171_3, hx171_4, hx171_5, hx171_6, hl171_6, hi171_6⟩ := at_T174 HR0_1.out x5_5 p171 q171
              cases e171
              have HR171_6 := Aside0.mk hi171_6; have HC171_6 := Aside0.mk hl171_6; clear hi171_6 hl171_6
              replace hx171_0 := Aside0.mk hx171_0
              have y171_0 := xC HB hx171_0
              replace hx171_1 := Aside0.mk hx171_1
              have y171_1 := xC HB hx171_1
              replace hx171_2 := Aside0.mk hx171_2
              have y171_2 := xC HB hx171_2
              replace hx171_3 := Aside0.mk hx171_3
              have y171_3 := xC HB hx171_3
              replace hx171_4 := Aside0.mk hx171_4
              have y171_4 := xC HB hx171_4
              replace hx171_5 := Aside0.mk hx171_5
              have y171_5 := xC HB hx171_5
              replace hx171_6 := Aside0.mk hx171_6
              have y171_6 := xC HB hx171_6
              have r171 := eq_true p171; have s171 := eq_true q171
              replace p171 := Aside0.mk p171; replace q171 := Aside0.mk q171
              replace H := Aside0.mk H
              go_upto_region 7 with (first | ((with_reducible refine gate_dst (N := 6) rfl ?_); refine box_event ?hg (N := 6) ?hd (cs := #[.int .i64 0, .int .i64 0, .int .i64 0, .int .i64 0, .int .i64 0, .int .i64 0, .slice none 0 0]) (t := 174) ?hr ?_; (case hd => rfl); (case hg => rfl); (case hr => first | (go_simp; done) | (go_simp; rfl)); intro gb8 hg W8 hbox hb; have G8 := Aside0.mk hg; have b0_ := Aside0.mk hb; have BK8 := Aside0.mk hbox; have c_BK8 := blk_cell hbox; have z_BK8 := blk_frozen hbox; clear hg hb hbox) | ((with_reducible refine gate_store (t := 174) (p := 6) rfl ?_); refine store_event (t := 174) (p := 6) (v := ?vo_s9) (w1 := (((((((W8.setCell ⟨gb8, 0, none⟩ (.int .i64 ((rd_T174 l0_1 x5_5).f0))).setCell ⟨gb8, 1, none⟩ (.int .i64 ((rd_T174 l0_1 x5_5).f1))).setCell ⟨gb8, 2, none⟩ (.int .i64 ((rd_T174 l0_1 x5_5).f2))).setCell ⟨gb8, 3, none⟩ (.int .i64 ((rd_T174 l0_1 x5_5).f3.f0))).setCell ⟨gb8, 4, none⟩ (.int .i64 ((rd_T174 l0_1 x5_5).f3.f1))).setCell ⟨gb8, 5, none⟩ (.int .i64 ((rd_T174 l0_1 x5_5).f3.f2))).setCell ⟨gb8, 6, none⟩ (.slice A171_6 ((rd_T174 l0_1 x5_5).f3.f3).length c171_6))) ?hg ?ho ?hn ?hr ?_; (case ho => rfl); (case hg => rfl); (case hn => rfl); (case hr => first | (go_simp; done) | (go_simp; rfl)); intro W9 hw; have hb : Below wr.heap.size wr W9 := (by rw [hw]; exact bSet (bSet (bSet (bSet (bSet (bSet (bSet (b0_.out) (Nat.le_of_eq G8.out.symm)) (Nat.le_of_eq G8.out.symm)) (Nat.le_of_eq G8.out.symm)) (Nat.le_of_eq G8.out.symm)) (Nat.le_of_eq G8.out.symm)) (Nat.le_of_eq G8.out.symm)) (Nat.le_of_eq G8.out.symm)); clear b0_; have h_ := blk_set (blk_set (blk_set (blk_set (blk_set (blk_set (blk_set (BK8.out) 0 (.int .i64 ((rd_T174 l0_1 x5_5).f0))) 1 (.int .i64 ((rd_T174 l0_1 x5_5).f1))) 2 (.int .i64 ((rd_T174 l0_1 x5_5).f2))) 3 (.int .i64 ((rd_T174 l0_1 x5_5).f3.f0))) 4 (.int .i64 ((rd_T174 l0_1 x5_5).f3.f1))) 5 (.int .i64 ((rd_T174 l0_1 x5_5).f3.f2))) 6 (.slice A171_6 ((rd_T174 l0_1 x5_5).f3.f3).length c171_6); rw [← hw] at h_; simp only [List.setIfInBounds_toArray, List.set_cons_zero, List.set_cons_succ] at h_; clear BK8 c_BK8 z_BK8 hw; replace BK1 := bK BK1 hb; replace c_BK1 := blk_cell BK1.out; replace z_BK1 := blk_frozen BK1.out; replace BK2 := bK BK2 hb; replace c_BK2 := blk_cell BK2.out; replace z_BK2 := blk_frozen BK2.out; replace HB := bH HB hb; clear hb; have BK8 := Aside0.mk h_; have c_BK8 := blk_cell h_; have z_BK8 := blk_frozen h_; clear h_ G8))
              try clear y171_0 y171_1 y171_2 y171_3 y171_4 y171_5 y171_6
              replace H := H.out
              by_cases c10 : x5_5 < (l1_1.length : Int)
              · rw [if_pos c10] at H
                have c10_0 := decT c10
                replace c10 := Aside0.mk c10
                first | rw [c10_0] | skip
                have p173 : 0 ≤ (x5_5 : Int) := (of_decide_eq_true (by assumption))
                have q173 : x5_5 < (l1_1.length : Int) := (of_decide_eq_true (by assumption))
                obtain ⟨ad173, A173_6, c173_6, e173, hx173_0, hx173_1, hx173_2, hx173_3, hx173_4, hx173_5, hx173_6, hl173_6, hi173_6⟩ := at_T174 HR1_1.out x5_5 p173 q173
                cases e173
                have HR173_6 := Aside0.mk hi173_6; have HC173_6 := Aside0.mk hl173_6; clear hi173_6 hl173_6
                replace hx173_0 := Aside0.mk hx173_0
                have y173_0 := xC HB hx173_0
                replace hx173_1 := Aside0.mk hx173_1
                have y173_1 := xC HB hx173_1
                replace hx173_2 := Aside0.mk hx173_2
                have y173_2 := xC HB hx173_2
                replace hx173_3 := Aside0.mk hx173_3
                have y173_3 := xC HB hx173_3
                replace hx173_4 := Aside0.mk hx173_4
                have y173_4 := xC HB hx173_4
                replace hx173_5 := Aside0.mk hx173_5
                have y173_5 := xC HB hx173_5
                replace hx173_6 := Aside0.mk hx173_6
                have y173_6 := xC HB hx173_6
                have r173 := eq_true p173; have s173 := eq_true q173
                replace p173 := Aside0.mk p173; replace q173 := Aside0.mk q173
                replace H := Aside0.mk H
                go_upto_region 8 with (first | ((with_reducible refine gate_dst (N := 7) rfl ?_); refine box_event ?hg (N := 7) ?hd (cs := #[.int .i64 0, .int .i64 0, .int .i64 0, .int .i64 0, .int .i64 0, .int .i64 0, .slice none 0 0]) (t := 174) ?hr ?_; (case hd => rfl); (case hg => rfl); (case hr => first | (go_simp; done) | (go_simp; rfl)); intro gb11 hg W11 hbox hb; have G11 := Aside0.mk hg; have b0_ := Aside0.mk hb; have BK11 := Aside0.mk hbox; have c_BK11 := blk_cell hbox; have z_BK11 := blk_frozen hbox; clear hg hb hbox) | ((with_reducible refine gate_store (t := 174) (p := 7) rfl ?_); refine store_event (t := 174) (p := 7) (v := ?vo_s12) (w1 := (((((((W11.setCell ⟨gb11, 0, none⟩ (.int .i64 ((rd_T174 l1_1 x5_5).f0))).setCell ⟨gb11, 1, none⟩ (.int .i64 ((rd_T174 l1_1 x5_5).f1))).setCell ⟨gb11, 2, none⟩ (.int .i64 ((rd_T174 l1_1 x5_5).f2))).setCell ⟨gb11, 3, none⟩ (.int .i64 ((rd_T174 l1_1 x5_5).f3.f0))).setCell ⟨gb11, 4, none⟩ (.int .i64 ((rd_T174 l1_1 x5_5).f3.f1))).setCell ⟨gb11, 5, none⟩ (.int .i64 ((rd_T174 l1_1 x5_5).f3.f2))).setCell ⟨gb11, 6, none⟩ (.slice A173_6 ((rd_T174 l1_1 x5_5).f3.f3).length c173_6))) ?hg ?ho ?hn ?hr ?_; (case ho => rfl); (case hg => rfl); (case hn => rfl); (case hr => first | (go_simp; done) | (go_simp; rfl)); intro W12 hw; have hb : Below W9.heap.size W9 W12 := (by rw [hw]; exact bSet (bSet (bSet (bSet (bSet (bSet (bSet (b0_.out) (Nat.le_of_eq G11.out.symm)) (Nat.le_of_eq G11.out.symm)) (Nat.le_of_eq G11.out.symm)) (Nat.le_of_eq G11.out.symm)) (Nat.le_of_eq G11.out.symm)) (Nat.le_of_eq G11.out.symm)) (Nat.le_of_eq G11.out.symm)); clear b0_; have h_ := blk_set (blk_set (blk_set (blk_set (blk_set (blk_set (blk_set (BK11.out) 0 (.int .i64 ((rd_T174 l1_1 x5_5).f0))) 1 (.int .i64 ((rd_T174 l1_1 x5_5).f1))) 2 (.int .i64 ((rd_T174 l1_1 x5_5).f2))) 3 (.int .i64 ((rd_T174 l1_1 x5_5).f3.f0))) 4 (.int .i64 ((rd_T174 l1_1 x5_5).f3.f1))) 5 (.int .i64 ((rd_T174 l1_1 x5_5).f3.f2))) 6 (.slice A173_6 ((rd_T174 l1_1 x5_5).f3.f3).length c173_6); rw [← hw] at h_; simp only [List.setIfInBounds_toArray, List.set_cons_zero, List.set_cons_succ] at h_; clear BK11 c_BK11 z_BK11 hw; replace BK1 := bK BK1 hb; replace c_BK1 := blk_cell BK1.out; replace z_BK1 := blk_frozen BK1.out; replace BK2 := bK BK2 hb; replace c_BK2 := blk_cell BK2.out; replace z_BK2 := blk_frozen BK2.out; replace BK8 := bK BK8 hb; replace c_BK8 := blk_cell BK8.out; replace z_BK8 := blk_frozen BK8.out; replace HB := bH HB hb; clear hb; have BK11 := Aside0.mk h_; have c_BK11 := blk_cell h_; have z_BK11 := blk_frozen h_; clear h_ G11))
                try clear y173_0 y173_1 y173_2 y173_3 y173_4 y173_5 y173_6
                replace H := H.out
                by_cases c13 : ((rd_T174 l0_1 x5_5).f0) = ((rd_T174 l1_1 x5_5).f0)
                · rw [if_pos c13] at H
                  have c13_0 := decT c13; have c13_1 := eqT c13; have c13_2 := neT c13
                  clear c13
                  first | rw [c13_1] | rw [c13_2] | skip
                  by_cases c14 : ((rd_T174 l0_1 x5_5).f1) = ((rd_T174 l1_1 x5_5).f1)
                  · rw [if_pos c14] at H
                    have c14_0 := decT c14; have c14_1 := eqT c14; have c14_2 := neT c14
                    clear c14
                    first | rw [c14_1] | rw [c14_2] | skip
                    by_cases c15 : ((rd_T174 l0_1 x5_5).f2) = ((rd_T174 l1_1 x5_5).f2)
                    · rw [if_pos c15] at H
                      have c15_0 := decT c15; have c15_1 := eqT c15; have c15_2 := neT c15
                      clear c15
                      first | rw [c15_1] | rw [c15_2] | skip
                      replace H := Option.bind_eq_some_iff.mp H
                      obtain ⟨t175, hm, H⟩ := H
                      try dsimp only at H
                      replace H := Aside0.mk H
                      have hcall := spec_EqualConds.calls k5 _ _ _ _ _ _ _ _ _ _ _ _ _ W12 (Kd.C_below HR171_6.out HB.out) HC171_6.out (Kd.C_below HR173_6.out HB.out) HC173_6.out hm
                      clear hm
                      go_wp2_with fail
                      refine hcall.mono ?_
                      rintro e W16 ⟨rfl, hb⟩
                      clear hcall
                      replace BK1 := bK BK1 hb; replace c_BK1 := blk_cell BK1.out; replace z_BK1 := blk_frozen BK1.out
                      replace BK2 := bK BK2 hb; replace c_BK2 := blk_cell BK2.out; replace z_BK2 := blk_frozen BK2.out
                      replace BK8 := bK BK8 hb; replace c_BK8 := blk_cell BK8.out; replace z_BK8 := blk_frozen BK8.out
                      replace BK11 := bK BK11 hb; replace c_BK11 := blk_cell BK11.out; replace z_BK11 := blk_frozen BK11.out
                      replace HB := bH HB hb; clear hb
                      replace H := H.out
                      by_cases c17 : t175 = true
                      · rw [if_pos c17] at H
                        subst c17
                        replace H := Aside0.mk H
                        go_wp2
                        go_roundg k5
                        case measure => have := Hk5.out; omega
                        case rel => exact ⟨(wrap64 (x5_5 + 1)), (by first | rfl | (simp; done) | (simp [*]; done)), H, ⟨by have := Hk5.out; omega⟩, BK1, BK2, HB⟩
                      · rw [if_neg c17] at H
                        replace c17 := (Bool.not_eq_true _).mp c17
                        subst c17
                        obtain rfl := Option.some.inj H
                        clear H
                        go_wp2
                        go_ret
                        exact ⟨rfl, HB.out⟩
                    · rw [if_neg c15] at H
                      have c15_0 := decF c15; have c15_1 := eqF c15; have c15_2 := neF c15
                      clear c15
                      first | rw [c15_1] | rw [c15_2] | skip
                      obtain rfl := Option.some.inj H
                      clear H
                      go_wp2
                      go_ret
                      exact ⟨rfl, HB.out⟩
                  · rw [if_neg c14] at H
                    have c14_0 := decF c14; have c14_1 := eqF c14; have c14_2 := neF c14
                    clear c14
                    first | rw [c14_1] | rw [c14_2] | skip
                    obtain rfl := Option.some.inj H
                    clear H
                    go_wp2
                    go_ret
                    exact ⟨rfl, HB.out⟩
                · rw [if_neg c13] at H
                  have c13_0 := decF c13; have c13_1 := eqF c13; have c13_2 := neF c13
                  clear c13
                  first | rw [c13_1] | rw [c13_2] | skip
                  obtain rfl := Option.some.inj H
                  clear H
                  go_wp2
                  go_ret
                  exact ⟨rfl, HB.out⟩
              · rw [if_neg c10] at H
                cases H
            · rw [if_neg c7] at H
              cases H
          · rw [if_neg c6] at H
            have c6_0 := decF c6
            replace c6 := Aside0.mk c6
            first | rw [c6_0] | skip
            obtain rfl := Option.some.inj H
            clear H
            go_wp2
            go_ret
            exact ⟨rfl, HB.out⟩
    · rw [if_neg c4] at H
      have c4_x0 : (l0_1.length == l1_1.length) = false := by first | simpa using c4 | (simp at c4 ⊢; omega)
      have c4_0 := decF c4; have c4_1 := eqF c4; have c4_2 := neF c4
      clear c4
      first | rw [c4_1] | rw [c4_2] | skip
      obtain rfl := Option.some.inj H
      clear H
      go_wp2
      go_ret
      exact ⟨rfl, HB.out⟩
  · rw [if_neg c3] at H
    have c3_0 := decF c3; have c3_1 := eqF c3; have c3_2 := neF c3
    clear c3
    first | rw [c3_1] | rw [c3_2] | skip
    obtain rfl := Option.some.inj H
    clear H
    go_wp2
    go_ret
    exact ⟨rfl, HB.out⟩

end Go.Proofs.Ytineejdlpcgnkaa.QFnExactEqualCenters
