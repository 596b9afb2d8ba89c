/- The machine side of FnExactEqualCenters: what each function that it reaches computes, and that the machine's call gives just that. -/
import Derived.Test.YtineejdlpcgnkaaQFnExactEqualCentersx0
import Derived.Test.YtineejdlpcgnkaaQFnExactEqualCentersx1
import Derived.Test.YtineejdlpcgnkaaQFnExactEqualCentersx3
import Derived.Test.YtineejdlpcgnkaaQFnExactEqualCentersx11
namespace Go.Proofs.Ytineejdlpcgnkaa.QFnExactEqualCenters
open Go.RowKit Go.Proofs.YtineejdlpcgnkaaW.PrintWords Go.Proofs.YtineejdlpcgnkaaW.PrintLast Go.Proofs.YtineejdlpcgnkaaW.PrintMore
attribute [local go_sem] max2_int min2_int max_two min_two max_three min_three max_four min_four   -- for this text's walks alone
set_option linter.unusedVariables false
set_option linter.unusedSimpArgs false

attribute [local go_sem high] eqA99 eqA132
/-! ### spec_EqualEpochs: function 62 -/
def spec_EqualEpochs.f (k : Nat) (a0_0 : Int) (a0_1 : Int) (l0_2 : List (S149)) (a0_3 : Int) (l0_4 : List (S174)) (a1_0 : Int) (a1_1 : Int) (l1_2 : List (S149)) (a1_3 : Int) (l1_4 : List (S174)) : Option (Bool) := if a0_0 = a1_0 then (if a0_1 = a1_1 then ((spec_l24Pairs.f k l0_2 l1_2).bind fun t178 => (if t178 = true then ((spec_EqualPolicies.f k a0_3 l0_4 a1_3 l1_4).bind fun t179 => (some t179)) else (some false))) else (some false)) else (some false)
open Go.Proofs.YtineejdlpcgnkaaM in
set_option maxHeartbeats 8000000 in
set_option maxRecDepth 100000 in
theorem spec_EqualEpochs.calls (k : Nat) (a0_0 : Int) (a0_1 : Int) (A0_2 : Option Addr) (c0_2 : Nat) (l0_2 : List (S149)) (a0_3 : Int) (A0_4 : Option Addr) (c0_4 : Nat) (l0_4 : List (S174)) (a1_0 : Int) (a1_1 : Int) (A1_2 : Option Addr) (c1_2 : Nat) (l1_2 : List (S149)) (a1_3 : Int) (A1_4 : Option Addr) (c1_4 : Nat) (l1_4 : List (S174)) (r : Bool) (w : World) (hr0_2 : Kd.C k149 w A0_2 l0_2.length l0_2) (hc0_2 : l0_2.length ≤ c0_2) (hr0_4 : Kd.C k174 w A0_4 l0_4.length l0_4) (hc0_4 : l0_4.length ≤ c0_4) (hr1_2 : Kd.C k149 w A1_2 l1_2.length l1_2) (hc1_2 : l1_2.length ≤ c1_2) (hr1_4 : Kd.C k174 w A1_4 l1_4.length l1_4) (hc1_4 : l1_4.length ≤ c1_4) (h : spec_EqualEpochs.f k a0_0 a0_1 l0_2 a0_3 l0_4 a1_0 a1_1 l1_2 a1_3 l1_4 = some r) :
    Calls Try.prog 62 #[.agg #[.int .i64 a0_0, .int .i64 a0_1, .slice A0_2 l0_2.length c0_2, .int .i64 a0_3, .slice A0_4 l0_4.length c0_4], .agg #[.int .i64 a1_0, .int .i64 a1_1, .slice A1_2 l1_2.length c1_2, .int .i64 a1_3, .slice A1_4 l1_4.length c1_4]] w fun e w' => e = .returned (.bool r) ∧ Below w.heap.size w w' := by
  have HR0_2 := Aside0.mk hr0_2
  have HC0_2 := Aside0.mk hc0_2
  clear hr0_2 hc0_2
  have HR0_4 := Aside0.mk hr0_4
  have HC0_4 := Aside0.mk hc0_4
  clear hr0_4 hc0_4
  have HR1_2 := Aside0.mk hr1_2
  have HC1_2 := Aside0.mk hc1_2
  clear hr1_2 hc1_2
  have HR1_4 := Aside0.mk hr1_4
  have HC1_4 := Aside0.mk hc1_4
  clear hr1_4 hc1_4
  have HB := Aside0.mk (Below.refl w.heap.size w)
  have H := h
  clear h
  unfold spec_EqualEpochs.f at H
  have hu38 := Try.underlying38
  have hu40 := Try.underlying40
  go_enter Try.func62, Try.ntmps62
  replace H := Aside0.mk H
  go_upto_region 1 with (first | ((with_reducible refine gate_dst (N := 2) rfl ?_); refine box_event ?hg (N := 2) ?hd (cs := #[.int .i64 a0_0, .int .i64 a0_1, .slice A0_2 l0_2.length c0_2, .int .i64 a0_3, .slice A0_4 l0_4.length c0_4]) (t := 40) ?hr ?_; (case hd => rfl); (case hg => rfl); (case hr => first | (go_simp; done) | (go_simp; rfl)); intro gb1 hg W1 hbox hb; replace HB := bH HB hb; clear hb; have BK1 := Aside0.mk hbox; have c_BK1 := blk_cell hbox; have z_BK1 := blk_frozen hbox; clear hg hbox) | ((with_reducible refine gate_dst (N := 3) rfl ?_); refine box_event ?hg (N := 3) ?hd (cs := #[.int .i64 a1_0, .int .i64 a1_1, .slice A1_2 l1_2.length c1_2, .int .i64 a1_3, .slice A1_4 l1_4.length c1_4]) (t := 40) ?hr ?_; (case hd => rfl); (case hg => rfl); (case hr => first | (go_simp; done) | (go_simp; rfl)); intro gb2 hg W2 hbox hb; replace BK1 := bK BK1 hb; replace c_BK1 := blk_cell BK1.out; replace z_BK1 := blk_frozen BK1.out; replace HB := bH HB hb; clear hb; have BK2 := Aside0.mk hbox; have c_BK2 := blk_cell hbox; have z_BK2 := blk_frozen hbox; clear hg hbox))
  replace H := H.out
  by_cases c3 : a0_0 = a1_0
  · rw [if_pos c3] at H
    have c3_0 := decT c3; have c3_1 := eqT c3; have c3_2 := neT c3
    clear c3
    first | rw [c3_1] | rw [c3_2] | skip
    by_cases c4 : a0_1 = a1_1
    · rw [if_pos c4] at H
      have c4_0 := decT c4; have c4_1 := eqT c4; have c4_2 := neT c4
      clear c4
      first | rw [c4_1] | rw [c4_2] | skip
      replace H := Option.bind_eq_some_iff.mp H
      obtain ⟨t178, hm, H⟩ := H
      try dsimp only at H
      replace H := Aside0.mk H
      have hcall := spec_l24Pairs.calls k _ _ _ _ _ _ _ W2 (Kd.C_below HR0_2.out HB.out) HC0_2.out (Kd.C_below HR1_2.out HB.out) HC1_2.out hm
      clear hm
      go_wp2_with fail
      refine hcall.mono ?_
      rintro e W5 ⟨rfl, hb⟩
      clear hcall
      replace BK1 := bK BK1 hb; replace c_BK1 := blk_cell BK1.out; replace z_BK1 := blk_frozen BK1.out
      replace BK2 := bK BK2 hb; replace c_BK2 := blk_cell BK2.out; replace z_BK2 := blk_frozen BK2.out
      replace HB := bH HB hb; clear hb
      replace H := H.out
      by_cases c6 : t178 = true
      · rw [if_pos c6] at H
        subst c6
        replace H := Option.bind_eq_some_iff.mp H
        obtain ⟨t179, hm, H⟩ := H
        try dsimp only at H
        replace H := Aside0.mk H
        have hcall := spec_EqualPolicies.calls k _ _ _ _ _ _ _ _ _ W5 (Kd.C_below HR0_4.out HB.out) HC0_4.out (Kd.C_below HR1_4.out HB.out) HC1_4.out hm
        clear hm
        go_wp2_with fail
        refine hcall.mono ?_
        rintro e W7 ⟨rfl, hb⟩
        clear hcall
        replace BK1 := bK BK1 hb; replace c_BK1 := blk_cell BK1.out; replace z_BK1 := blk_frozen BK1.out
        replace BK2 := bK BK2 hb; replace c_BK2 := blk_cell BK2.out; replace z_BK2 := blk_frozen BK2.out
        replace HB := bH HB hb; clear hb
        replace H := H.out
        obtain rfl := Option.some.inj H
        clear H
        go_wp2
        go_ret
        exact ⟨rfl, HB.out⟩
      · rw [if_neg c6] at H
        replace c6 := (Bool.not_eq_true _).mp c6
        subst c6
        obtain rfl := Option.some.inj H
        clear H
        go_wp2
        go_ret
        exact ⟨rfl, HB.out⟩
    · rw [if_neg c4] at H
      have c4_0 := decF c4; have c4_1 := eqF c4; have c4_2 := neF c4
      clear c4
      first | rw [c4_1] | rw [c4_2] | skip
      obtain rfl := Option.some.inj H
      clear H
      go_wp2
      go_ret
      exact ⟨rfl, HB.out⟩
  · rw [if_neg c3] at H
    have c3_0 := decF c3; have c3_1 := eqF c3; have c3_2 := neF c3
    clear c3
    first | rw [c3_1] | rw [c3_2] | skip
    obtain rfl := Option.some.inj H
    clear H
    go_wp2
    go_ret
    exact ⟨rfl, HB.out⟩

/-! ### spec_EqualStores: function 63 -/
def spec_EqualStores.l0 : Nat → List (S132) → List (S132) → Int → Option (Bool)
  | 0, _, _, _ => none
  | k + 1, x0, x1, x5 => if x5 < (x0.length : Int) then (if 0 ≤ x5 then (if x5 < (x1.length : Int) then (if (!(((rd_T132 x0 x5).f0) == ((rd_T132 x1 x5).f0)) || (!(((rd_T132 x0 x5).f1) == ((rd_T132 x1 x5).f1)) || (!(((rd_T132 x0 x5).f2) == ((rd_T132 x1 x5).f2)) || (!(((rd_T132 x0 x5).f3) == ((rd_T132 x1 x5).f3)) || (!(((rd_T132 x0 x5).f4) == ((rd_T132 x1 x5).f4)) || (!(((rd_T132 x0 x5).f5) == ((rd_T132 x1 x5).f5)))))))) = true then (some false) else (spec_EqualStores.l0 k x0 x1 (wrap64 (x5 + 1)))) else (none)) else (none)) else (some true)
def spec_EqualStores.f (k : Nat) (l0 : List (S132)) (l1 : List (S132)) : Option (Bool) := if (l0.length : Int) = (l1.length : Int) then (spec_EqualStores.l0 k l0 l1 0) else (some false)
open Go.Proofs.YtineejdlpcgnkaaM in
set_option maxHeartbeats 8000000 in
set_option maxRecDepth 100000 in
theorem spec_EqualStores.calls (k : Nat) (A0 : Option Addr) (c0 : Nat) (l0 : List (S132)) (A1 : Option Addr) (c1 : Nat) (l1 : List (S132)) (r : Bool) (w : World) (hr0 : Kd.C k132 w A0 l0.length l0) (hc0 : l0.length ≤ c0) (hr1 : Kd.C k132 w A1 l1.length l1) (hc1 : l1.length ≤ c1) (h : spec_EqualStores.f k l0 l1 = some r) :
    Calls Try.prog 63 #[.slice A0 l0.length c0, .slice A1 l1.length c1] w fun e w' => e = .returned (.bool r) ∧ Below w.heap.size w w' := by
  have HR0 := Aside0.mk hr0
  have HC0 := Aside0.mk hc0
  clear hr0 hc0
  have HR1 := Aside0.mk hr1
  have HC1 := Aside0.mk hc1
  clear hr1 hc1
  have HB := Aside0.mk (Below.refl w.heap.size w)
  have H := h
  clear h
  unfold spec_EqualStores.f at H
  have hu132 := Try.underlying132
  go_enter Try.func63, Try.ntmps63
  by_cases c1 : (l0.length : Int) = (l1.length : Int)
  · rw [if_pos c1] at H
    have c1_x0 : (l0.length == l1.length) = true := by first | simpa using c1 | (simp at c1 ⊢; omega)
    have c1_0 := decT c1; have c1_1 := eqT c1; have c1_2 := neT c1
    clear c1
    first | rw [c1_1] | rw [c1_2] | skip
    replace H := Aside0.mk H
    go_wp2
    go_loopg [5] k (fun kq v5 w' => ∃ (x5_2 : Int), v5 = .int .i64 x5_2 ∧ Aside0 (spec_EqualStores.l0 kq l0 l1 x5_2 = some r) ∧ Aside0 (kq ≤ k) ∧ Aside0 (Below w.heap.size w w'))
    case atStart => exact ⟨(0), (by first | rfl | (simp; done) | (simp [*]; done)), H, ⟨Nat.le_refl _⟩, HB⟩
    case round =>
      clear H HB 
      try clear c1_x0 c1_0 c1_1 c1_2
      obtain ⟨x5_2, rfl, HA, Hk2, HB⟩ := hrel
      cases gk with
      | zero => exact absurd HA.out (by simp [spec_EqualStores.l0])
      | succ k2 =>
        have H := HA.out
        clear HA
        simp only [spec_EqualStores.l0] at H
        by_cases c3 : x5_2 < (l0.length : Int)
        · rw [if_pos c3] at H
          have c3_0 := decT c3
          replace c3 := Aside0.mk c3
          first | rw [c3_0] | skip
          by_cases c4 : 0 ≤ x5_2
          · rw [if_pos c4] at H
            have c4_0 := decT c4
            replace c4 := Aside0.mk c4
            have p180 : 0 ≤ (x5_2 : Int) := (of_decide_eq_true (by assumption))
            have q180 : x5_2 < (l0.length : Int) := (of_decide_eq_true (by assumption))
            obtain ⟨ad180, e180, hx180_0, hx180_1, hx180_2, hx180_3, hx180_4, hx180_5⟩ := at_T132 HR0.out x5_2 p180 q180
            cases e180
            replace hx180_0 := Aside0.mk hx180_0
            have y180_0 := xC HB hx180_0
            replace hx180_1 := Aside0.mk hx180_1
            have y180_1 := xC HB hx180_1
            replace hx180_2 := Aside0.mk hx180_2
            have y180_2 := xC HB hx180_2
            replace hx180_3 := Aside0.mk hx180_3
            have y180_3 := xC HB hx180_3
            replace hx180_4 := Aside0.mk hx180_4
            have y180_4 := xC HB hx180_4
            replace hx180_5 := Aside0.mk hx180_5
            have y180_5 := xC HB hx180_5
            have r180 := eq_true p180; have s180 := eq_true q180
            replace p180 := Aside0.mk p180; replace q180 := Aside0.mk q180
            by_cases c5 : x5_2 < (l1.length : Int)
            · rw [if_pos c5] at H
              have c5_0 := decT c5
              replace c5 := Aside0.mk c5
              have p181 : 0 ≤ (x5_2 : Int) := (of_decide_eq_true (by assumption))
              have q181 : x5_2 < (l1.length : Int) := (of_decide_eq_true (by assumption))
              obtain ⟨ad181, e181, hx181_0, hx181_1, hx181_2, hx181_3, hx181_4, hx181_5⟩ := at_T132 HR1.out x5_2 p181 q181
              cases e181
              replace hx181_0 := Aside0.mk hx181_0
              have y181_0 := xC HB hx181_0
              replace hx181_1 := Aside0.mk hx181_1
              have y181_1 := xC HB hx181_1
              replace hx181_2 := Aside0.mk hx181_2
              have y181_2 := xC HB hx181_2
              replace hx181_3 := Aside0.mk hx181_3
              have y181_3 := xC HB hx181_3
              replace hx181_4 := Aside0.mk hx181_4
              have y181_4 := xC HB hx181_4
              replace hx181_5 := Aside0.mk hx181_5
              have y181_5 := xC HB hx181_5
              have r181 := eq_true p181; have s181 := eq_true q181
              replace p181 := Aside0.mk p181; replace q181 := Aside0.mk q181
              replace H := Aside0.mk H
              try go_wp2
              go_quiet (fail)
              try clear y180_0 y180_1 y180_2 y180_3 y180_4 y180_5 y181_0 y181_1 y181_2 y181_3 y181_4 y181_5
              replace HB := qH HB nq
              generalize wr.drewN nq = W6 at HB ⊢
              clear nq
              replace H := H.out
              by_cases c7 : (!(((rd_T132 l0 x5_2).f0) == ((rd_T132 l1 x5_2).f0)) || (!(((rd_T132 l0 x5_2).f1) == ((rd_T132 l1 x5_2).f1)) || (!(((rd_T132 l0 x5_2).f2) == ((rd_T132 l1 x5_2).f2)) || (!(((rd_T132 l0 x5_2).f3) == ((rd_T132 l1 x5_2).f3)) || (!(((rd_T132 l0 x5_2).f4) == ((rd_T132 l1 x5_2).f4)) || (!(((rd_T132 l0 x5_2).f5) == ((rd_T132 l1 x5_2).f5)))))))) = true
              · rw [if_pos c7] at H
                try rw [c7]
                obtain rfl := Option.some.inj H
                clear H
                go_wp2
                go_ret
                exact ⟨rfl, HB.out⟩
              · rw [if_neg c7] at H
                replace c7 := (Bool.not_eq_true _).mp c7
                try rw [c7]
                replace H := Aside0.mk H
                go_wp2
                go_roundg k2
                case measure => have := Hk2.out; omega
                case rel => exact ⟨(wrap64 (x5_2 + 1)), (by first | rfl | (simp; done) | (simp [*]; done)), H, ⟨by have := Hk2.out; omega⟩, HB⟩
            · rw [if_neg c5] at H
              cases H
          · rw [if_neg c4] at H
            cases H
        · rw [if_neg c3] at H
          have c3_0 := decF c3
          replace c3 := Aside0.mk c3
          first | rw [c3_0] | skip
          obtain rfl := Option.some.inj H
          clear H
          go_wp2
          go_ret
          exact ⟨rfl, HB.out⟩
  · rw [if_neg c1] at H
    have c1_x0 : (l0.length == l1.length) = false := by first | simpa using c1 | (simp at c1 ⊢; omega)
    have c1_0 := decF c1; have c1_1 := eqF c1; have c1_2 := neF c1
    clear c1
    first | rw [c1_1] | rw [c1_2] | skip
    obtain rfl := Option.some.inj H
    clear H
    go_wp2
    go_ret
    exact ⟨rfl, HB.out⟩

/-! ### spec_l27Revoked: function 64 -/
def spec_l27Revoked.l0 : Nat → List (S99) → List (S99) → Int → Option (Bool)
  | 0, _, _, _ => none
  | k + 1, x0, x1, x5 => if x5 < (x0.length : Int) then (if 0 ≤ x5 then (if x5 < (x1.length : Int) then (if (!(((rd_T99 x0 x5).f0) == ((rd_T99 x1 x5).f0)) || (!(((rd_T99 x0 x5).f1) == ((rd_T99 x1 x5).f1)))) = true then (some false) else (spec_l27Revoked.l0 k x0 x1 (wrap64 (x5 + 1)))) else (none)) else (none)) else (some true)
def spec_l27Revoked.f (k : Nat) (l0 : List (S99)) (l1 : List (S99)) : Option (Bool) := if (l0.length : Int) = (l1.length : Int) then (spec_l27Revoked.l0 k l0 l1 0) else (some false)
open Go.Proofs.YtineejdlpcgnkaaM in
set_option maxHeartbeats 8000000 in
set_option maxRecDepth 100000 in
theorem spec_l27Revoked.calls (k : Nat) (A0 : Option Addr) (c0 : Nat) (l0 : List (S99)) (A1 : Option Addr) (c1 : Nat) (l1 : List (S99)) (r : Bool) (w : World) (hr0 : Kd.C k99 w A0 l0.length l0) (hc0 : l0.length ≤ c0) (hr1 : Kd.C k99 w A1 l1.length l1) (hc1 : l1.length ≤ c1) (h : spec_l27Revoked.f k l0 l1 = some r) :
    Calls Try.prog 64 #[.slice A0 l0.length c0, .slice A1 l1.length c1] w fun e w' => e = .returned (.bool r) ∧ Below w.heap.size w w' := by
  have HR0 := Aside0.mk hr0
  have HC0 := Aside0.mk hc0
  clear hr0 hc0
  have HR1 := Aside0.mk hr1
  have HC1 := Aside0.mk hc1
  clear hr1 hc1
  have HB := Aside0.mk (Below.refl w.heap.size w)
  have H := h
  clear h
  unfold spec_l27Revoked.f at H
  have hu99 := Try.underlying99
  go_enter Try.func64, Try.ntmps64
  by_cases c1 : (l0.length : Int) = (l1.length : Int)
  · rw [if_pos c1] at H
    have c1_x0 : (l0.length == l1.length) = true := by first | simpa using c1 | (simp at c1 ⊢; omega)
    have c1_0 := decT c1; have c1_1 := eqT c1; have c1_2 := neT c1
    clear c1
    first | rw [c1_1] | rw [c1_2] | skip
    replace H := Aside0.mk H
    go_wp2
    go_loopg [5] k (fun kq v5 w' => ∃ (x5_2 : Int), v5 = .int .i64 x5_2 ∧ Aside0 (spec_l27Revoked.l0 kq l0 l1 x5_2 = some r) ∧ Aside0 (kq ≤ k) ∧ Aside0 (Below w.heap.size w w'))
    case atStart => exact ⟨(0), (by first | rfl | (simp; done) | (simp [*]; done)), H, ⟨Nat.le_refl _⟩, HB⟩
    case round =>
      clear H HB 
      try clear c1_x0 c1_0 c1_1 c1_2
      obtain ⟨x5_2, rfl, HA, Hk2, HB⟩ := hrel
      cases gk with
      | zero => exact absurd HA.out (by simp [spec_l27Revoked.l0])
      | succ k2 =>
        have H := HA.out
        clear HA
        simp only [spec_l27Revoked.l0] at H
        by_cases c3 : x5_2 < (l0.length : Int)
        · rw [if_pos c3] at H
          have c3_0 := decT c3
          replace c3 := Aside0.mk c3
          first | rw [c3_0] | skip
          by_cases c4 : 0 ≤ x5_2
          · rw [if_pos c4] at H
            have c4_0 := decT c4
            replace c4 := Aside0.mk c4
            have p182 : 0 ≤ (x5_2 : Int) := (of_decide_eq_true (by assumption))
            have q182 : x5_2 < (l0.length : Int) := (of_decide_eq_true (by assumption))
            obtain ⟨ad182, e182, hx182_0, hx182_1⟩ := at_T99 HR0.out x5_2 p182 q182
            cases e182
            replace hx182_0 := Aside0.mk hx182_0
            have y182_0 := xC HB hx182_0
            replace hx182_1 := Aside0.mk hx182_1
            have y182_1 := xC HB hx182_1
            have r182 := eq_true p182; have s182 := eq_true q182
            replace p182 := Aside0.mk p182; replace q182 := Aside0.mk q182
            by_cases c5 : x5_2 < (l1.length : Int)
            · rw [if_pos c5] at H
              have c5_0 := decT c5
              replace c5 := Aside0.mk c5
              have p183 : 0 ≤ (x5_2 : Int) := (of_decide_eq_true (by assumption))
              have q183 : x5_2 < (l1.length : Int) := (of_decide_eq_true (by assumption))
              obtain ⟨ad183, e183, hx183_0, hx183_1⟩ := at_T99 HR1.out x5_2 p183 q183
              cases e183
              replace hx183_0 := Aside0.mk hx183_0
              have y183_0 := xC HB hx183_0
              replace hx183_1 := Aside0.mk hx183_1
              have y183_1 := xC HB hx183_1
              have r183 := eq_true p183; have s183 := eq_true q183
              replace p183 := Aside0.mk p183; replace q183 := Aside0.mk q183
              replace H := Aside0.mk H
              try go_wp2
              go_quiet (fail)
              try clear y182_0 y182_1 y183_0 y183_1
              replace HB := qH HB nq
              generalize wr.drewN nq = W6 at HB ⊢
              clear nq
              replace H := H.out
              by_cases c7 : (!(((rd_T99 l0 x5_2).f0) == ((rd_T99 l1 x5_2).f0)) || (!(((rd_T99 l0 x5_2).f1) == ((rd_T99 l1 x5_2).f1)))) = true
              · rw [if_pos c7] at H
                try rw [c7]
                obtain rfl := Option.some.inj H
                clear H
                go_wp2
                go_ret
                exact ⟨rfl, HB.out⟩
              · rw [if_neg c7] at H
                replace c7 := (Bool.not_eq_true _).mp c7
                try rw [c7]
                replace H := Aside0.mk H
                go_wp2
                go_roundg k2
                case measure => have := Hk2.out; omega
                case rel => exact ⟨(wrap64 (x5_2 + 1)), (by first | rfl | (simp; done) | (simp [*]; done)), H, ⟨by have := Hk2.out; omega⟩, HB⟩
            · rw [if_neg c5] at H
              cases H
          · rw [if_neg c4] at H
            cases H
        · rw [if_neg c3] at H
          have c3_0 := decF c3
          replace c3 := Aside0.mk c3
          first | rw [c3_0] | skip
          obtain rfl := Option.some.inj H
          clear H
          go_wp2
          go_ret
          exact ⟨rfl, HB.out⟩
  · rw [if_neg c1] at H
    have c1_x0 : (l0.length == l1.length) = false := by first | simpa using c1 | (simp at c1 ⊢; omega)
    have c1_0 := decF c1; have c1_1 := eqF c1; have c1_2 := neF c1
    clear c1
    first | rw [c1_1] | rw [c1_2] | skip
    obtain rfl := Option.some.inj H
    clear H
    go_wp2
    go_ret
    exact ⟨rfl, HB.out⟩

/-! ### spec_EqualInts: function 131 -/
def spec_EqualInts.l0 : Nat → List Int → List Int → Int → Option (Bool)
  | 0, _, _, _ => none
  | k + 1, x0, x1, x5 => if x5 < (x0.length : Int) then (if 0 ≤ x5 then (if x5 < (x1.length : Int) then (if (rd x0 x5) = (rd x1 x5) then (spec_EqualInts.l0 k x0 x1 (wrap64 (x5 + 1))) else (some false)) else (none)) else (none)) else (some true)
def spec_EqualInts.f (k : Nat) (l0 : List Int) (l1 : List Int) : Option (Bool) := if (l0.length : Int) = (l1.length : Int) then (spec_EqualInts.l0 k l0 l1 0) else (some false)
open Go.Proofs.YtineejdlpcgnkaaM in
set_option maxHeartbeats 8000000 in
set_option maxRecDepth 100000 in
theorem spec_EqualInts.calls (k : Nat) (A0 : Option Addr) (c0 : Nat) (l0 : List Int) (A1 : Option Addr) (c1 : Nat) (l1 : List Int) (r : Bool) (w : World) (hr0 : Kd.C (Kd.int .i64) w A0 l0.length l0) (hc0 : l0.length ≤ c0) (hr1 : Kd.C (Kd.int .i64) w A1 l1.length l1) (hc1 : l1.length ≤ c1) (h : spec_EqualInts.f k l0 l1 = some r) :
    Calls Try.prog 131 #[.slice A0 l0.length c0, .slice A1 l1.length c1] w fun e w' => e = .returned (.bool r) ∧ Below w.heap.size w w' := by
  have HR0 := Aside0.mk hr0
  have HC0 := Aside0.mk hc0
  clear hr0 hc0
  have HR1 := Aside0.mk hr1
  have HC1 := Aside0.mk hc1
  clear hr1 hc1
  have HB := Aside0.mk (Below.refl w.heap.size w)
  have H := h
  clear h
  unfold spec_EqualInts.f at H
  go_enter Try.func131, Try.ntmps131
  by_cases c1 : (l0.length : Int) = (l1.length : Int)
  · rw [if_pos c1] at H
    have c1_x0 : (l0.length == l1.length) = true := by first | simpa using c1 | (simp at c1 ⊢; omega)
    have c1_0 := decT c1; have c1_1 := eqT c1; have c1_2 := neT c1
    clear c1
    first | rw [c1_1] | rw [c1_2] | skip
    replace H := Aside0.mk H
    go_wp2
    go_loopg [5] k (fun kq v5 w' => ∃ (x5_2 : Int), v5 = .int .i64 x5_2 ∧ Aside0 (spec_EqualInts.l0 kq l0 l1 x5_2 = some r) ∧ Aside0 (kq ≤ k) ∧ Aside0 (Below w.heap.size w w'))
    case atStart => exact ⟨(0), (by first | rfl | (simp; done) | (simp [*]; done)), H, ⟨Nat.le_refl _⟩, HB⟩
    case round =>
      clear H HB 
      try clear c1_x0 c1_0 c1_1 c1_2
      obtain ⟨x5_2, rfl, HA, Hk2, HB⟩ := hrel
      cases gk with
      | zero => exact absurd HA.out (by simp [spec_EqualInts.l0])
      | succ k2 =>
        have H := HA.out
        clear HA
        simp only [spec_EqualInts.l0] at H
        by_cases c3 : x5_2 < (l0.length : Int)
        · rw [if_pos c3] at H
          have c3_0 := decT c3
          replace c3 := Aside0.mk c3
          first | rw [c3_0] | skip
          by_cases c4 : 0 ≤ x5_2
          · rw [if_pos c4] at H
            have c4_0 := decT c4
            replace c4 := Aside0.mk c4
            have p184 : 0 ≤ (x5_2 : Int) := (of_decide_eq_true (by assumption))
            have q184 : x5_2 < (l0.length : Int) := (of_decide_eq_true (by assumption))
            obtain ⟨ad184, e184, hx184_0⟩ := Kd.at_int HR0.out x5_2 p184 q184
            cases e184
            replace hx184_0 := Aside0.mk hx184_0
            have y184_0 := xC HB hx184_0
            have r184 := eq_true p184; have s184 := eq_true q184
            replace p184 := Aside0.mk p184; replace q184 := Aside0.mk q184
            by_cases c5 : x5_2 < (l1.length : Int)
            · rw [if_pos c5] at H
              have c5_0 := decT c5
              replace c5 := Aside0.mk c5
              have p185 : 0 ≤ (x5_2 : Int) := (of_decide_eq_true (by assumption))
              have q185 : x5_2 < (l1.length : Int) := (of_decide_eq_true (by assumption))
              obtain ⟨ad185, e185, hx185_0⟩ := Kd.at_int HR1.out x5_2 p185 q185
              cases e185
              replace hx185_0 := Aside0.mk hx185_0
              have y185_0 := xC HB hx185_0
              have r185 := eq_true p185; have s185 := eq_true q185
              replace p185 := Aside0.mk p185; replace q185 := Aside0.mk q185
              replace H := Aside0.mk H
              try go_wp2
              go_quiet (fail)
              try clear y184_0 y185_0
              replace HB := qH HB nq
              generalize wr.drewN nq = W6 at HB ⊢
              clear nq
              replace H := H.out
              by_cases c7 : (rd l0 x5_2) = (rd l1 x5_2)
              · rw [if_pos c7] at H
                have c7_0 := decT c7; have c7_1 := eqT c7; have c7_2 := neT c7
                clear c7
                first | rw [c7_1] | rw [c7_2] | skip
                replace H := Aside0.mk H
                go_wp2
                go_roundg k2
                case measure => have := Hk2.out; omega
                case rel => exact ⟨(wrap64 (x5_2 + 1)), (by first | rfl | (simp; done) | (simp [*]; done)), H, ⟨by have := Hk2.out; omega⟩, HB⟩
              · rw [if_neg c7] at H
                have c7_0 := decF c7; have c7_1 := eqF c7; have c7_2 := neF c7
                clear c7
                first | rw [c7_1] | rw [c7_2] | skip
                obtain rfl := Option.some.inj H
                clear H
                go_wp2
                go_ret
                exact ⟨rfl, HB.out⟩
            · rw [if_neg c5] at H
              cases H
          · rw [if_neg c4] at H
            cases H
        · rw [if_neg c3] at H
          have c3_0 := decF c3
          replace c3 := Aside0.mk c3
          first | rw [c3_0] | skip
          obtain rfl := Option.some.inj H
          clear H
          go_wp2
          go_ret
          exact ⟨rfl, HB.out⟩
  · rw [if_neg c1] at H
    have c1_x0 : (l0.length == l1.length) = false := by first | simpa using c1 | (simp at c1 ⊢; omega)
    have c1_0 := decF c1; have c1_1 := eqF c1; have c1_2 := neF c1
    clear c1
    first | rw [c1_1] | rw [c1_2] | skip
    obtain rfl := Option.some.inj H
    clear H
    go_wp2
    go_ret
    exact ⟨rfl, HB.out⟩

/-! ### spec_l28Issuers: function 83 -/
def spec_l28Issuers.l0 : Nat → List (S107) → List (S107) → Int → Option (Bool)
  | 0, _, _, _ => none
  | k + 1, x0, x1, x5 => if x5 < (x0.length : Int) then (if 0 ≤ x5 then (if x5 < (x1.length : Int) then (if ((rd_T107 x0 x5).f0) = ((rd_T107 x1 x5).f0) then (if ((rd_T107 x0 x5).f2) = ((rd_T107 x1 x5).f2) then ((spec_EqualInts.f k ((rd_T107 x0 x5).f1) ((rd_T107 x1 x5).f1)).bind fun t192 => (if t192 = true then (spec_l28Issuers.l0 k x0 x1 (wrap64 (x5 + 1))) else (some false))) else (some false)) else (some false)) else (none)) else (none)) else (some true)
def spec_l28Issuers.f (k : Nat) (l0 : List (S107)) (l1 : List (S107)) : Option (Bool) := if (l0.length : Int) = (l1.length : Int) then (spec_l28Issuers.l0 k l0 l1 0) else (some false)
open Go.Proofs.YtineejdlpcgnkaaM in
set_option maxHeartbeats 8000000 in
set_option maxRecDepth 100000 in
theorem spec_l28Issuers.calls (k : Nat) (A0 : Option Addr) (c0 : Nat) (l0 : List (S107)) (A1 : Option Addr) (c1 : Nat) (l1 : List (S107)) (r : Bool) (w : World) (hr0 : Kd.C k107 w A0 l0.length l0) (hc0 : l0.length ≤ c0) (hr1 : Kd.C k107 w A1 l1.length l1) (hc1 : l1.length ≤ c1) (h : spec_l28Issuers.f k l0 l1 = some r) :
    Calls Try.prog 83 #[.slice A0 l0.length c0, .slice A1 l1.length c1] w fun e w' => e = .returned (.bool r) ∧ Below w.heap.size w w' := by
  have HR0 := Aside0.mk hr0
  have HC0 := Aside0.mk hc0
  clear hr0 hc0
  have HR1 := Aside0.mk hr1
  have HC1 := Aside0.mk hc1
  clear hr1 hc1
  have HB := Aside0.mk (Below.refl w.heap.size w)
  have H := h
  clear h
  unfold spec_l28Issuers.f at H
  have hu107 := Try.underlying107
  go_enter Try.func83, Try.ntmps83
  by_cases c1 : (l0.length : Int) = (l1.length : Int)
  · rw [if_pos c1] at H
    have c1_x0 : (l0.length == l1.length) = true := by first | simpa using c1 | (simp at c1 ⊢; omega)
    have c1_0 := decT c1; have c1_1 := eqT c1; have c1_2 := neT c1
    clear c1
    first | rw [c1_1] | rw [c1_2] | skip
    replace H := Aside0.mk H
    go_wp2
    go_loopg [5] k (fun kq v5 w' => ∃ (x5_2 : Int), v5 = .int .i64 x5_2 ∧ Aside0 (spec_l28Issuers.l0 kq l0 l1 x5_2 = some r) ∧ Aside0 (kq ≤ k) ∧ Aside0 (Below w.heap.size w w'))
    case atStart => exact ⟨(0), (by first | rfl | (simp; done) | (simp [*]; done)), H, ⟨Nat.le_refl _⟩, HB⟩
    case round =>
      clear H HB 
      try clear c1_x0 c1_0 c1_1 c1_2
      obtain ⟨x5_2, rfl, HA, Hk2, HB⟩ := hrel
      cases gk with
      | zero => exact absurd HA.out (by simp [spec_l28Issuers.l0])
      | succ k2 =>
        have H := HA.out
        clear HA
        simp only [spec_l28Issuers.l0] at H
        by_cases c3 : x5_2 < (l0.length : Int)
        · rw [if_pos c3] at H
          have c3_0 := decT c3
          replace c3 := Aside0.mk c3
          first | rw [c3_0] | skip
          by_cases c4 : 0 ≤ x5_2
          · rw [if_pos c4] at H
            have c4_0 := decT c4
            replace c4 := Aside0.mk c4
            have p186 : 0 ≤ (x5_2 : Int) := (of_decide_eq_true (by assumption))
            have q186 : x5_2 < (l0.length : Int) := (of_decide_eq_true (by assumption))
            obtain ⟨ad186, A186_1, c186_1, e186, hx186_0, hx186_1, hx186_2, hl186_1, hi186_1⟩ := at_T107 HR0.out x5_2 p186 q186
            cases e186
            have HR186_1 := Aside0.mk hi186_1; have HC186_1 := Aside0.mk hl186_1; clear hi186_1 hl186_1
            replace hx186_0 := Aside0.mk hx186_0
            replace hx186_1 := Aside0.mk hx186_1
            replace hx186_2 := Aside0.mk hx186_2
            have r186 := eq_true p186; have s186 := eq_true q186
            replace p186 := Aside0.mk p186; replace q186 := Aside0.mk q186
            by_cases c5 : x5_2 < (l1.length : Int)
            · rw [if_pos c5] at H
              have c5_0 := decT c5
              replace c5 := Aside0.mk c5
              have p187 : 0 ≤ (x5_2 : Int) := (of_decide_eq_true (by assumption))
              have q187 : x5_2 < (l1.length : Int) := (of_decide_eq_true (by assumption))
              obtain ⟨ad187, A187_1, c187_1, e187, hx187_0, hx187_1, hx187_2, hl187_1, hi187_1⟩ := at_T107 HR1.out x5_2 p187 q187
              cases e187
              have HR187_1 := Aside0.mk hi187_1; have HC187_1 := Aside0.mk hl187_1; clear hi187_1 hl187_1
              replace hx187_0 := Aside0.mk hx187_0
              replace hx187_1 := Aside0.mk hx187_1
              replace hx187_2 := Aside0.mk hx187_2
              have r187 := eq_true p187; have s187 := eq_true q187
              replace p187 := Aside0.mk p187; replace q187 := Aside0.mk q187
              by_cases c6 : ((rd_T107 l0 x5_2).f0) = ((rd_T107 l1 x5_2).f0)
              · rw [if_pos c6] at H
                have c6_0 := decT c6; have c6_1 := eqT c6; have c6_2 := neT c6
                clear c6
                by_cases c7 : ((rd_T107 l0 x5_2).f2) = ((rd_T107 l1 x5_2).f2)
                · rw [if_pos c7] at H
                  have c7_0 := decT c7; have c7_1 := eqT c7; have c7_2 := neT c7
                  clear c7
                  replace H := Option.bind_eq_some_iff.mp H
                  obtain ⟨t192, hm, H⟩ := H
                  try dsimp only at H
                  have HM8 := Aside0.mk hm
                  clear hm
                  replace H := Aside0.mk H
                  try go_wp2
                  as_aux_lemma =>
                    replace HB := dH HB
                    refine start_ (n := 38) (S := fun w' => w'.cell? (ad186.add ((x5_2).toNat * 3)) = some (.int .i64 ((rd_T107 l0 x5_2).f0)) ∧ w'.cell? ⟨(ad186.add ((x5_2).toNat * 3)).block, (ad186.add ((x5_2).toNat * 3)).off + 1, none⟩ = some (.slice A186_1 (rd_T107 l0 x5_2).f1.length c186_1) ∧ w'.cell? ⟨(ad186.add ((x5_2).toNat * 3)).block, (ad186.add ((x5_2).toNat * 3)).off + 2, none⟩ = some (.int .i64 ((rd_T107 l0 x5_2).f2)) ∧ w'.cell? (ad187.add ((x5_2).toNat * 3)) = some (.int .i64 ((rd_T107 l1 x5_2).f0)) ∧ w'.cell? ⟨(ad187.add ((x5_2).toNat * 3)).block, (ad187.add ((x5_2).toNat * 3)).off + 1, none⟩ = some (.slice A187_1 (rd_T107 l1 x5_2).f1.length c187_1) ∧ w'.cell? ⟨(ad187.add ((x5_2).toNat * 3)).block, (ad187.add ((x5_2).toNat * 3)).off + 2, none⟩ = some (.int .i64 ((rd_T107 l1 x5_2).f2))) (ds := []) #[false, false, false, false, false, false, false, false, false, false, false, false, false, false, false, false, false, false, false, false, false, false, false, false, false, false, false, false, false, false, false, false, false, false, false, false, false, false] (by kernel_rfl) rfl rfl ⟨xC HB hx186_0, xC HB hx186_1, xC HB hx186_2, xC HB hx187_0, xC HB hx187_1, xC HB hx187_2⟩ (fun hHeld => ?_)
                    generalize wr.drew = W9 at HB hHeld ⊢
                    refine pu 0 (some 17) 1 ?_; refine pu 1 (some 18) 3 ?_; refine pu 2 (some 19) 7 ?_; refine pu 3 (some 20) 15 ?_; refine pu 5 (some 22) 47 ?_; refine pu 6 (some 23) 111 ?_; refine pu 7 (some 24) 239 ?_; refine pu 8 (some 25) 495 ?_; refine ld 4 (some 21) 511 hHeld ?_; refine ld 9 (some 26) 1023 hHeld ?_; refine pu 10 (some 27) 2047 ?_; refine pu 11 (some 28) 4095 ?_; refine pu 12 (some 29) 8191 ?_; refine pu 13 (some 30) 16383 ?_; refine pu 14 (some 31) 32767 ?_; refine pu 15 (some 32) 65535 ?_; refine pu 17 (some 34) 196607 ?_; refine pu 18 (some 35) 458751 ?_; refine pu 19 (some 36) 983039 ?_; refine pu 20 (some 37) 2031615 ?_; refine ld 16 (some 33) 2097151 hHeld ?_; refine ld 21 (some 38) 4194303 hHeld ?_; refine pu 22 (some 39) 8388607 ?_; refine pu 23 (some 40) 16777215 ?_; refine pu 24 (some 41) 33554431 ?_; refine pu 25 (some 42) 67108863 ?_; refine pu 26 (some 43) 134217727 ?_; refine pu 27 (some 44) 268435455 ?_; refine pu 28 (some 45) 536870911 ?_; refine pu 30 (some 47) 1610612735 ?_; refine pu 31 (some 48) 3758096383 ?_; refine pu 32 (some 49) 8053063679 ?_; refine pu 33 (some 50) 16642998271 ?_; refine ld 29 (some 46) 17179869183 hHeld ?_; refine ld 34 (some 51) 34359738367 hHeld ?_
                    refine one_ (i := 35) (N := some 52) #[true, true, true, true, true, true, true, true, true, true, true, true, true, true, true, true, true, true, true, true, true, true, true, true, true, true, true, true, true, true, true, true, true, true, true, true, false, false] rfl rfl (by kernel_rfl) (by decide) (fun K hK => ?_)
                    have hcall := spec_EqualInts.calls k2 _ _ _ _ _ _ _ W9 (Kd.C_below HR186_1.out HB.out) HC186_1.out (Kd.C_below HR187_1.out HB.out) HC187_1.out HM8.out
                    refine goes_ Try.func131 (by kernel_rfl) rfl #[.slice A186_1 ((rd_T107 l0 x5_2).f1).length c186_1, .slice A187_1 ((rd_T107 l1 x5_2).f1).length c187_1] (by rfl) rfl rfl (by (try simp only [List.map_toArray, List.map_cons, List.map_nil]); first | done | rfl) ?_
                    refine hcall.mono ?_
                    rintro e W10 ⟨rfl, hb⟩
                    refine ⟨_, rfl, ?_⟩
                    clear hcall
                    replace HB := bH HB hb; clear hb
                    refine hK.out _ _ ⟨xC HB hx186_0, xC HB hx186_1, xC HB hx186_2, xC HB hx187_0, xC HB hx187_1, xC HB hx187_2⟩ (fun hHeld => ?_)
                    clear hK K
                    refine norm_ (a' := ?_) ?_ ?_
                    rotate_left
                    · show Act.put _ (some 52) _ = _
                      simp only [Act.put, List.setIfInBounds_toArray, List.set_cons_zero, List.set_cons_succ, i64_w, i32_w]
                      rfl
                    refine pu 36 (some 53) 137438953471 ?_; refine pu 37 (some 54) 274877906943 ?_
                    refine done_ (by kernel_rfl) ?_
                    clear hHeld
                    replace H := H.out
                    by_cases c11 : t192 = true
                    · rw [if_pos c11] at H
                      subst c11
                      replace H := Aside0.mk H
                      go_wp2
                      go_roundg k2
                      case measure => have := Hk2.out; omega
                      case rel => exact ⟨(wrap64 (x5_2 + 1)), (by first | rfl | (simp; done) | (simp [*]; done)), H, ⟨by have := Hk2.out; omega⟩, HB⟩
                    · rw [if_neg c11] at H
                      replace c11 := (Bool.not_eq_true _).mp c11
                      subst c11
                      obtain rfl := Option.some.inj H
                      clear H
                      go_wp2
                      go_ret
                      exact ⟨rfl, HB.out⟩
                · rw [if_neg c7] at H
                  have c7_0 := decF c7; have c7_1 := eqF c7; have c7_2 := neF c7
                  clear c7
                  replace H := Aside0.mk H
                  try go_wp2
                  as_aux_lemma =>
                    replace HB := dH HB
                    refine start_ (n := 38) (S := fun w' => w'.cell? (ad186.add ((x5_2).toNat * 3)) = some (.int .i64 ((rd_T107 l0 x5_2).f0)) ∧ w'.cell? ⟨(ad186.add ((x5_2).toNat * 3)).block, (ad186.add ((x5_2).toNat * 3)).off + 1, none⟩ = some (.slice A186_1 (rd_T107 l0 x5_2).f1.length c186_1) ∧ w'.cell? ⟨(ad186.add ((x5_2).toNat * 3)).block, (ad186.add ((x5_2).toNat * 3)).off + 2, none⟩ = some (.int .i64 ((rd_T107 l0 x5_2).f2)) ∧ w'.cell? (ad187.add ((x5_2).toNat * 3)) = some (.int .i64 ((rd_T107 l1 x5_2).f0)) ∧ w'.cell? ⟨(ad187.add ((x5_2).toNat * 3)).block, (ad187.add ((x5_2).toNat * 3)).off + 1, none⟩ = some (.slice A187_1 (rd_T107 l1 x5_2).f1.length c187_1) ∧ w'.cell? ⟨(ad187.add ((x5_2).toNat * 3)).block, (ad187.add ((x5_2).toNat * 3)).off + 2, none⟩ = some (.int .i64 ((rd_T107 l1 x5_2).f2))) (ds := []) #[false, false, false, false, false, false, false, false, false, false, false, false, false, false, false, false, false, false, false, false, false, false, false, false, false, false, false, false, false, false, false, false, false, false, false, false, false, false] (by kernel_rfl) rfl rfl ⟨xC HB hx186_0, xC HB hx186_1, xC HB hx186_2, xC HB hx187_0, xC HB hx187_1, xC HB hx187_2⟩ (fun hHeld => ?_)
                    generalize wr.drew = W12 at HB hHeld ⊢
                    refine pu 0 (some 17) 1 ?_; refine pu 1 (some 18) 3 ?_; refine pu 2 (some 19) 7 ?_; refine pu 3 (some 20) 15 ?_; refine pu 5 (some 22) 47 ?_; refine pu 6 (some 23) 111 ?_; refine pu 7 (some 24) 239 ?_; refine pu 8 (some 25) 495 ?_; refine ld 4 (some 21) 511 hHeld ?_; refine ld 9 (some 26) 1023 hHeld ?_; refine pu 10 (some 27) 2047 ?_; refine pu 11 (some 28) 4095 ?_; refine pu 12 (some 29) 8191 ?_; refine pu 13 (some 30) 16383 ?_; refine pu 14 (some 31) 32767 ?_; refine pu 15 (some 32) 65535 ?_; refine pu 17 (some 34) 196607 ?_; refine pu 18 (some 35) 458751 ?_; refine pu 19 (some 36) 983039 ?_; refine pu 20 (some 37) 2031615 ?_; refine ld 16 (some 33) 2097151 hHeld ?_; refine ld 21 (some 38) 4194303 hHeld ?_; refine pu 22 (some 39) 8388607 ?_; refine pu 23 (some 40) 16777215 ?_; refine pu 24 (some 41) 33554431 ?_; refine sk 25 (some 42) 67108863 ?_; refine sk 26 (some 43) 134217727 ?_; refine sk 27 (some 44) 268435455 ?_; refine sk 28 (some 45) 536870911 ?_; refine sk 29 (some 46) 1073741823 ?_; refine sk 30 (some 47) 2147483647 ?_; refine sk 31 (some 48) 4294967295 ?_; refine sk 32 (some 49) 8589934591 ?_; refine sk 33 (some 50) 17179869183 ?_; refine sk 34 (some 51) 34359738367 ?_; refine sk 35 (some 52) 68719476735 ?_; refine sk 36 (some 53) 137438953471 ?_; refine pu 37 (some 54) 274877906943 ?_
                    refine done_ (by kernel_rfl) ?_
                    clear hHeld
                    replace H := H.out
                    obtain rfl := Option.some.inj H
                    clear H
                    go_wp2
                    go_ret
                    exact ⟨rfl, HB.out⟩
              · rw [if_neg c6] at H
                have c6_0 := decF c6; have c6_1 := eqF c6; have c6_2 := neF c6
                clear c6
                replace H := Aside0.mk H
                try go_wp2
                as_aux_lemma =>
                  replace HB := dH HB
                  refine start_ (n := 38) (S := fun w' => w'.cell? (ad186.add ((x5_2).toNat * 3)) = some (.int .i64 ((rd_T107 l0 x5_2).f0)) ∧ w'.cell? ⟨(ad186.add ((x5_2).toNat * 3)).block, (ad186.add ((x5_2).toNat * 3)).off + 1, none⟩ = some (.slice A186_1 (rd_T107 l0 x5_2).f1.length c186_1) ∧ w'.cell? ⟨(ad186.add ((x5_2).toNat * 3)).block, (ad186.add ((x5_2).toNat * 3)).off + 2, none⟩ = some (.int .i64 ((rd_T107 l0 x5_2).f2)) ∧ w'.cell? (ad187.add ((x5_2).toNat * 3)) = some (.int .i64 ((rd_T107 l1 x5_2).f0)) ∧ w'.cell? ⟨(ad187.add ((x5_2).toNat * 3)).block, (ad187.add ((x5_2).toNat * 3)).off + 1, none⟩ = some (.slice A187_1 (rd_T107 l1 x5_2).f1.length c187_1) ∧ w'.cell? ⟨(ad187.add ((x5_2).toNat * 3)).block, (ad187.add ((x5_2).toNat * 3)).off + 2, none⟩ = some (.int .i64 ((rd_T107 l1 x5_2).f2))) (ds := []) #[false, false, false, false, false, false, false, false, false, false, false, false, false, false, false, false, false, false, false, false, false, false, false, false, false, false, false, false, false, false, false, false, false, false, false, false, false, false] (by kernel_rfl) rfl rfl ⟨xC HB hx186_0, xC HB hx186_1, xC HB hx186_2, xC HB hx187_0, xC HB hx187_1, xC HB hx187_2⟩ (fun hHeld => ?_)
                  generalize wr.drew = W13 at HB hHeld ⊢
                  refine pu 0 (some 17) 1 ?_; refine pu 1 (some 18) 3 ?_; refine pu 2 (some 19) 7 ?_; refine pu 3 (some 20) 15 ?_; refine pu 5 (some 22) 47 ?_; refine pu 6 (some 23) 111 ?_; refine pu 7 (some 24) 239 ?_; refine pu 8 (some 25) 495 ?_; refine ld 4 (some 21) 511 hHeld ?_; refine ld 9 (some 26) 1023 hHeld ?_; refine pu 10 (some 27) 2047 ?_; refine pu 11 (some 28) 4095 ?_; refine sk 12 (some 29) 8191 ?_; refine sk 13 (some 30) 16383 ?_; refine sk 14 (some 31) 32767 ?_; refine sk 15 (some 32) 65535 ?_; refine sk 16 (some 33) 131071 ?_; refine sk 17 (some 34) 262143 ?_; refine sk 18 (some 35) 524287 ?_; refine sk 19 (some 36) 1048575 ?_; refine sk 20 (some 37) 2097151 ?_; refine sk 21 (some 38) 4194303 ?_; refine sk 22 (some 39) 8388607 ?_; refine pu 23 (some 40) 16777215 ?_; refine pu 24 (some 41) 33554431 ?_; refine sk 25 (some 42) 67108863 ?_; refine sk 26 (some 43) 134217727 ?_; refine sk 27 (some 44) 268435455 ?_; refine sk 28 (some 45) 536870911 ?_; refine sk 29 (some 46) 1073741823 ?_; refine sk 30 (some 47) 2147483647 ?_; refine sk 31 (some 48) 4294967295 ?_; refine sk 32 (some 49) 8589934591 ?_; refine sk 33 (some 50) 17179869183 ?_; refine sk 34 (some 51) 34359738367 ?_; refine sk 35 (some 52) 68719476735 ?_; refine sk 36 (some 53) 137438953471 ?_; refine pu 37 (some 54) 274877906943 ?_
                  refine done_ (by kernel_rfl) ?_
                  clear hHeld
                  replace H := H.out
                  obtain rfl := Option.some.inj H
                  clear H
                  go_wp2
                  go_ret
                  exact ⟨rfl, HB.out⟩
            · rw [if_neg c5] at H
              cases H
          · rw [if_neg c4] at H
            cases H
        · rw [if_neg c3] at H
          have c3_0 := decF c3
          replace c3 := Aside0.mk c3
          first | rw [c3_0] | skip
          obtain rfl := Option.some.inj H
          clear H
          go_wp2
          go_ret
          exact ⟨rfl, HB.out⟩
  · rw [if_neg c1] at H
    have c1_x0 : (l0.length == l1.length) = false := by first | simpa using c1 | (simp at c1 ⊢; omega)
    have c1_0 := decF c1; have c1_1 := eqF c1; have c1_2 := neF c1
    clear c1
    first | rw [c1_1] | rw [c1_2] | skip
    obtain rfl := Option.some.inj H
    clear H
    go_wp2
    go_ret
    exact ⟨rfl, HB.out⟩

end Go.Proofs.Ytineejdlpcgnkaa.QFnExactEqualCenters
