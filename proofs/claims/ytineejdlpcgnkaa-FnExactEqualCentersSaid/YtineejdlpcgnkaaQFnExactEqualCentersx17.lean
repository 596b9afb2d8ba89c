/- The machine side of FnExactEqualCenters: what each function that it reaches computes, and that the machine's call gives just that. -/
import Derived.Test.YtineejdlpcgnkaaQFnExactEqualCentersx0
import Derived.Test.YtineejdlpcgnkaaQFnExactEqualCentersx2
import Derived.Test.YtineejdlpcgnkaaQFnExactEqualCentersx16
namespace Go.Proofs.Ytineejdlpcgnkaa.QFnExactEqualCenters
open Go.RowKit Go.Proofs.YtineejdlpcgnkaaW.PrintWords Go.Proofs.YtineejdlpcgnkaaW.PrintLast Go.Proofs.YtineejdlpcgnkaaW.PrintMore
attribute [local go_sem] max2_int min2_int max_two min_two max_three min_three max_four min_four   -- for this text's walks alone
set_option linter.unusedVariables false
set_option linter.unusedSimpArgs false

attribute [local go_sem high] eqA118
/-! ### slices_Equal_int_int: function 134 -/
def slices_Equal_int_int.l0 : Nat → List Int → List Int → Int → Int → Option (Bool)
  | 0, _, _, _, _ => none
  | k + 1, x0, x1, x12, x13 => if x13 < x12 then (if 0 ≤ x13 then (if x13 < (x0.length : Int) then (if x13 < (x1.length : Int) then (if (rd x0 x13) = (rd x1 x13) then (slices_Equal_int_int.l0 k x0 x1 x12 (wrap64 (x13 + 1))) else (some false)) else (none)) else (none)) else (none)) else (some true)
def slices_Equal_int_int.f (k : Nat) (l0 : List Int) (l1 : List Int) : Option (Bool) := if (l0.length : Int) = (l1.length : Int) then (slices_Equal_int_int.l0 k l0 l1 (l0.length : Int) 0) else (some false)
set_option maxHeartbeats 8000000 in
set_option maxRecDepth 100000 in
theorem slices_Equal_int_int.calls (k : Nat) (A0 : Option Addr) (c0 : Nat) (l0 : List Int) (A1 : Option Addr) (c1 : Nat) (l1 : List Int) (r : Bool) (w : World) (hr0 : Kd.C (Kd.int .i64) w A0 l0.length l0) (hc0 : l0.length ≤ c0) (hr1 : Kd.C (Kd.int .i64) w A1 l1.length l1) (hc1 : l1.length ≤ c1) (h : slices_Equal_int_int.f k l0 l1 = some r) :
    Calls Try.prog 134 #[.slice A0 l0.length c0, .slice A1 l1.length c1] w fun e w' => e = .returned (.bool r) ∧ Drawn0 w w' := by
  have HR0 := Aside0.mk hr0
  have HC0 := Aside0.mk hc0
  clear hr0 hc0
  have HR1 := Aside0.mk hr1
  have HC1 := Aside0.mk hc1
  clear hr1 hc1
  have H : (if (l0.length : Int) = (l1.length : Int) then (slices_Equal_int_int.l0 k l0 l1 (l0.length : Int) 0) else (some false)) = some r := h
  clear h
  by_cases c3 : (l0.length : Int) = (l1.length : Int)
  · rw [if_pos c3] at H
    have c3b0 : ((l0.length : Int) == (l1.length : Int)) = true := beq_iff_eq.mpr c3
    have c3b1 : ((l0.length : Int) != (l1.length : Int)) = false := bne_eq_false_iff_eq.mpr c3
    have c3b2 : (l0.length == l1.length) = true := by first | simpa using c3 | (simp at c3 ⊢; omega)
    clear c3
    have H' := Aside0.mk H
    clear H
    go_enter Try.func134, Try.ntmps134
    go_wp2
    repeat (go_quiet (fail); try go_wp2)
    go_loopg [13] k (fun kq v13 w' => ∃ (x13_1 : Int), v13 = .int .i64 x13_1 ∧ Aside0 (slices_Equal_int_int.l0 kq l0 l1 (l0.length : Int) x13_1 = some r) ∧ Aside0 (kq ≤ k) ∧ Drawn0 w w')
    case atStart => exact ⟨(0), (by first | rfl | (simp; done) | (simp [*]; done)), H', ⟨Nat.le_refl _⟩, by repeat (first | exact Drawn0.refl _ | apply Drawn0.step)⟩
    case round =>
      clear H'
      try clear c1
      try clear p2
      try clear c3
      try clear c3b0
      try clear c3b1
      try clear c3b2
      obtain ⟨x13_1, rfl, HA, HK1, ⟨m1, rfl⟩⟩ := hrel
      cases gk with
      | zero => exact absurd HA.out (by simp [slices_Equal_int_int.l0])
      | succ k1 =>
        have H := HA.out
        clear HA
        simp only [slices_Equal_int_int.l0] at H
        by_cases c4 : x13_1 < (l0.length : Int)
        · rw [if_pos c4] at H
          have c4b0 : decide (x13_1 < (l0.length : Int)) = true := decide_eq_true c4
          clear c4
          by_cases c5 : 0 ≤ x13_1
          · rw [if_pos c5] at H
            have c5b0 : decide (0 ≤ x13_1) = true := decide_eq_true c5
            clear c5
            by_cases c6 : x13_1 < (l0.length : Int)
            · rw [if_pos c6] at H
              have c6b0 : decide (x13_1 < (l0.length : Int)) = true := decide_eq_true c6
              clear c6
              by_cases c7 : x13_1 < (l1.length : Int)
              · rw [if_pos c7] at H
                have c7b0 : decide (x13_1 < (l1.length : Int)) = true := decide_eq_true c7
                clear c7
                by_cases c8 : (rd l0 x13_1) = (rd l1 x13_1)
                · rw [if_pos c8] at H
                  have c8b0 : ((rd l0 x13_1) == (rd l1 x13_1)) = true := beq_iff_eq.mpr c8
                  have c8b1 : ((rd l0 x13_1) != (rd l1 x13_1)) = false := bne_eq_false_iff_eq.mpr c8
                  clear c8
                  have H' := Aside0.mk H
                  clear H
                  have p380 : 0 ≤ (x13_1 : Int) := of_decide_eq_true (by first | (with_reducible assumption) | assumption)
                  have q380 : x13_1 < (l0.length : Int) := of_decide_eq_true (by first | (with_reducible assumption) | assumption)
                  obtain ⟨ad380, e380, hx380_0⟩ := Kd.at_int HR0.out x13_1 p380 q380
                  cases e380
                  replace p380 := eq_true p380
                  replace q380 := eq_true q380
                  have p381 : 0 ≤ (x13_1 : Int) := of_decide_eq_true (by first | (with_reducible assumption) | assumption)
                  have q381 : x13_1 < (l1.length : Int) := of_decide_eq_true (by first | (with_reducible assumption) | assumption)
                  obtain ⟨ad381, e381, hx381_0⟩ := Kd.at_int HR1.out x13_1 p381 q381
                  cases e381
                  replace p381 := eq_true p381
                  replace q381 := eq_true q381
                  go_wp2
                  repeat (go_quiet (fail); try go_wp2)
                  go_roundg k1
                  case measure => have := HK1.out; omega
                  case rel => exact ⟨(wrap64 (x13_1 + 1)), (by first | rfl | (simp; done) | (simp [*]; done)), H', ⟨by have := HK1.out; omega⟩, by repeat (first | exact Drawn0.refl _ | apply Drawn0.step)⟩
                · rw [if_neg c8] at H
                  have c8b0 : ((rd l0 x13_1) == (rd l1 x13_1)) = false := beq_eq_false_iff_ne.mpr c8
                  have c8b1 : ((rd l0 x13_1) != (rd l1 x13_1)) = true := bne_iff_ne.mpr c8
                  obtain rfl := Option.some.inj H
                  have p380 : 0 ≤ (x13_1 : Int) := of_decide_eq_true (by first | (with_reducible assumption) | assumption)
                  have q380 : x13_1 < (l0.length : Int) := of_decide_eq_true (by first | (with_reducible assumption) | assumption)
                  obtain ⟨ad380, e380, hx380_0⟩ := Kd.at_int HR0.out x13_1 p380 q380
                  cases e380
                  replace p380 := eq_true p380
                  replace q380 := eq_true q380
                  have p381 : 0 ≤ (x13_1 : Int) := of_decide_eq_true (by first | (with_reducible assumption) | assumption)
                  have q381 : x13_1 < (l1.length : Int) := of_decide_eq_true (by first | (with_reducible assumption) | assumption)
                  obtain ⟨ad381, e381, hx381_0⟩ := Kd.at_int HR1.out x13_1 p381 q381
                  cases e381
                  replace p381 := eq_true p381
                  replace q381 := eq_true q381
                  go_wp2
                  repeat (go_quiet (fail); try go_wp2)
                  go_ret
                  exact ⟨by first | rfl | (simp; done) | (simp [*]; done), by repeat (first | exact Drawn0.refl _ | apply Drawn0.step)⟩
              · rw [if_neg c7] at H
                exact absurd H (by simp)
            · rw [if_neg c6] at H
              exact absurd H (by simp)
          · rw [if_neg c5] at H
            exact absurd H (by simp)
        · rw [if_neg c4] at H
          have c4b0 : decide (x13_1 < (l0.length : Int)) = false := decide_eq_false c4
          clear c4
          obtain rfl := Option.some.inj H
          go_wp2
          repeat (go_quiet (fail); try go_wp2)
          go_ret
          exact ⟨by first | rfl | (simp; done) | (simp [*]; done), by repeat (first | exact Drawn0.refl _ | apply Drawn0.step)⟩
  · rw [if_neg c3] at H
    have c3b0 : ((l0.length : Int) == (l1.length : Int)) = false := beq_eq_false_iff_ne.mpr c3
    have c3b1 : ((l0.length : Int) != (l1.length : Int)) = true := bne_iff_ne.mpr c3
    have c3b2 : (l0.length == l1.length) = false := by first | simpa using c3 | (simp at c3 ⊢; omega)
    obtain rfl := Option.some.inj H
    go_enter Try.func134, Try.ntmps134
    go_wp2
    repeat (go_quiet (fail); try go_wp2)
    go_ret
    exact ⟨by first | rfl | (simp; done) | (simp [*]; done), by repeat (first | exact Drawn0.refl _ | apply Drawn0.step)⟩

/-! ### impl_equalIssuers: function 88 -/
def impl_equalIssuers.f (k : Nat) (a0_0 : Int) (l0_1 : List Int) (a0_2 : Int) (a1_0 : Int) (l1_1 : List Int) (a1_2 : Int) : Option (Bool) := if a0_0 = a1_0 then ((slices_Equal_int_int.f k l0_1 l1_1).bind fun t384 => (if t384 = true then (some (a0_2 == a1_2)) else (some false))) else (some false)
open Go.Proofs.YtineejdlpcgnkaaM in
set_option maxHeartbeats 8000000 in
set_option maxRecDepth 100000 in
theorem impl_equalIssuers.calls (k : Nat) (a0_0 : Int) (A0_1 : Option Addr) (c0_1 : Nat) (l0_1 : List Int) (a0_2 : Int) (a1_0 : Int) (A1_1 : Option Addr) (c1_1 : Nat) (l1_1 : List Int) (a1_2 : Int) (r : Bool) (w : World) (hr0_1 : Kd.C (Kd.int .i64) w A0_1 l0_1.length l0_1) (hc0_1 : l0_1.length ≤ c0_1) (hr1_1 : Kd.C (Kd.int .i64) w A1_1 l1_1.length l1_1) (hc1_1 : l1_1.length ≤ c1_1) (h : impl_equalIssuers.f k a0_0 l0_1 a0_2 a1_0 l1_1 a1_2 = some r) :
    Calls Try.prog 88 #[.agg #[.int .i64 a0_0, .slice A0_1 l0_1.length c0_1, .int .i64 a0_2], .agg #[.int .i64 a1_0, .slice A1_1 l1_1.length c1_1, .int .i64 a1_2]] w fun e w' => e = .returned (.bool r) ∧ Below w.heap.size w w' := by
  have HR0_1 := Aside0.mk hr0_1
  have HC0_1 := Aside0.mk hc0_1
  clear hr0_1 hc0_1
  have HR1_1 := Aside0.mk hr1_1
  have HC1_1 := Aside0.mk hc1_1
  clear hr1_1 hc1_1
  have HB := Aside0.mk (Below.refl w.heap.size w)
  have H := h
  clear h
  unfold impl_equalIssuers.f at H
  have hu107 := Try.underlying107
  go_enter Try.func88, Try.ntmps88
  replace H := Aside0.mk H
  go_upto_region 1 with (first | ((with_reducible refine gate_dst (N := 2) rfl ?_); refine box_event ?hg (N := 2) ?hd (cs := #[.int .i64 a0_0, .slice A0_1 l0_1.length c0_1, .int .i64 a0_2]) (t := 107) ?hr ?_; (case hd => rfl); (case hg => rfl); (case hr => first | (go_simp; done) | (go_simp; rfl)); intro gb1 hg W1 hbox hb; replace HB := bH HB hb; clear hb; have BK1 := Aside0.mk hbox; have c_BK1 := blk_cell hbox; have z_BK1 := blk_frozen hbox; clear hg hbox) | ((with_reducible refine gate_dst (N := 3) rfl ?_); refine box_event ?hg (N := 3) ?hd (cs := #[.int .i64 a1_0, .slice A1_1 l1_1.length c1_1, .int .i64 a1_2]) (t := 107) ?hr ?_; (case hd => rfl); (case hg => rfl); (case hr => first | (go_simp; done) | (go_simp; rfl)); intro gb2 hg W2 hbox hb; replace BK1 := bK BK1 hb; replace c_BK1 := blk_cell BK1.out; replace z_BK1 := blk_frozen BK1.out; replace HB := bH HB hb; clear hb; have BK2 := Aside0.mk hbox; have c_BK2 := blk_cell hbox; have z_BK2 := blk_frozen hbox; clear hg hbox))
  replace H := H.out
  by_cases c3 : a0_0 = a1_0
  · rw [if_pos c3] at H
    have c3_0 := decT c3; have c3_1 := eqT c3; have c3_2 := neT c3
    clear c3
    first | rw [c3_1] | rw [c3_2] | skip
    replace H := Option.bind_eq_some_iff.mp H
    obtain ⟨t384, hm, H⟩ := H
    try dsimp only at H
    replace H := Aside0.mk H
    have hcall := slices_Equal_int_int.calls k _ _ _ _ _ _ _ W2 (Kd.C_below HR0_1.out HB.out) HC0_1.out (Kd.C_below HR1_1.out HB.out) HC1_1.out hm
    clear hm
    go_wp2_with fail
    refine hcall.mono ?_
    rintro e W4 ⟨rfl, hd⟩
    clear hcall
    have hb : Below W2.heap.size W2 W4 := hd.below; clear hd
    replace BK1 := bK BK1 hb; replace c_BK1 := blk_cell BK1.out; replace z_BK1 := blk_frozen BK1.out
    replace BK2 := bK BK2 hb; replace c_BK2 := blk_cell BK2.out; replace z_BK2 := blk_frozen BK2.out
    replace HB := bH HB hb; clear hb
    replace H := H.out
    by_cases c5 : t384 = true
    · rw [if_pos c5] at H
      subst c5
      obtain rfl := Option.some.inj H
      clear H
      go_wp2
      go_ret
      exact ⟨rfl, HB.out⟩
    · rw [if_neg c5] at H
      replace c5 := (Bool.not_eq_true _).mp c5
      subst c5
      obtain rfl := Option.some.inj H
      clear H
      go_wp2
      go_ret
      exact ⟨rfl, HB.out⟩
  · rw [if_neg c3] at H
    have c3_0 := decF c3; have c3_1 := eqF c3; have c3_2 := neF c3
    clear c3
    first | rw [c3_1] | rw [c3_2] | skip
    obtain rfl := Option.some.inj H
    clear H
    go_wp2
    go_ret
    exact ⟨rfl, HB.out⟩

/-! ### eqf87: function 87 -/
set_option maxHeartbeats 8000000 in
set_option maxRecDepth 100000 in
open Go.Proofs.YtineejdlpcgnkaaH in
theorem eqf87.calls (g : Nat) (lb : Array Value) (eg : ∀ args w, (callFunc g args).run Try.prog w = .ok (.enter g args) w) (p : S107 → S107 → Option Bool) (A0 : Option Addr) (c0 : Nat) (l0 : List S107) (A1 : Option Addr) (c1 : Nat) (l1 : List S107) (r : Bool) (w : World)
    (hp : ∀ (W : World) (x y : S107) (E1 : Option Addr) (d1 : Nat) (G1 : Option Addr) (h1 : Nat) (b : Bool), Below w.heap.size w W → (x).f1.length ≤ d1 → Kd.C (Kd.int .i64) W E1 (x).f1.length ((x).f1) → (y).f1.length ≤ h1 → Kd.C (Kd.int .i64) W G1 (y).f1.length ((y).f1) → p x y = some b → Calls Try.prog g (#[.agg #[.int .i64 ((x).f0), .slice E1 (x).f1.length d1, .int .i64 ((x).f2)], .agg #[.int .i64 ((y).f0), .slice G1 (y).f1.length h1, .int .i64 ((y).f2)]] ++ lb) W fun e w' => e = .returned (.bool b) ∧ Below w.heap.size w w')
    (hr0 : Kd.C k107 w A0 l0.length l0) (hc0 : l0.length ≤ c0) (hr1 : Kd.C k107 w A1 l1.length l1) (hc1 : l1.length ≤ c1) (h : eqO p l0 l1 = some r) :
    Calls Try.prog 87 #[.slice A0 l0.length c0, .slice A1 l1.length c1, .func (.func g) #[] lb] w fun e w' => e = .returned (.bool r) ∧ Below w.heap.size w w' := by
  have hu107 := Try.underlying107
  have HLEN : Aside0 (l0.length ≤ 9223372036854775807) := ⟨hr0.2.1⟩
  have HR0 := Aside0.mk hr0
  have HR1 := Aside0.mk hr1
  have HP := Aside0.mk hp
  unfold eqO at h
  by_cases hl : l0.length = l1.length
  rotate_left
  · rw [if_neg hl] at h
    obtain rfl := Option.some.inj h
    have c1b : (l0.length == l1.length) = false := by simpa using hl
    have c2b : (l0.length != l1.length) = true := by simpa using hl
    have c3b : ((l0.length : Int) == (l1.length : Int)) = false := beq_eq_false_iff_ne.mpr (by omega)
    have c4b : ((l0.length : Int) != (l1.length : Int)) = true := bne_iff_ne.mpr (by omega)
    clear hr0 hc0 hr1 hc1 h hp HP hl eg
    go_enter Try.func87, Try.ntmps87
    go_wp2
    go_ret
    exact ⟨rfl, Below.refl _ _⟩
  · rw [if_pos hl] at h
    have c1b : (l0.length == l1.length) = true := by simpa using hl
    have c2b : (l0.length != l1.length) = false := by simpa using hl
    have c3b : ((l0.length : Int) == (l1.length : Int)) = true := beq_iff_eq.mpr (by omega)
    have c4b : ((l0.length : Int) != (l1.length : Int)) = false := bne_eq_false_iff_eq.mpr (by omega)
    have HL := Aside0.mk hl
    have H' := Aside0.mk (show allO p (l0.drop (0 : Int).toNat) (l1.drop (0 : Int).toNat) = some r from h)
    clear hr0 hc0 hr1 hc1 h hp hl
    go_enter Try.func87, Try.ntmps87
    go_wp2
    go_loopg [17] l0.length (fun gg v17 wr => ∃ x : Int, v17 = .int .i64 x ∧ Aside0 (0 ≤ x ∧ x ≤ l0.length ∧ l0.length - x.toNat ≤ gg) ∧ Aside0 (Below w.heap.size w wr) ∧ Aside0 (allO p (l0.drop x.toNat) (l1.drop x.toNat) = some r))
    case atStart => exact ⟨0, rfl, ⟨by omega, by omega, by omega⟩, ⟨Below.refl _ w⟩, H'⟩
    case round =>
      clear H'
      obtain ⟨x, rfl, HX, BW, HA⟩ := hrel
      by_cases hlt : x < (l0.length : Int)
      · have b1 : decide (x < (l0.length : Int)) = true := decide_eq_true hlt
        have p1 : 0 ≤ x := HX.out.1
        have q1 : x < (l0.length : Int) := hlt
        have q2 : x < (l1.length : Int) := by have := HL.out; omega
        have b2 : decide (x < (l1.length : Int)) = true := decide_eq_true q2
        obtain ⟨b, hb, hf, ht⟩ := allO_at (z := z107) (z' := z107) HA.out p1 q1 q2
        have HB := Aside0.mk hb
        have HQ := Aside0.mk hlt
        clear hb HA
        obtain ⟨ada, E1, d1, ea, ha0, ha1, ha2, la1, ga1⟩ := at_T107 (Kd.C_below HR0.out BW.out) x p1 q1
        obtain ⟨adb, G1, h1, eb, hb0, hb1, hb2, lb1, gb1⟩ := at_T107 (Kd.C_below HR1.out BW.out) x p1 q2
        cases ea
        cases eb
        have La1 := Aside0.mk la1; have Ga1 := Aside0.mk ga1; have Lb1 := Aside0.mk lb1; have Gb1 := Aside0.mk gb1; clear la1 ga1 lb1 gb1
        have p1' := eq_true p1
        have q1' := eq_true q1
        have q2' := eq_true q2
        clear p1 q1 q2 hlt
        replace hb0 := cell_kept (.cells #[.int .i64 ((rd_T107 l0 x).f0), .slice E1 (rd_T107 l0 x).f1.length d1, .int .i64 ((rd_T107 l0 x).f2)] 107) hb0
        replace hb1 := cell_kept (.cells #[.int .i64 ((rd_T107 l0 x).f0), .slice E1 (rd_T107 l0 x).f1.length d1, .int .i64 ((rd_T107 l0 x).f2)] 107) hb1
        replace hb2 := cell_kept (.cells #[.int .i64 ((rd_T107 l0 x).f0), .slice E1 (rd_T107 l0 x).f1.length d1, .int .i64 ((rd_T107 l0 x).f2)] 107) hb2
        have hq0 : ((wr.alloc (.cells #[.int .i64 ((rd_T107 l0 x).f0), .slice E1 (rd_T107 l0 x).f1.length d1, .int .i64 ((rd_T107 l0 x).f2)] 107)).alloc (.cells #[.int .i64 ((rd_T107 l1 x).f0), .slice G1 (rd_T107 l1 x).f1.length h1, .int .i64 ((rd_T107 l1 x).f2)] 107)).cell? ⟨wr.heap.size, 0, none⟩ = some (.int .i64 ((rd_T107 l0 x).f0)) := cell_kept _ (cell_made rfl 0 rfl)
        have hq1 : ((wr.alloc (.cells #[.int .i64 ((rd_T107 l0 x).f0), .slice E1 (rd_T107 l0 x).f1.length d1, .int .i64 ((rd_T107 l0 x).f2)] 107)).alloc (.cells #[.int .i64 ((rd_T107 l1 x).f0), .slice G1 (rd_T107 l1 x).f1.length h1, .int .i64 ((rd_T107 l1 x).f2)] 107)).cell? ⟨wr.heap.size, 1, none⟩ = some (.slice E1 (rd_T107 l0 x).f1.length d1) := cell_kept _ (cell_made rfl 1 rfl)
        have hq2 : ((wr.alloc (.cells #[.int .i64 ((rd_T107 l0 x).f0), .slice E1 (rd_T107 l0 x).f1.length d1, .int .i64 ((rd_T107 l0 x).f2)] 107)).alloc (.cells #[.int .i64 ((rd_T107 l1 x).f0), .slice G1 (rd_T107 l1 x).f1.length h1, .int .i64 ((rd_T107 l1 x).f2)] 107)).cell? ⟨wr.heap.size, 2, none⟩ = some (.int .i64 ((rd_T107 l0 x).f2)) := cell_kept _ (cell_made rfl 2 rfl)
        have hz0 : ((wr.alloc (.cells #[.int .i64 ((rd_T107 l0 x).f0), .slice E1 (rd_T107 l0 x).f1.length d1, .int .i64 ((rd_T107 l0 x).f2)] 107)).alloc (.cells #[.int .i64 ((rd_T107 l1 x).f0), .slice G1 (rd_T107 l1 x).f1.length h1, .int .i64 ((rd_T107 l1 x).f2)] 107)).cell? ⟨wr.heap.size + 1, 0, none⟩ = some (.int .i64 ((rd_T107 l1 x).f0)) := cell_made (by simp) 0 rfl
        have hz1 : ((wr.alloc (.cells #[.int .i64 ((rd_T107 l0 x).f0), .slice E1 (rd_T107 l0 x).f1.length d1, .int .i64 ((rd_T107 l0 x).f2)] 107)).alloc (.cells #[.int .i64 ((rd_T107 l1 x).f0), .slice G1 (rd_T107 l1 x).f1.length h1, .int .i64 ((rd_T107 l1 x).f2)] 107)).cell? ⟨wr.heap.size + 1, 1, none⟩ = some (.slice G1 (rd_T107 l1 x).f1.length h1) := cell_made (by simp) 1 rfl
        have hz2 : ((wr.alloc (.cells #[.int .i64 ((rd_T107 l0 x).f0), .slice E1 (rd_T107 l0 x).f1.length d1, .int .i64 ((rd_T107 l0 x).f2)] 107)).alloc (.cells #[.int .i64 ((rd_T107 l1 x).f0), .slice G1 (rd_T107 l1 x).f1.length h1, .int .i64 ((rd_T107 l1 x).f2)] 107)).cell? ⟨wr.heap.size + 1, 2, none⟩ = some (.int .i64 ((rd_T107 l1 x).f2)) := cell_made (by simp) 2 rfl
        have BW2 : Aside0 (Below w.heap.size w ((wr.alloc (.cells #[.int .i64 ((rd_T107 l0 x).f0), .slice E1 (rd_T107 l0 x).f1.length d1, .int .i64 ((rd_T107 l0 x).f2)] 107)).alloc (.cells #[.int .i64 ((rd_T107 l1 x).f0), .slice G1 (rd_T107 l1 x).f1.length h1, .int .i64 ((rd_T107 l1 x).f2)] 107))) := ⟨below_alloc (below_alloc BW.out _) _⟩
        have hcall := HP.out ((wr.alloc (.cells #[.int .i64 ((rd_T107 l0 x).f0), .slice E1 (rd_T107 l0 x).f1.length d1, .int .i64 ((rd_T107 l0 x).f2)] 107)).alloc (.cells #[.int .i64 ((rd_T107 l1 x).f0), .slice G1 (rd_T107 l1 x).f1.length h1, .int .i64 ((rd_T107 l1 x).f2)] 107)) (rd_T107 l0 x) (rd_T107 l1 x) E1 d1 G1 h1 b BW2.out La1.out (Kd.C_alloc (Kd.C_alloc Ga1.out _) _) Lb1.out (Kd.C_alloc (Kd.C_alloc Gb1.out _) _) HB.out
        cases b with
        | false =>
          have HF := Aside0.mk (hf rfl)
          clear hf ht HP HB
          go_wp2_with fail
          refine hcall.mono ?_
          rintro e w' ⟨rfl, hb'⟩
          clear hcall eg ha0 hb0 hq0 hz0 ha1 hb1 hq1 hz1 ha2 hb2 hq2 hz2
          go_wp2
          go_ret
          exact ⟨by rw [← HF.out]; rfl, hb'⟩
        | true =>
          have HT := Aside0.mk (ht rfl)
          clear hf ht HP HB
          go_wp2_with fail
          refine hcall.mono ?_
          rintro e w' ⟨rfl, hb'⟩
          clear hcall eg ha0 hb0 hq0 hz0 ha1 hb1 hq1 hz1 ha2 hb2 hq2 hz2
          go_wp2
          have he : wrap64 (x + 1) = x + 1 := wrap_up HX.out.1 HQ.out HLEN.out
          go_roundg (l0.length - (x + 1).toNat)
          case measure => have := HX.out; have := HQ.out; omega
          case rel =>
            refine ⟨x + 1, ?_, ⟨by have := HX.out; omega, by have := HQ.out; omega, Nat.le_refl _⟩, ⟨hb'⟩, HT⟩
            simp [he]
      · have b1 : decide (x < (l0.length : Int)) = false := decide_eq_false hlt
        have HN := Aside0.mk hlt
        clear hlt
        go_wp2
        go_ret
        exact ⟨by rw [← allO_end HA.out HX.out.2.1 (by have := HN.out; omega)]; rfl, BW.out⟩

def eqF87.f (k : Nat) (l0 : List S107) (l1 : List S107) (g : Nat) : Option Bool := if g = 88 then Go.Proofs.YtineejdlpcgnkaaH.eqO (fun x y => impl_equalIssuers.f k x.f0 x.f1 x.f2 y.f0 y.f1 y.f2) l0 l1 else none
set_option maxHeartbeats 8000000 in
set_option maxRecDepth 100000 in
theorem eqF87.calls (k : Nat) (A0 : Option Addr) (c0 : Nat) (l0 : List S107) (A1 : Option Addr) (c1 : Nat) (l1 : List S107) (g : Nat) (r : Bool) (w : World) (hr0 : Kd.C k107 w A0 l0.length l0) (hc0 : l0.length ≤ c0) (hr1 : Kd.C k107 w A1 l1.length l1) (hc1 : l1.length ≤ c1) (h : eqF87.f k l0 l1 g = some r) :
    Calls Try.prog 87 #[.slice A0 l0.length c0, .slice A1 l1.length c1, .func (.func g) #[] #[]] w fun e w' => e = .returned (.bool r) ∧ Below w.heap.size w w' := by
  unfold eqF87.f at h
  by_cases hg_ : g = 88
  case neg => rw [if_neg hg_] at h; exact absurd h (by simp)
  rw [if_pos hg_] at h
  subst hg_
  have eg : ∀ args w, (callFunc 88 args).run Try.prog w = .ok (.enter 88 args) w := Go.Proofs.YtineejdlpcgnkaaH.enters Try.func88 (by kernel_rfl) rfl
  exact eqf87.calls 88 #[] eg _ A0 c0 l0 A1 c1 l1 r w (fun W x y E1 d1 G1 h1 b hW a1 b1 u1 v1 hp => (impl_equalIssuers.calls k  x.f0 _ _ x.f1 x.f2 y.f0 _ _ y.f1 y.f2 b W b1 a1 v1 u1 hp).mono (fun e w' ⟨he, hb⟩ => ⟨he, hW.trans (hb.mono hW.size)⟩)) hr0 hc0 hr1 hc1 h

/-! ### eqf89: function 89 -/
set_option maxHeartbeats 8000000 in
set_option maxRecDepth 100000 in
open Go.Proofs.YtineejdlpcgnkaaH in
theorem eqf89.calls (g : Nat) (lb : Array Value) (eg : ∀ args w, (callFunc g args).run Try.prog w = .ok (.enter g args) w) (p : S40 → S40 → Option Bool) (A0 : Option Addr) (c0 : Nat) (l0 : List S40) (A1 : Option Addr) (c1 : Nat) (l1 : List S40) (r : Bool) (w : World)
    (hp : ∀ (W : World) (x y : S40) (E2 : Option Addr) (d2 : Nat) (E4 : Option Addr) (d4 : Nat) (G2 : Option Addr) (h2 : Nat) (G4 : Option Addr) (h4 : Nat) (b : Bool), Below w.heap.size w W → (x).f2.length ≤ d2 → Kd.C k149 W E2 (x).f2.length ((x).f2) → (x).f3.f1.length ≤ d4 → Kd.C k174 W E4 (x).f3.f1.length ((x).f3.f1) → (y).f2.length ≤ h2 → Kd.C k149 W G2 (y).f2.length ((y).f2) → (y).f3.f1.length ≤ h4 → Kd.C k174 W G4 (y).f3.f1.length ((y).f3.f1) → p x y = some b → Calls Try.prog g (#[.agg #[.int .i64 ((x).f0), .int .i64 ((x).f1), .slice E2 (x).f2.length d2, .int .i64 ((x).f3.f0), .slice E4 (x).f3.f1.length d4], .agg #[.int .i64 ((y).f0), .int .i64 ((y).f1), .slice G2 (y).f2.length h2, .int .i64 ((y).f3.f0), .slice G4 (y).f3.f1.length h4]] ++ lb) W fun e w' => e = .returned (.bool b) ∧ Below w.heap.size w w')
    (hr0 : Kd.C k40 w A0 l0.length l0) (hc0 : l0.length ≤ c0) (hr1 : Kd.C k40 w A1 l1.length l1) (hc1 : l1.length ≤ c1) (h : eqO p l0 l1 = some r) :
    Calls Try.prog 89 #[.slice A0 l0.length c0, .slice A1 l1.length c1, .func (.func g) #[] lb] w fun e w' => e = .returned (.bool r) ∧ Below w.heap.size w w' := by
  have hu40 := Try.underlying40
  have HLEN : Aside0 (l0.length ≤ 9223372036854775807) := ⟨hr0.2.1⟩
  have HR0 := Aside0.mk hr0
  have HR1 := Aside0.mk hr1
  have HP := Aside0.mk hp
  unfold eqO at h
  by_cases hl : l0.length = l1.length
  rotate_left
  · rw [if_neg hl] at h
    obtain rfl := Option.some.inj h
    have c1b : (l0.length == l1.length) = false := by simpa using hl
    have c2b : (l0.length != l1.length) = true := by simpa using hl
    have c3b : ((l0.length : Int) == (l1.length : Int)) = false := beq_eq_false_iff_ne.mpr (by omega)
    have c4b : ((l0.length : Int) != (l1.length : Int)) = true := bne_iff_ne.mpr (by omega)
    clear hr0 hc0 hr1 hc1 h hp HP hl eg
    go_enter Try.func89, Try.ntmps89
    go_wp2
    go_ret
    exact ⟨rfl, Below.refl _ _⟩
  · rw [if_pos hl] at h
    have c1b : (l0.length == l1.length) = true := by simpa using hl
    have c2b : (l0.length != l1.length) = false := by simpa using hl
    have c3b : ((l0.length : Int) == (l1.length : Int)) = true := beq_iff_eq.mpr (by omega)
    have c4b : ((l0.length : Int) != (l1.length : Int)) = false := bne_eq_false_iff_eq.mpr (by omega)
    have HL := Aside0.mk hl
    have H' := Aside0.mk (show allO p (l0.drop (0 : Int).toNat) (l1.drop (0 : Int).toNat) = some r from h)
    clear hr0 hc0 hr1 hc1 h hp hl
    go_enter Try.func89, Try.ntmps89
    go_wp2
    go_loopg [17] l0.length (fun gg v17 wr => ∃ x : Int, v17 = .int .i64 x ∧ Aside0 (0 ≤ x ∧ x ≤ l0.length ∧ l0.length - x.toNat ≤ gg) ∧ Aside0 (Below w.heap.size w wr) ∧ Aside0 (allO p (l0.drop x.toNat) (l1.drop x.toNat) = some r))
    case atStart => exact ⟨0, rfl, ⟨by omega, by omega, by omega⟩, ⟨Below.refl _ w⟩, H'⟩
    case round =>
      clear H'
      obtain ⟨x, rfl, HX, BW, HA⟩ := hrel
      by_cases hlt : x < (l0.length : Int)
      · have b1 : decide (x < (l0.length : Int)) = true := decide_eq_true hlt
        have p1 : 0 ≤ x := HX.out.1
        have q1 : x < (l0.length : Int) := hlt
        have q2 : x < (l1.length : Int) := by have := HL.out; omega
        have b2 : decide (x < (l1.length : Int)) = true := decide_eq_true q2
        obtain ⟨b, hb, hf, ht⟩ := allO_at (z := z40) (z' := z40) HA.out p1 q1 q2
        have HB := Aside0.mk hb
        have HQ := Aside0.mk hlt
        clear hb HA
        obtain ⟨ada, E2, d2, E4, d4, ea, ha0, ha1, ha2, ha3, ha4, la2, ga2, la4, ga4⟩ := at_T40 (Kd.C_below HR0.out BW.out) x p1 q1
        obtain ⟨adb, G2, h2, G4, h4, eb, hb0, hb1, hb2, hb3, hb4, lb2, gb2, lb4, gb4⟩ := at_T40 (Kd.C_below HR1.out BW.out) x p1 q2
        cases ea
        cases eb
        have La2 := Aside0.mk la2; have Ga2 := Aside0.mk ga2; have Lb2 := Aside0.mk lb2; have Gb2 := Aside0.mk gb2; clear la2 ga2 lb2 gb2; have La4 := Aside0.mk la4; have Ga4 := Aside0.mk ga4; have Lb4 := Aside0.mk lb4; have Gb4 := Aside0.mk gb4; clear la4 ga4 lb4 gb4
        have p1' := eq_true p1
        have q1' := eq_true q1
        have q2' := eq_true q2
        clear p1 q1 q2 hlt
        replace hb0 := cell_kept (.cells #[.int .i64 ((rd_T40 l0 x).f0), .int .i64 ((rd_T40 l0 x).f1), .slice E2 (rd_T40 l0 x).f2.length d2, .int .i64 ((rd_T40 l0 x).f3.f0), .slice E4 (rd_T40 l0 x).f3.f1.length d4] 40) hb0
        replace hb1 := cell_kept (.cells #[.int .i64 ((rd_T40 l0 x).f0), .int .i64 ((rd_T40 l0 x).f1), .slice E2 (rd_T40 l0 x).f2.length d2, .int .i64 ((rd_T40 l0 x).f3.f0), .slice E4 (rd_T40 l0 x).f3.f1.length d4] 40) hb1
        replace hb2 := cell_kept (.cells #[.int .i64 ((rd_T40 l0 x).f0), .int .i64 ((rd_T40 l0 x).f1), .slice E2 (rd_T40 l0 x).f2.length d2, .int .i64 ((rd_T40 l0 x).f3.f0), .slice E4 (rd_T40 l0 x).f3.f1.length d4] 40) hb2
        replace hb3 := cell_kept (.cells #[.int .i64 ((rd_T40 l0 x).f0), .int .i64 ((rd_T40 l0 x).f1), .slice E2 (rd_T40 l0 x).f2.length d2, .int .i64 ((rd_T40 l0 x).f3.f0), .slice E4 (rd_T40 l0 x).f3.f1.length d4] 40) hb3
        replace hb4 := cell_kept (.cells #[.int .i64 ((rd_T40 l0 x).f0), .int .i64 ((rd_T40 l0 x).f1), .slice E2 (rd_T40 l0 x).f2.length d2, .int .i64 ((rd_T40 l0 x).f3.f0), .slice E4 (rd_T40 l0 x).f3.f1.length d4] 40) hb4
        have hq0 : ((wr.alloc (.cells #[.int .i64 ((rd_T40 l0 x).f0), .int .i64 ((rd_T40 l0 x).f1), .slice E2 (rd_T40 l0 x).f2.length d2, .int .i64 ((rd_T40 l0 x).f3.f0), .slice E4 (rd_T40 l0 x).f3.f1.length d4] 40)).alloc (.cells #[.int .i64 ((rd_T40 l1 x).f0), .int .i64 ((rd_T40 l1 x).f1), .slice G2 (rd_T40 l1 x).f2.length h2, .int .i64 ((rd_T40 l1 x).f3.f0), .slice G4 (rd_T40 l1 x).f3.f1.length h4] 40)).cell? ⟨wr.heap.size, 0, none⟩ = some (.int .i64 ((rd_T40 l0 x).f0)) := cell_kept _ (cell_made rfl 0 rfl)
        have hq1 : ((wr.alloc (.cells #[.int .i64 ((rd_T40 l0 x).f0), .int .i64 ((rd_T40 l0 x).f1), .slice E2 (rd_T40 l0 x).f2.length d2, .int .i64 ((rd_T40 l0 x).f3.f0), .slice E4 (rd_T40 l0 x).f3.f1.length d4] 40)).alloc (.cells #[.int .i64 ((rd_T40 l1 x).f0), .int .i64 ((rd_T40 l1 x).f1), .slice G2 (rd_T40 l1 x).f2.length h2, .int .i64 ((rd_T40 l1 x).f3.f0), .slice G4 (rd_T40 l1 x).f3.f1.length h4] 40)).cell? ⟨wr.heap.size, 1, none⟩ = some (.int .i64 ((rd_T40 l0 x).f1)) := cell_kept _ (cell_made rfl 1 rfl)
        have hq2 : ((wr.alloc (.cells #[.int .i64 ((rd_T40 l0 x).f0), .int .i64 ((rd_T40 l0 x).f1), .slice E2 (rd_T40 l0 x).f2.length d2, .int .i64 ((rd_T40 l0 x).f3.f0), .slice E4 (rd_T40 l0 x).f3.f1.length d4] 40)).alloc (.cells #[.int .i64 ((rd_T40 l1 x).f0), .int .i64 ((rd_T40 l1 x).f1), .slice G2 (rd_T40 l1 x).f2.length h2, .int .i64 ((rd_T40 l1 x).f3.f0), .slice G4 (rd_T40 l1 x).f3.f1.length h4] 40)).cell? ⟨wr.heap.size, 2, none⟩ = some (.slice E2 (rd_T40 l0 x).f2.length d2) := cell_kept _ (cell_made rfl 2 rfl)
        have hq3 : ((wr.alloc (.cells #[.int .i64 ((rd_T40 l0 x).f0), .int .i64 ((rd_T40 l0 x).f1), .slice E2 (rd_T40 l0 x).f2.length d2, .int .i64 ((rd_T40 l0 x).f3.f0), .slice E4 (rd_T40 l0 x).f3.f1.length d4] 40)).alloc (.cells #[.int .i64 ((rd_T40 l1 x).f0), .int .i64 ((rd_T40 l1 x).f1), .slice G2 (rd_T40 l1 x).f2.length h2, .int .i64 ((rd_T40 l1 x).f3.f0), .slice G4 (rd_T40 l1 x).f3.f1.length h4] 40)).cell? ⟨wr.heap.size, 3, none⟩ = some (.int .i64 ((rd_T40 l0 x).f3.f0)) := cell_kept _ (cell_made rfl 3 rfl)
        have hq4 : ((wr.alloc (.cells #[.int .i64 ((rd_T40 l0 x).f0), .int .i64 ((rd_T40 l0 x).f1), .slice E2 (rd_T40 l0 x).f2.length d2, .int .i64 ((rd_T40 l0 x).f3.f0), .slice E4 (rd_T40 l0 x).f3.f1.length d4] 40)).alloc (.cells #[.int .i64 ((rd_T40 l1 x).f0), .int .i64 ((rd_T40 l1 x).f1), .slice G2 (rd_T40 l1 x).f2.length h2, .int .i64 ((rd_T40 l1 x).f3.f0), .slice G4 (rd_T40 l1 x).f3.f1.length h4] 40)).cell? ⟨wr.heap.size, 4, none⟩ = some (.slice E4 (rd_T40 l0 x).f3.f1.length d4) := cell_kept _ (cell_made rfl 4 rfl)
        have hz0 : ((wr.alloc (.cells #[.int .i64 ((rd_T40 l0 x).f0), .int .i64 ((rd_T40 l0 x).f1), .slice E2 (rd_T40 l0 x).f2.length d2, .int .i64 ((rd_T40 l0 x).f3.f0), .slice E4 (rd_T40 l0 x).f3.f1.length d4] 40)).alloc (.cells #[.int .i64 ((rd_T40 l1 x).f0), .int .i64 ((rd_T40 l1 x).f1), .slice G2 (rd_T40 l1 x).f2.length h2, .int .i64 ((rd_T40 l1 x).f3.f0), .slice G4 (rd_T40 l1 x).f3.f1.length h4] 40)).cell? ⟨wr.heap.size + 1, 0, none⟩ = some (.int .i64 ((rd_T40 l1 x).f0)) := cell_made (by simp) 0 rfl
        have hz1 : ((wr.alloc (.cells #[.int .i64 ((rd_T40 l0 x).f0), .int .i64 ((rd_T40 l0 x).f1), .slice E2 (rd_T40 l0 x).f2.length d2, .int .i64 ((rd_T40 l0 x).f3.f0), .slice E4 (rd_T40 l0 x).f3.f1.length d4] 40)).alloc (.cells #[.int .i64 ((rd_T40 l1 x).f0), .int .i64 ((rd_T40 l1 x).f1), .slice G2 (rd_T40 l1 x).f2.length h2, .int .i64 ((rd_T40 l1 x).f3.f0), .slice G4 (rd_T40 l1 x).f3.f1.length h4] 40)).cell? ⟨wr.heap.size + 1, 1, none⟩ = some (.int .i64 ((rd_T40 l1 x).f1)) := cell_made (by simp) 1 rfl
        have hz2 : ((wr.alloc (.cells #[.int .i64 ((rd_T40 l0 x).f0), .int .i64 ((rd_T40 l0 x).f1), .slice E2 (rd_T40 l0 x).f2.length d2, .int .i64 ((rd_T40 l0 x).f3.f0), .slice E4 (rd_T40 l0 x).f3.f1.length d4] 40)).alloc (.cells #[.int .i64 ((rd_T40 l1 x).f0), .int .i64 ((rd_T40 l1 x).f1), .slice G2 (rd_T40 l1 x).f2.length h2, .int .i64 ((rd_T40 l1 x).f3.f0), .slice G4 (rd_T40 l1 x).f3.f1.length h4] 40)).cell? ⟨wr.heap.size + 1, 2, none⟩ = some (.slice G2 (rd_T40 l1 x).f2.length h2) := cell_made (by simp) 2 rfl
        have hz3 : ((wr.alloc (.cells #[.int .i64 ((rd_T40 l0 x).f0), .int .i64 ((rd_T40 l0 x).f1), .slice E2 (rd_T40 l0 x).f2.length d2, .int .i64 ((rd_T40 l0 x).f3.f0), .slice E4 (rd_T40 l0 x).f3.f1.length d4] 40)).alloc (.cells #[.int .i64 ((rd_T40 l1 x).f0), .int .i64 ((rd_T40 l1 x).f1), .slice G2 (rd_T40 l1 x).f2.length h2, .int .i64 ((rd_T40 l1 x).f3.f0), .slice G4 (rd_T40 l1 x).f3.f1.length h4] 40)).cell? ⟨wr.heap.size + 1, 3, none⟩ = some (.int .i64 ((rd_T40 l1 x).f3.f0)) := cell_made (by simp) 3 rfl
        have hz4 : ((wr.alloc (.cells #[.int .i64 ((rd_T40 l0 x).f0), .int .i64 ((rd_T40 l0 x).f1), .slice E2 (rd_T40 l0 x).f2.length d2, .int .i64 ((rd_T40 l0 x).f3.f0), .slice E4 (rd_T40 l0 x).f3.f1.length d4] 40)).alloc (.cells #[.int .i64 ((rd_T40 l1 x).f0), .int .i64 ((rd_T40 l1 x).f1), .slice G2 (rd_T40 l1 x).f2.length h2, .int .i64 ((rd_T40 l1 x).f3.f0), .slice G4 (rd_T40 l1 x).f3.f1.length h4] 40)).cell? ⟨wr.heap.size + 1, 4, none⟩ = some (.slice G4 (rd_T40 l1 x).f3.f1.length h4) := cell_made (by simp) 4 rfl
        have BW2 : Aside0 (Below w.heap.size w ((wr.alloc (.cells #[.int .i64 ((rd_T40 l0 x).f0), .int .i64 ((rd_T40 l0 x).f1), .slice E2 (rd_T40 l0 x).f2.length d2, .int .i64 ((rd_T40 l0 x).f3.f0), .slice E4 (rd_T40 l0 x).f3.f1.length d4] 40)).alloc (.cells #[.int .i64 ((rd_T40 l1 x).f0), .int .i64 ((rd_T40 l1 x).f1), .slice G2 (rd_T40 l1 x).f2.length h2, .int .i64 ((rd_T40 l1 x).f3.f0), .slice G4 (rd_T40 l1 x).f3.f1.length h4] 40))) := ⟨below_alloc (below_alloc BW.out _) _⟩
        have hcall := HP.out ((wr.alloc (.cells #[.int .i64 ((rd_T40 l0 x).f0), .int .i64 ((rd_T40 l0 x).f1), .slice E2 (rd_T40 l0 x).f2.length d2, .int .i64 ((rd_T40 l0 x).f3.f0), .slice E4 (rd_T40 l0 x).f3.f1.length d4] 40)).alloc (.cells #[.int .i64 ((rd_T40 l1 x).f0), .int .i64 ((rd_T40 l1 x).f1), .slice G2 (rd_T40 l1 x).f2.length h2, .int .i64 ((rd_T40 l1 x).f3.f0), .slice G4 (rd_T40 l1 x).f3.f1.length h4] 40)) (rd_T40 l0 x) (rd_T40 l1 x) E2 d2 E4 d4 G2 h2 G4 h4 b BW2.out La2.out (Kd.C_alloc (Kd.C_alloc Ga2.out _) _) La4.out (Kd.C_alloc (Kd.C_alloc Ga4.out _) _) Lb2.out (Kd.C_alloc (Kd.C_alloc Gb2.out _) _) Lb4.out (Kd.C_alloc (Kd.C_alloc Gb4.out _) _) HB.out
        cases b with
        | false =>
          have HF := Aside0.mk (hf rfl)
          clear hf ht HP HB
          go_wp2_with fail
          refine hcall.mono ?_
          rintro e w' ⟨rfl, hb'⟩
          clear hcall eg ha0 hb0 hq0 hz0 ha1 hb1 hq1 hz1 ha2 hb2 hq2 hz2 ha3 hb3 hq3 hz3 ha4 hb4 hq4 hz4
          go_wp2
          go_ret
          exact ⟨by rw [← HF.out]; rfl, hb'⟩
        | true =>
          have HT := Aside0.mk (ht rfl)
          clear hf ht HP HB
          go_wp2_with fail
          refine hcall.mono ?_
          rintro e w' ⟨rfl, hb'⟩
          clear hcall eg ha0 hb0 hq0 hz0 ha1 hb1 hq1 hz1 ha2 hb2 hq2 hz2 ha3 hb3 hq3 hz3 ha4 hb4 hq4 hz4
          go_wp2
          have he : wrap64 (x + 1) = x + 1 := wrap_up HX.out.1 HQ.out HLEN.out
          go_roundg (l0.length - (x + 1).toNat)
          case measure => have := HX.out; have := HQ.out; omega
          case rel =>
            refine ⟨x + 1, ?_, ⟨by have := HX.out; omega, by have := HQ.out; omega, Nat.le_refl _⟩, ⟨hb'⟩, HT⟩
            simp [he]
      · have b1 : decide (x < (l0.length : Int)) = false := decide_eq_false hlt
        have HN := Aside0.mk hlt
        clear hlt
        go_wp2
        go_ret
        exact ⟨by rw [← allO_end HA.out HX.out.2.1 (by have := HN.out; omega)]; rfl, BW.out⟩

def eqF89.f (k : Nat) (l0 : List S40) (l1 : List S40) (g : Nat) : Option Bool := if g = 66 then Go.Proofs.YtineejdlpcgnkaaH.eqO (fun x y => impl_EqualEpochs.f k x.f0 x.f1 x.f2 x.f3.f0 x.f3.f1 y.f0 y.f1 y.f2 y.f3.f0 y.f3.f1) l0 l1 else none
set_option maxHeartbeats 8000000 in
set_option maxRecDepth 100000 in
theorem eqF89.calls (k : Nat) (A0 : Option Addr) (c0 : Nat) (l0 : List S40) (A1 : Option Addr) (c1 : Nat) (l1 : List S40) (g : Nat) (r : Bool) (w : World) (hr0 : Kd.C k40 w A0 l0.length l0) (hc0 : l0.length ≤ c0) (hr1 : Kd.C k40 w A1 l1.length l1) (hc1 : l1.length ≤ c1) (h : eqF89.f k l0 l1 g = some r) :
    Calls Try.prog 89 #[.slice A0 l0.length c0, .slice A1 l1.length c1, .func (.func g) #[] #[]] w fun e w' => e = .returned (.bool r) ∧ Below w.heap.size w w' := by
  unfold eqF89.f at h
  by_cases hg_ : g = 66
  case neg => rw [if_neg hg_] at h; exact absurd h (by simp)
  rw [if_pos hg_] at h
  subst hg_
  have eg : ∀ args w, (callFunc 66 args).run Try.prog w = .ok (.enter 66 args) w := Go.Proofs.YtineejdlpcgnkaaH.enters Try.func66 (by kernel_rfl) rfl
  exact eqf89.calls 66 #[] eg _ A0 c0 l0 A1 c1 l1 r w (fun W x y E2 d2 E4 d4 G2 h2 G4 h4 b hW a2 b2 a4 b4 u2 v2 u4 v4 hp => (impl_EqualEpochs.calls k  x.f0 x.f1 _ _ x.f2 x.f3.f0 _ _ x.f3.f1 y.f0 y.f1 _ _ y.f2 y.f3.f0 _ _ y.f3.f1 b W b2 a2 b4 a4 v2 u2 v4 u4 hp).mono (fun e w' ⟨he, hb⟩ => ⟨he, hW.trans (hb.mono hW.size)⟩)) hr0 hc0 hr1 hc1 h

/-! ### impl_Cert: function 90 -/
def impl_Cert.l0 : Nat → List (S118) → List (S118) → Int → Int → Option (Bool)
  | 0, _, _, _, _ => none
  | k + 1, x0, x1, x12, x13 => if x13 < x12 then (if 0 ≤ x13 then (if x13 < (x0.length : Int) then (if x13 < (x1.length : Int) then (if (!(((rd_T118 x0 x13).f0) == ((rd_T118 x1 x13).f0)) || (!(((rd_T118 x0 x13).f1) == ((rd_T118 x1 x13).f1)) || (!(((rd_T118 x0 x13).f2) == ((rd_T118 x1 x13).f2)) || (!(((rd_T118 x0 x13).f3) == ((rd_T118 x1 x13).f3)) || (!(((rd_T118 x0 x13).f4) == ((rd_T118 x1 x13).f4)) || (!(((rd_T118 x0 x13).f5) == ((rd_T118 x1 x13).f5)))))))) = true then (some false) else (impl_Cert.l0 k x0 x1 x12 (wrap64 (x13 + 1)))) else (none)) else (none)) else (none)) else (some true)
def impl_Cert.f (k : Nat) (l0 : List (S118)) (l1 : List (S118)) : Option (Bool) := if (l0.length : Int) = (l1.length : Int) then (impl_Cert.l0 k l0 l1 (l0.length : Int) 0) else (some false)
set_option maxHeartbeats 8000000 in
set_option maxRecDepth 100000 in
theorem impl_Cert.calls (k : Nat) (A0 : Option Addr) (c0 : Nat) (l0 : List (S118)) (A1 : Option Addr) (c1 : Nat) (l1 : List (S118)) (r : Bool) (w : World) (hr0 : Kd.C k118 w A0 l0.length l0) (hc0 : l0.length ≤ c0) (hr1 : Kd.C k118 w A1 l1.length l1) (hc1 : l1.length ≤ c1) (h : impl_Cert.f k l0 l1 = some r) :
    Calls Try.prog 90 #[.slice A0 l0.length c0, .slice A1 l1.length c1] w fun e w' => e = .returned (.bool r) ∧ Drawn0 w w' := by
  have hu118 := Try.underlying118
  have HR0 := Aside0.mk hr0
  have HC0 := Aside0.mk hc0
  clear hr0 hc0
  have HR1 := Aside0.mk hr1
  have HC1 := Aside0.mk hc1
  clear hr1 hc1
  have H : (if (l0.length : Int) = (l1.length : Int) then (impl_Cert.l0 k l0 l1 (l0.length : Int) 0) else (some false)) = some r := h
  clear h
  by_cases c3 : (l0.length : Int) = (l1.length : Int)
  · rw [if_pos c3] at H
    have c3b0 : ((l0.length : Int) == (l1.length : Int)) = true := beq_iff_eq.mpr c3
    have c3b1 : ((l0.length : Int) != (l1.length : Int)) = false := bne_eq_false_iff_eq.mpr c3
    have c3b2 : (l0.length == l1.length) = true := by first | simpa using c3 | (simp at c3 ⊢; omega)
    clear c3
    have H' := Aside0.mk H
    clear H
    go_enter Try.func90, Try.ntmps90
    go_wp2
    repeat (go_quiet (fail); try go_wp2)
    go_loopg [13] k (fun kq v13 w' => ∃ (x13_1 : Int), v13 = .int .i64 x13_1 ∧ Aside0 (impl_Cert.l0 kq l0 l1 (l0.length : Int) x13_1 = some r) ∧ Aside0 (kq ≤ k) ∧ Drawn0 w w')
    case atStart => exact ⟨(0), (by first | rfl | (simp; done) | (simp [*]; done)), H', ⟨Nat.le_refl _⟩, by repeat (first | exact Drawn0.refl _ | apply Drawn0.step)⟩
    case round =>
      clear H'
      try clear c1
      try clear p2
      try clear c3
      try clear c3b0
      try clear c3b1
      try clear c3b2
      obtain ⟨x13_1, rfl, HA, HK1, ⟨m1, rfl⟩⟩ := hrel
      cases gk with
      | zero => exact absurd HA.out (by simp [impl_Cert.l0])
      | succ k1 =>
        have H := HA.out
        clear HA
        simp only [impl_Cert.l0] at H
        by_cases c4 : x13_1 < (l0.length : Int)
        · rw [if_pos c4] at H
          have c4b0 : decide (x13_1 < (l0.length : Int)) = true := decide_eq_true c4
          clear c4
          by_cases c5 : 0 ≤ x13_1
          · rw [if_pos c5] at H
            have c5b0 : decide (0 ≤ x13_1) = true := decide_eq_true c5
            clear c5
            by_cases c6 : x13_1 < (l0.length : Int)
            · rw [if_pos c6] at H
              have c6b0 : decide (x13_1 < (l0.length : Int)) = true := decide_eq_true c6
              clear c6
              by_cases c7 : x13_1 < (l1.length : Int)
              · rw [if_pos c7] at H
                have c7b0 : decide (x13_1 < (l1.length : Int)) = true := decide_eq_true c7
                clear c7
                by_cases c8 : (!(((rd_T118 l0 x13_1).f0) == ((rd_T118 l1 x13_1).f0)) || (!(((rd_T118 l0 x13_1).f1) == ((rd_T118 l1 x13_1).f1)) || (!(((rd_T118 l0 x13_1).f2) == ((rd_T118 l1 x13_1).f2)) || (!(((rd_T118 l0 x13_1).f3) == ((rd_T118 l1 x13_1).f3)) || (!(((rd_T118 l0 x13_1).f4) == ((rd_T118 l1 x13_1).f4)) || (!(((rd_T118 l0 x13_1).f5) == ((rd_T118 l1 x13_1).f5)))))))) = true
                · rw [if_pos c8] at H
                  have c8b0 : (!(((rd_T118 l0 x13_1).f0) == ((rd_T118 l1 x13_1).f0)) || (!(((rd_T118 l0 x13_1).f1) == ((rd_T118 l1 x13_1).f1)) || (!(((rd_T118 l0 x13_1).f2) == ((rd_T118 l1 x13_1).f2)) || (!(((rd_T118 l0 x13_1).f3) == ((rd_T118 l1 x13_1).f3)) || (!(((rd_T118 l0 x13_1).f4) == ((rd_T118 l1 x13_1).f4)) || (!(((rd_T118 l0 x13_1).f5) == ((rd_T118 l1 x13_1).f5)))))))) = true := c8
                  clear c8
                  obtain rfl := Option.some.inj H
                  have p385 : 0 ≤ (x13_1 : Int) := of_decide_eq_true (by first | (with_reducible assumption) | assumption)
                  have q385 : x13_1 < (l0.length : Int) := of_decide_eq_true (by first | (with_reducible assumption) | assumption)
                  obtain ⟨ad385, e385, hx385_0, hx385_1, hx385_2, hx385_3, hx385_4, hx385_5⟩ := at_T118 HR0.out x13_1 p385 q385
                  cases e385
                  replace p385 := eq_true p385
                  replace q385 := eq_true q385
                  have p386 : 0 ≤ (x13_1 : Int) := of_decide_eq_true (by first | (with_reducible assumption) | assumption)
                  have q386 : x13_1 < (l1.length : Int) := of_decide_eq_true (by first | (with_reducible assumption) | assumption)
                  obtain ⟨ad386, e386, hx386_0, hx386_1, hx386_2, hx386_3, hx386_4, hx386_5⟩ := at_T118 HR1.out x13_1 p386 q386
                  cases e386
                  replace p386 := eq_true p386
                  replace q386 := eq_true q386
                  go_wp2
                  repeat (go_quiet (fail); try go_wp2)
                  go_ret
                  exact ⟨by first | rfl | (simp; done) | (simp [*]; done), by repeat (first | exact Drawn0.refl _ | apply Drawn0.step)⟩
                · rw [if_neg c8] at H
                  have c8b0 : (!(((rd_T118 l0 x13_1).f0) == ((rd_T118 l1 x13_1).f0)) || (!(((rd_T118 l0 x13_1).f1) == ((rd_T118 l1 x13_1).f1)) || (!(((rd_T118 l0 x13_1).f2) == ((rd_T118 l1 x13_1).f2)) || (!(((rd_T118 l0 x13_1).f3) == ((rd_T118 l1 x13_1).f3)) || (!(((rd_T118 l0 x13_1).f4) == ((rd_T118 l1 x13_1).f4)) || (!(((rd_T118 l0 x13_1).f5) == ((rd_T118 l1 x13_1).f5)))))))) = false := by simpa using c8
                  clear c8
                  have H' := Aside0.mk H
                  clear H
                  have p385 : 0 ≤ (x13_1 : Int) := of_decide_eq_true (by first | (with_reducible assumption) | assumption)
                  have q385 : x13_1 < (l0.length : Int) := of_decide_eq_true (by first | (with_reducible assumption) | assumption)
                  obtain ⟨ad385, e385, hx385_0, hx385_1, hx385_2, hx385_3, hx385_4, hx385_5⟩ := at_T118 HR0.out x13_1 p385 q385
                  cases e385
                  replace p385 := eq_true p385
                  replace q385 := eq_true q385
                  have p386 : 0 ≤ (x13_1 : Int) := of_decide_eq_true (by first | (with_reducible assumption) | assumption)
                  have q386 : x13_1 < (l1.length : Int) := of_decide_eq_true (by first | (with_reducible assumption) | assumption)
                  obtain ⟨ad386, e386, hx386_0, hx386_1, hx386_2, hx386_3, hx386_4, hx386_5⟩ := at_T118 HR1.out x13_1 p386 q386
                  cases e386
                  replace p386 := eq_true p386
                  replace q386 := eq_true q386
                  go_wp2
                  repeat (go_quiet (fail); try go_wp2)
                  go_roundg k1
                  case measure => have := HK1.out; omega
                  case rel => exact ⟨(wrap64 (x13_1 + 1)), (by first | rfl | (simp; done) | (simp [*]; done)), H', ⟨by have := HK1.out; omega⟩, by repeat (first | exact Drawn0.refl _ | apply Drawn0.step)⟩
              · rw [if_neg c7] at H
                exact absurd H (by simp)
            · rw [if_neg c6] at H
              exact absurd H (by simp)
          · rw [if_neg c5] at H
            exact absurd H (by simp)
        · rw [if_neg c4] at H
          have c4b0 : decide (x13_1 < (l0.length : Int)) = false := decide_eq_false c4
          clear c4
          obtain rfl := Option.some.inj H
          go_wp2
          repeat (go_quiet (fail); try go_wp2)
          go_ret
          exact ⟨by first | rfl | (simp; done) | (simp [*]; done), by repeat (first | exact Drawn0.refl _ | apply Drawn0.step)⟩
  · rw [if_neg c3] at H
    have c3b0 : ((l0.length : Int) == (l1.length : Int)) = false := beq_eq_false_iff_ne.mpr c3
    have c3b1 : ((l0.length : Int) != (l1.length : Int)) = true := bne_iff_ne.mpr c3
    have c3b2 : (l0.length == l1.length) = false := by first | simpa using c3 | (simp at c3 ⊢; omega)
    obtain rfl := Option.some.inj H
    go_enter Try.func90, Try.ntmps90
    go_wp2
    repeat (go_quiet (fail); try go_wp2)
    go_ret
    exact ⟨by first | rfl | (simp; done) | (simp [*]; done), by repeat (first | exact Drawn0.refl _ | apply Drawn0.step)⟩

/-! ### impl_EqualCenters: function 35 -/
def impl_EqualCenters.f (k : Nat) (l0_0 : List (S107)) (l0_1 : List (S40)) (l0_2 : List (S132)) (l0_3 : List (S99)) (a0_4 : Int) (l0_5 : List (S118)) (l1_0 : List (S107)) (l1_1 : List (S40)) (l1_2 : List (S132)) (l1_3 : List (S99)) (a1_4 : Int) (l1_5 : List (S118)) : Option (Bool) := (eqF87.f k l0_0 l1_0 88).bind fun t389 => (if t389 = true then ((eqF89.f k l0_1 l1_1 66).bind fun t390 => (if t390 = true then ((impl_EqualStores.f k l0_2 l1_2).bind fun t391 => (if t391 = true then ((impl_Revoked.f k l0_3 l1_3).bind fun t392 => (if t392 = true then (if a0_4 = a1_4 then ((impl_Cert.f k l0_5 l1_5).bind fun t393 => (some t393)) else (some false)) else (some false))) else (some false))) else (some false))) else (some false))
open Go.Proofs.YtineejdlpcgnkaaM in
set_option maxHeartbeats 8000000 in
set_option maxRecDepth 100000 in
theorem impl_EqualCenters.calls (k : Nat) (A0_0 : Option Addr) (c0_0 : Nat) (l0_0 : List (S107)) (A0_1 : Option Addr) (c0_1 : Nat) (l0_1 : List (S40)) (A0_2 : Option Addr) (c0_2 : Nat) (l0_2 : List (S132)) (A0_3 : Option Addr) (c0_3 : Nat) (l0_3 : List (S99)) (a0_4 : Int) (A0_5 : Option Addr) (c0_5 : Nat) (l0_5 : List (S118)) (A1_0 : Option Addr) (c1_0 : Nat) (l1_0 : List (S107)) (A1_1 : Option Addr) (c1_1 : Nat) (l1_1 : List (S40)) (A1_2 : Option Addr) (c1_2 : Nat) (l1_2 : List (S132)) (A1_3 : Option Addr) (c1_3 : Nat) (l1_3 : List (S99)) (a1_4 : Int) (A1_5 : Option Addr) (c1_5 : Nat) (l1_5 : List (S118)) (r : Bool) (w : World) (hr0_0 : Kd.C k107 w A0_0 l0_0.length l0_0) (hc0_0 : l0_0.length ≤ c0_0) (hr0_1 : Kd.C k40 w A0_1 l0_1.length l0_1) (hc0_1 : l0_1.length ≤ c0_1) (hr0_2 : Kd.C k132 w A0_2 l0_2.length l0_2) (hc0_2 : l0_2.length ≤ c0_2) (hr0_3 : Kd.C k99 w A0_3 l0_3.length l0_3) (hc0_3 : l0_3.length ≤ c0_3) (hr0_5 : Kd.C k118 w A0_5 l0_5.length l0_5) (hc0_5 : l0_5.length ≤ c0_5) (hr1_0 : Kd.C k107 w A1_0 l1_0.length l1_0) (hc1_0 : l1_0.length ≤ c1_0) (hr1_1 : Kd.C k40 w A1_1 l1_1.length l1_1) (hc1_1 : l1_1.length ≤ c1_1) (hr1_2 : Kd.C k132 w A1_2 l1_2.length l1_2) (hc1_2 : l1_2.length ≤ c1_2) (hr1_3 : Kd.C k99 w A1_3 l1_3.length l1_3) (hc1_3 : l1_3.length ≤ c1_3) (hr1_5 : Kd.C k118 w A1_5 l1_5.length l1_5) (hc1_5 : l1_5.length ≤ c1_5) (h : impl_EqualCenters.f k l0_0 l0_1 l0_2 l0_3 a0_4 l0_5 l1_0 l1_1 l1_2 l1_3 a1_4 l1_5 = some r) :
    Calls Try.prog 35 #[.agg #[.slice A0_0 l0_0.length c0_0, .slice A0_1 l0_1.length c0_1, .slice A0_2 l0_2.length c0_2, .slice A0_3 l0_3.length c0_3, .int .i64 a0_4, .slice A0_5 l0_5.length c0_5], .agg #[.slice A1_0 l1_0.length c1_0, .slice A1_1 l1_1.length c1_1, .slice A1_2 l1_2.length c1_2, .slice A1_3 l1_3.length c1_3, .int .i64 a1_4, .slice A1_5 l1_5.length c1_5]] w fun e w' => e = .returned (.bool r) ∧ Below w.heap.size w w' := by
  have HR0_0 := Aside0.mk hr0_0
  have HC0_0 := Aside0.mk hc0_0
  clear hr0_0 hc0_0
  have HR0_1 := Aside0.mk hr0_1
  have HC0_1 := Aside0.mk hc0_1
  clear hr0_1 hc0_1
  have HR0_2 := Aside0.mk hr0_2
  have HC0_2 := Aside0.mk hc0_2
  clear hr0_2 hc0_2
  have HR0_3 := Aside0.mk hr0_3
  have HC0_3 := Aside0.mk hc0_3
  clear hr0_3 hc0_3
  have HR0_5 := Aside0.mk hr0_5
  have HC0_5 := Aside0.mk hc0_5
  clear hr0_5 hc0_5
  have HR1_0 := Aside0.mk hr1_0
  have HC1_0 := Aside0.mk hc1_0
  clear hr1_0 hc1_0
  have HR1_1 := Aside0.mk hr1_1
  have HC1_1 := Aside0.mk hc1_1
  clear hr1_1 hc1_1
  have HR1_2 := Aside0.mk hr1_2
  have HC1_2 := Aside0.mk hc1_2
  clear hr1_2 hc1_2
  have HR1_3 := Aside0.mk hr1_3
  have HC1_3 := Aside0.mk hc1_3
  clear hr1_3 hc1_3
  have HR1_5 := Aside0.mk hr1_5
  have HC1_5 := Aside0.mk hc1_5
  clear hr1_5 hc1_5
  have HB := Aside0.mk (Below.refl w.heap.size w)
  have H := h
  clear h
  unfold impl_EqualCenters.f at H
  have hu64 := Try.underlying64
  go_enter Try.func35, Try.ntmps35
  replace H := Aside0.mk H
  go_upto_region 1 with (first | ((with_reducible refine gate_dst (N := 2) rfl ?_); refine box_event ?hg (N := 2) ?hd (cs := #[.slice A0_0 l0_0.length c0_0, .slice A0_1 l0_1.length c0_1, .slice A0_2 l0_2.length c0_2, .slice A0_3 l0_3.length c0_3, .int .i64 a0_4, .slice A0_5 l0_5.length c0_5]) (t := 64) ?hr ?_; (case hd => rfl); (case hg => rfl); (case hr => first | (go_simp; done) | (go_simp; rfl)); intro gb1 hg W1 hbox hb; replace HB := bH HB hb; clear hb; have BK1 := Aside0.mk hbox; have c_BK1 := blk_cell hbox; have z_BK1 := blk_frozen hbox; clear hg hbox) | ((with_reducible refine gate_dst (N := 3) rfl ?_); refine box_event ?hg (N := 3) ?hd (cs := #[.slice A1_0 l1_0.length c1_0, .slice A1_1 l1_1.length c1_1, .slice A1_2 l1_2.length c1_2, .slice A1_3 l1_3.length c1_3, .int .i64 a1_4, .slice A1_5 l1_5.length c1_5]) (t := 64) ?hr ?_; (case hd => rfl); (case hg => rfl); (case hr => first | (go_simp; done) | (go_simp; rfl)); intro gb2 hg W2 hbox hb; replace BK1 := bK BK1 hb; replace c_BK1 := blk_cell BK1.out; replace z_BK1 := blk_frozen BK1.out; replace HB := bH HB hb; clear hb; have BK2 := Aside0.mk hbox; have c_BK2 := blk_cell hbox; have z_BK2 := blk_frozen hbox; clear hg hbox))
  replace H := H.out
  replace H := Option.bind_eq_some_iff.mp H
  obtain ⟨t389, hm, H⟩ := H
  try dsimp only at H
  replace H := Aside0.mk H
  have hcall := eqF87.calls k _ _ _ _ _ _ _ _ W2 (Kd.C_below HR0_0.out HB.out) HC0_0.out (Kd.C_below HR1_0.out HB.out) HC1_0.out hm
  clear hm
  go_wp2_with fail
  refine hcall.mono ?_
  rintro e W3 ⟨rfl, hb⟩
  clear hcall
  replace BK1 := bK BK1 hb; replace c_BK1 := blk_cell BK1.out; replace z_BK1 := blk_frozen BK1.out
  replace BK2 := bK BK2 hb; replace c_BK2 := blk_cell BK2.out; replace z_BK2 := blk_frozen BK2.out
  replace HB := bH HB hb; clear hb
  replace H := H.out
  by_cases c4 : t389 = true
  · rw [if_pos c4] at H
    subst c4
    replace H := Option.bind_eq_some_iff.mp H
    obtain ⟨t390, hm, H⟩ := H
    try dsimp only at H
    replace H := Aside0.mk H
    have hcall := eqF89.calls k _ _ _ _ _ _ _ _ W3 (Kd.C_below HR0_1.out HB.out) HC0_1.out (Kd.C_below HR1_1.out HB.out) HC1_1.out hm
    clear hm
    go_wp2_with fail
    refine hcall.mono ?_
    rintro e W5 ⟨rfl, hb⟩
    clear hcall
    replace BK1 := bK BK1 hb; replace c_BK1 := blk_cell BK1.out; replace z_BK1 := blk_frozen BK1.out
    replace BK2 := bK BK2 hb; replace c_BK2 := blk_cell BK2.out; replace z_BK2 := blk_frozen BK2.out
    replace HB := bH HB hb; clear hb
    replace H := H.out
    by_cases c6 : t390 = true
    · rw [if_pos c6] at H
      subst c6
      replace H := Option.bind_eq_some_iff.mp H
      obtain ⟨t391, hm, H⟩ := H
      try dsimp only at H
      replace H := Aside0.mk H
      have hcall := impl_EqualStores.calls k _ _ _ _ _ _ _ W5 (Kd.C_below HR0_2.out HB.out) HC0_2.out (Kd.C_below HR1_2.out HB.out) HC1_2.out hm
      clear hm
      go_wp2_with fail
      refine hcall.mono ?_
      rintro e W7 ⟨rfl, hb⟩
      clear hcall
      replace BK1 := bK BK1 hb; replace c_BK1 := blk_cell BK1.out; replace z_BK1 := blk_frozen BK1.out
      replace BK2 := bK BK2 hb; replace c_BK2 := blk_cell BK2.out; replace z_BK2 := blk_frozen BK2.out
      replace HB := bH HB hb; clear hb
      replace H := H.out
      by_cases c8 : t391 = true
      · rw [if_pos c8] at H
        subst c8
        replace H := Option.bind_eq_some_iff.mp H
        obtain ⟨t392, hm, H⟩ := H
        try dsimp only at H
        replace H := Aside0.mk H
        have hcall := impl_Revoked.calls k _ _ _ _ _ _ _ W7 (Kd.C_below HR0_3.out HB.out) HC0_3.out (Kd.C_below HR1_3.out HB.out) HC1_3.out hm
        clear hm
        go_wp2_with fail
        refine hcall.mono ?_
        rintro e W9 ⟨rfl, hd⟩
        clear hcall
        have hb : Below W7.heap.size W7 W9 := hd.below; clear hd
        replace BK1 := bK BK1 hb; replace c_BK1 := blk_cell BK1.out; replace z_BK1 := blk_frozen BK1.out
        replace BK2 := bK BK2 hb; replace c_BK2 := blk_cell BK2.out; replace z_BK2 := blk_frozen BK2.out
        replace HB := bH HB hb; clear hb
        replace H := H.out
        by_cases c10 : t392 = true
        · rw [if_pos c10] at H
          subst c10
          by_cases c11 : a0_4 = a1_4
          · rw [if_pos c11] at H
            have c11_0 := decT c11; have c11_1 := eqT c11; have c11_2 := neT c11
            clear c11
            first | rw [c11_1] | rw [c11_2] | skip
            replace H := Option.bind_eq_some_iff.mp H
            obtain ⟨t393, hm, H⟩ := H
            try dsimp only at H
            replace H := Aside0.mk H
            have hcall := impl_Cert.calls k _ _ _ _ _ _ _ W9 (Kd.C_below HR0_5.out HB.out) HC0_5.out (Kd.C_below HR1_5.out HB.out) HC1_5.out hm
            clear hm
            go_wp2_with fail
            refine hcall.mono ?_
            rintro e W12 ⟨rfl, hd⟩
            clear hcall
            have hb : Below W9.heap.size W9 W12 := hd.below; clear hd
            replace BK1 := bK BK1 hb; replace c_BK1 := blk_cell BK1.out; replace z_BK1 := blk_frozen BK1.out
            replace BK2 := bK BK2 hb; replace c_BK2 := blk_cell BK2.out; replace z_BK2 := blk_frozen BK2.out
            replace HB := bH HB hb; clear hb
            replace H := H.out
            obtain rfl := Option.some.inj H
            clear H
            go_wp2
            go_ret
            exact ⟨rfl, HB.out⟩
          · rw [if_neg c11] at H
            have c11_0 := decF c11; have c11_1 := eqF c11; have c11_2 := neF c11
            clear c11
            first | rw [c11_1] | rw [c11_2] | skip
            obtain rfl := Option.some.inj H
            clear H
            go_wp2
            go_ret
            exact ⟨rfl, HB.out⟩
        · rw [if_neg c10] at H
          replace c10 := (Bool.not_eq_true _).mp c10
          subst c10
          obtain rfl := Option.some.inj H
          clear H
          go_wp2
          go_ret
          exact ⟨rfl, HB.out⟩
      · rw [if_neg c8] at H
        replace c8 := (Bool.not_eq_true _).mp c8
        subst c8
        obtain rfl := Option.some.inj H
        clear H
        go_wp2
        go_ret
        exact ⟨rfl, HB.out⟩
    · rw [if_neg c6] at H
      replace c6 := (Bool.not_eq_true _).mp c6
      subst c6
      obtain rfl := Option.some.inj H
      clear H
      go_wp2
      go_ret
      exact ⟨rfl, HB.out⟩
  · rw [if_neg c4] at H
    replace c4 := (Bool.not_eq_true _).mp c4
    subst c4
    obtain rfl := Option.some.inj H
    clear H
    go_wp2
    go_ret
    exact ⟨rfl, HB.out⟩

end Go.Proofs.Ytineejdlpcgnkaa.QFnExactEqualCenters
