/- The machine side of FnExactEqualCenters: what each function that it reaches computes, and that the machine's call gives just that. -/
import Derived.Test.YtineejdlpcgnkaaQFnExactEqualCentersx0
import Derived.Test.YtineejdlpcgnkaaQFnExactEqualCentersx1
import Derived.Test.YtineejdlpcgnkaaQFnExactEqualCentersx3
import Derived.Test.YtineejdlpcgnkaaQFnExactEqualCentersx15
namespace Go.Proofs.Ytineejdlpcgnkaa.QFnExactEqualCenters
open Go.RowKit Go.Proofs.YtineejdlpcgnkaaW.PrintWords Go.Proofs.YtineejdlpcgnkaaW.PrintLast Go.Proofs.YtineejdlpcgnkaaW.PrintMore
attribute [local go_sem] max2_int min2_int max_two min_two max_three min_three max_four min_four   -- for this text's walks alone
set_option linter.unusedVariables false
set_option linter.unusedSimpArgs false

attribute [local go_sem high] eqA99 eqA132
/-! ### impl_equalRules: function 152 -/
def impl_equalRules.f (k : Nat) (a0_0 : Int) (a0_1 : Int) (a0_2 : Int) (a0_3 : Int) (a0_4 : Int) (a0_5 : Int) (l0_6 : List (S172)) (a1_0 : Int) (a1_1 : Int) (a1_2 : Int) (a1_3 : Int) (a1_4 : Int) (a1_5 : Int) (l1_6 : List (S172)) : Option (Bool) := if a0_0 = a1_0 then (if a0_1 = a1_1 then (if a0_2 = a1_2 then ((impl_EqualConds.f k a0_3 a0_4 a0_5 l0_6 a1_3 a1_4 a1_5 l1_6).bind fun t367 => (some t367)) else (some false)) else (some false)) else (some false)
open Go.Proofs.YtineejdlpcgnkaaM in
set_option maxHeartbeats 8000000 in
set_option maxRecDepth 100000 in
theorem impl_equalRules.calls (k : Nat) (a0_0 : Int) (a0_1 : Int) (a0_2 : Int) (a0_3 : Int) (a0_4 : Int) (a0_5 : Int) (A0_6 : Option Addr) (c0_6 : Nat) (l0_6 : List (S172)) (a1_0 : Int) (a1_1 : Int) (a1_2 : Int) (a1_3 : Int) (a1_4 : Int) (a1_5 : Int) (A1_6 : Option Addr) (c1_6 : Nat) (l1_6 : List (S172)) (r : Bool) (w : World) (hr0_6 : Kd.C k172 w A0_6 l0_6.length l0_6) (hc0_6 : l0_6.length ≤ c0_6) (hr1_6 : Kd.C k172 w A1_6 l1_6.length l1_6) (hc1_6 : l1_6.length ≤ c1_6) (h : impl_equalRules.f k a0_0 a0_1 a0_2 a0_3 a0_4 a0_5 l0_6 a1_0 a1_1 a1_2 a1_3 a1_4 a1_5 l1_6 = some r) :
    Calls Try.prog 152 #[.agg #[.int .i64 a0_0, .int .i64 a0_1, .int .i64 a0_2, .int .i64 a0_3, .int .i64 a0_4, .int .i64 a0_5, .slice A0_6 l0_6.length c0_6], .agg #[.int .i64 a1_0, .int .i64 a1_1, .int .i64 a1_2, .int .i64 a1_3, .int .i64 a1_4, .int .i64 a1_5, .slice A1_6 l1_6.length c1_6]] w fun e w' => e = .returned (.bool r) ∧ Below w.heap.size w w' := by
  have HR0_6 := Aside0.mk hr0_6
  have HC0_6 := Aside0.mk hc0_6
  clear hr0_6 hc0_6
  have HR1_6 := Aside0.mk hr1_6
  have HC1_6 := Aside0.mk hc1_6
  clear hr1_6 hc1_6
  have HB := Aside0.mk (Below.refl w.heap.size w)
  have H := h
  clear h
  unfold impl_equalRules.f at H
  have hu172 := Try.underlying172
  have hu174 := Try.underlying174
  go_enter Try.func152, Try.ntmps152
  replace H := Aside0.mk H
  go_upto_region 1 with (first | ((with_reducible refine gate_dst (N := 2) rfl ?_); refine box_event ?hg (N := 2) ?hd (cs := #[.int .i64 a0_0, .int .i64 a0_1, .int .i64 a0_2, .int .i64 a0_3, .int .i64 a0_4, .int .i64 a0_5, .slice A0_6 l0_6.length c0_6]) (t := 174) ?hr ?_; (case hd => rfl); (case hg => rfl); (case hr => first | (go_simp; done) | (go_simp; rfl)); intro gb1 hg W1 hbox hb; replace HB := bH HB hb; clear hb; have BK1 := Aside0.mk hbox; have c_BK1 := blk_cell hbox; have z_BK1 := blk_frozen hbox; clear hg hbox) | ((with_reducible refine gate_dst (N := 3) rfl ?_); refine box_event ?hg (N := 3) ?hd (cs := #[.int .i64 a1_0, .int .i64 a1_1, .int .i64 a1_2, .int .i64 a1_3, .int .i64 a1_4, .int .i64 a1_5, .slice A1_6 l1_6.length c1_6]) (t := 174) ?hr ?_; (case hd => rfl); (case hg => rfl); (case hr => first | (go_simp; done) | (go_simp; rfl)); intro gb2 hg W2 hbox hb; replace BK1 := bK BK1 hb; replace c_BK1 := blk_cell BK1.out; replace z_BK1 := blk_frozen BK1.out; replace HB := bH HB hb; clear hb; have BK2 := Aside0.mk hbox; have c_BK2 := blk_cell hbox; have z_BK2 := blk_frozen hbox; clear hg hbox))
  replace H := H.out
  by_cases c3 : a0_0 = a1_0
  · rw [if_pos c3] at H
    have c3_0 := decT c3; have c3_1 := eqT c3; have c3_2 := neT c3
    clear c3
    first | rw [c3_1] | rw [c3_2] | skip
    by_cases c4 : a0_1 = a1_1
    · rw [if_pos c4] at H
      have c4_0 := decT c4; have c4_1 := eqT c4; have c4_2 := neT c4
      clear c4
      first | rw [c4_1] | rw [c4_2] | skip
      by_cases c5 : a0_2 = a1_2
      · rw [if_pos c5] at H
        have c5_0 := decT c5; have c5_1 := eqT c5; have c5_2 := neT c5
        clear c5
        first | rw [c5_1] | rw [c5_2] | skip
        replace H := Option.bind_eq_some_iff.mp H
        obtain ⟨t367, hm, H⟩ := H
        try dsimp only at H
        replace H := Aside0.mk H
        have hcall := impl_EqualConds.calls k _ _ _ _ _ _ _ _ _ _ _ _ _ W2 (Kd.C_below HR0_6.out HB.out) HC0_6.out (Kd.C_below HR1_6.out HB.out) HC1_6.out hm
        clear hm
        go_wp2_with fail
        refine hcall.mono ?_
        rintro e W6 ⟨rfl, hb⟩
        clear hcall
        replace BK1 := bK BK1 hb; replace c_BK1 := blk_cell BK1.out; replace z_BK1 := blk_frozen BK1.out
        replace BK2 := bK BK2 hb; replace c_BK2 := blk_cell BK2.out; replace z_BK2 := blk_frozen BK2.out
        replace HB := bH HB hb; clear hb
        replace H := H.out
        obtain rfl := Option.some.inj H
        clear H
        go_wp2
        go_ret
        exact ⟨rfl, HB.out⟩
      · rw [if_neg c5] at H
        have c5_0 := decF c5; have c5_1 := eqF c5; have c5_2 := neF c5
        clear c5
        first | rw [c5_1] | rw [c5_2] | skip
        obtain rfl := Option.some.inj H
        clear H
        go_wp2
        go_ret
        exact ⟨rfl, HB.out⟩
    · rw [if_neg c4] at H
      have c4_0 := decF c4; have c4_1 := eqF c4; have c4_2 := neF c4
      clear c4
      first | rw [c4_1] | rw [c4_2] | skip
      obtain rfl := Option.some.inj H
      clear H
      go_wp2
      go_ret
      exact ⟨rfl, HB.out⟩
  · rw [if_neg c3] at H
    have c3_0 := decF c3; have c3_1 := eqF c3; have c3_2 := neF c3
    clear c3
    first | rw [c3_1] | rw [c3_2] | skip
    obtain rfl := Option.some.inj H
    clear H
    go_wp2
    go_ret
    exact ⟨rfl, HB.out⟩

/-! ### eqf151: function 151 -/
set_option maxHeartbeats 8000000 in
set_option maxRecDepth 100000 in
open Go.Proofs.YtineejdlpcgnkaaH in
theorem eqf151.calls (g : Nat) (lb : Array Value) (eg : ∀ args w, (callFunc g args).run Try.prog w = .ok (.enter g args) w) (p : S174 → S174 → Option Bool) (A0 : Option Addr) (c0 : Nat) (l0 : List S174) (A1 : Option Addr) (c1 : Nat) (l1 : List S174) (r : Bool) (w : World)
    (hp : ∀ (W : World) (x y : S174) (E6 : Option Addr) (d6 : Nat) (G6 : Option Addr) (h6 : Nat) (b : Bool), Below w.heap.size w W → (x).f3.f3.length ≤ d6 → Kd.C k172 W E6 (x).f3.f3.length ((x).f3.f3) → (y).f3.f3.length ≤ h6 → Kd.C k172 W G6 (y).f3.f3.length ((y).f3.f3) → p x y = some b → Calls Try.prog g (#[.agg #[.int .i64 ((x).f0), .int .i64 ((x).f1), .int .i64 ((x).f2), .int .i64 ((x).f3.f0), .int .i64 ((x).f3.f1), .int .i64 ((x).f3.f2), .slice E6 (x).f3.f3.length d6], .agg #[.int .i64 ((y).f0), .int .i64 ((y).f1), .int .i64 ((y).f2), .int .i64 ((y).f3.f0), .int .i64 ((y).f3.f1), .int .i64 ((y).f3.f2), .slice G6 (y).f3.f3.length h6]] ++ lb) W fun e w' => e = .returned (.bool b) ∧ Below w.heap.size w w')
    (hr0 : Kd.C k174 w A0 l0.length l0) (hc0 : l0.length ≤ c0) (hr1 : Kd.C k174 w A1 l1.length l1) (hc1 : l1.length ≤ c1) (h : eqO p l0 l1 = some r) :
    Calls Try.prog 151 #[.slice A0 l0.length c0, .slice A1 l1.length c1, .func (.func g) #[] lb] w fun e w' => e = .returned (.bool r) ∧ Below w.heap.size w w' := by
  have hu174 := Try.underlying174
  have HLEN : Aside0 (l0.length ≤ 9223372036854775807) := ⟨hr0.2.1⟩
  have HR0 := Aside0.mk hr0
  have HR1 := Aside0.mk hr1
  have HP := Aside0.mk hp
  unfold eqO at h
  by_cases hl : l0.length = l1.length
  rotate_left
  · rw [if_neg hl] at h
    obtain rfl := Option.some.inj h
    have c1b : (l0.length == l1.length) = false := by simpa using hl
    have c2b : (l0.length != l1.length) = true := by simpa using hl
    have c3b : ((l0.length : Int) == (l1.length : Int)) = false := beq_eq_false_iff_ne.mpr (by omega)
    have c4b : ((l0.length : Int) != (l1.length : Int)) = true := bne_iff_ne.mpr (by omega)
    clear hr0 hc0 hr1 hc1 h hp HP hl eg
    go_enter Try.func151, Try.ntmps151
    go_wp2
    go_ret
    exact ⟨rfl, Below.refl _ _⟩
  · rw [if_pos hl] at h
    have c1b : (l0.length == l1.length) = true := by simpa using hl
    have c2b : (l0.length != l1.length) = false := by simpa using hl
    have c3b : ((l0.length : Int) == (l1.length : Int)) = true := beq_iff_eq.mpr (by omega)
    have c4b : ((l0.length : Int) != (l1.length : Int)) = false := bne_eq_false_iff_eq.mpr (by omega)
    have HL := Aside0.mk hl
    have H' := Aside0.mk (show allO p (l0.drop (0 : Int).toNat) (l1.drop (0 : Int).toNat) = some r from h)
    clear hr0 hc0 hr1 hc1 h hp hl
    go_enter Try.func151, Try.ntmps151
    go_wp2
    go_loopg [17] l0.length (fun gg v17 wr => ∃ x : Int, v17 = .int .i64 x ∧ Aside0 (0 ≤ x ∧ x ≤ l0.length ∧ l0.length - x.toNat ≤ gg) ∧ Aside0 (Below w.heap.size w wr) ∧ Aside0 (allO p (l0.drop x.toNat) (l1.drop x.toNat) = some r))
    case atStart => exact ⟨0, rfl, ⟨by omega, by omega, by omega⟩, ⟨Below.refl _ w⟩, H'⟩
    case round =>
      clear H'
      obtain ⟨x, rfl, HX, BW, HA⟩ := hrel
      by_cases hlt : x < (l0.length : Int)
      · have b1 : decide (x < (l0.length : Int)) = true := decide_eq_true hlt
        have p1 : 0 ≤ x := HX.out.1
        have q1 : x < (l0.length : Int) := hlt
        have q2 : x < (l1.length : Int) := by have := HL.out; omega
        have b2 : decide (x < (l1.length : Int)) = true := decide_eq_true q2
        obtain ⟨b, hb, hf, ht⟩ := allO_at (z := z174) (z' := z174) HA.out p1 q1 q2
        have HB := Aside0.mk hb
        have HQ := Aside0.mk hlt
        clear hb HA
        obtain ⟨ada, E6, d6, ea, ha0, ha1, ha2, ha3, ha4, ha5, ha6, la6, ga6⟩ := at_T174 (Kd.C_below HR0.out BW.out) x p1 q1
        obtain ⟨adb, G6, h6, eb, hb0, hb1, hb2, hb3, hb4, hb5, hb6, lb6, gb6⟩ := at_T174 (Kd.C_below HR1.out BW.out) x p1 q2
        cases ea
        cases eb
        have La6 := Aside0.mk la6; have Ga6 := Aside0.mk ga6; have Lb6 := Aside0.mk lb6; have Gb6 := Aside0.mk gb6; clear la6 ga6 lb6 gb6
        have p1' := eq_true p1
        have q1' := eq_true q1
        have q2' := eq_true q2
        clear p1 q1 q2 hlt
        replace hb0 := cell_kept (.cells #[.int .i64 ((rd_T174 l0 x).f0), .int .i64 ((rd_T174 l0 x).f1), .int .i64 ((rd_T174 l0 x).f2), .int .i64 ((rd_T174 l0 x).f3.f0), .int .i64 ((rd_T174 l0 x).f3.f1), .int .i64 ((rd_T174 l0 x).f3.f2), .slice E6 (rd_T174 l0 x).f3.f3.length d6] 174) hb0
        replace hb1 := cell_kept (.cells #[.int .i64 ((rd_T174 l0 x).f0), .int .i64 ((rd_T174 l0 x).f1), .int .i64 ((rd_T174 l0 x).f2), .int .i64 ((rd_T174 l0 x).f3.f0), .int .i64 ((rd_T174 l0 x).f3.f1), .int .i64 ((rd_T174 l0 x).f3.f2), .slice E6 (rd_T174 l0 x).f3.f3.length d6] 174) hb1
        replace hb2 := cell_kept (.cells #[.int .i64 ((rd_T174 l0 x).f0), .int .i64 ((rd_T174 l0 x).f1), .int .i64 ((rd_T174 l0 x).f2), .int .i64 ((rd_T174 l0 x).f3.f0), .int .i64 ((rd_T174 l0 x).f3.f1), .int .i64 ((rd_T174 l0 x).f3.f2), .slice E6 (rd_T174 l0 x).f3.f3.length d6] 174) hb2
        replace hb3 := cell_kept (.cells #[.int .i64 ((rd_T174 l0 x).f0), .int .i64 ((rd_T174 l0 x).f1), .int .i64 ((rd_T174 l0 x).f2), .int .i64 ((rd_T174 l0 x).f3.f0), .int .i64 ((rd_T174 l0 x).f3.f1), .int .i64 ((rd_T174 l0 x).f3.f2), .slice E6 (rd_T174 l0 x).f3.f3.length d6] 174) hb3
        replace hb4 := cell_kept (.cells #[.int .i64 ((rd_T174 l0 x).f0), .int .i64 ((rd_T174 l0 x).f1), .int .i64 ((rd_T174 l0 x).f2), .int .i64 ((rd_T174 l0 x).f3.f0), .int .i64 ((rd_T174 l0 x).f3.f1), .int .i64 ((rd_T174 l0 x).f3.f2), .slice E6 (rd_T174 l0 x).f3.f3.length d6] 174) hb4
        replace hb5 := cell_kept (.cells #[.int .i64 ((rd_T174 l0 x).f0), .int .i64 ((rd_T174 l0 x).f1), .int .i64 ((rd_T174 l0 x).f2), .int .i64 ((rd_T174 l0 x).f3.f0), .int .i64 ((rd_T174 l0 x).f3.f1), .int .i64 ((rd_T174 l0 x).f3.f2), .slice E6 (rd_T174 l0 x).f3.f3.length d6] 174) hb5
        replace hb6 := cell_kept (.cells #[.int .i64 ((rd_T174 l0 x).f0), .int .i64 ((rd_T174 l0 x).f1), .int .i64 ((rd_T174 l0 x).f2), .int .i64 ((rd_T174 l0 x).f3.f0), .int .i64 ((rd_T174 l0 x).f3.f1), .int .i64 ((rd_T174 l0 x).f3.f2), .slice E6 (rd_T174 l0 x).f3.f3.length d6] 174) hb6
        have hq0 : ((wr.alloc (.cells #[.int .i64 ((rd_T174 l0 x).f0), .int .i64 ((rd_T174 l0 x).f1), .int .i64 ((rd_T174 l0 x).f2), .int .i64 ((rd_T174 l0 x).f3.f0), .int .i64 ((rd_T174 l0 x).f3.f1), .int .i64 ((rd_T174 l0 x).f3.f2), .slice E6 (rd_T174 l0 x).f3.f3.length d6] 174)).alloc (.cells #[.int .i64 ((rd_T174 l1 x).f0), .int .i64 ((rd_T174 l1 x).f1), .int .i64 ((rd_T174 l1 x).f2), .int .i64 ((rd_T174 l1 x).f3.f0), .int .i64 ((rd_T174 l1 x).f3.f1), .int .i64 ((rd_T174 l1 x).f3.f2), .slice G6 (rd_T174 l1 x).f3.f3.length h6] 174)).cell? ⟨wr.heap.size, 0, none⟩ = some (.int .i64 ((rd_T174 l0 x).f0)) := cell_kept _ (cell_made rfl 0 rfl)
        have hq1 : ((wr.alloc (.cells #[.int .i64 ((rd_T174 l0 x).f0), .int .i64 ((rd_T174 l0 x).f1), .int .i64 ((rd_T174 l0 x).f2), .int .i64 ((rd_T174 l0 x).f3.f0), .int .i64 ((rd_T174 l0 x).f3.f1), .int .i64 ((rd_T174 l0 x).f3.f2), .slice E6 (rd_T174 l0 x).f3.f3.length d6] 174)).alloc (.cells #[.int .i64 ((rd_T174 l1 x).f0), .int .i64 ((rd_T174 l1 x).f1), .int .i64 ((rd_T174 l1 x).f2), .int .i64 ((rd_T174 l1 x).f3.f0), .int .i64 ((rd_T174 l1 x).f3.f1), .int .i64 ((rd_T174 l1 x).f3.f2), .slice G6 (rd_T174 l1 x).f3.f3.length h6] 174)).cell? ⟨wr.heap.size, 1, none⟩ = some (.int .i64 ((rd_T174 l0 x).f1)) := cell_kept _ (cell_made rfl 1 rfl)
        have hq2 : ((wr.alloc (.cells #[.int .i64 ((rd_T174 l0 x).f0), .int .i64 ((rd_T174 l0 x).f1), .int .i64 ((rd_T174 l0 x).f2), .int .i64 ((rd_T174 l0 x).f3.f0), .int .i64 ((rd_T174 l0 x).f3.f1), .int .i64 ((rd_T174 l0 x).f3.f2), .slice E6 (rd_T174 l0 x).f3.f3.length d6] 174)).alloc (.cells #[.int .i64 ((rd_T174 l1 x).f0), .int .i64 ((rd_T174 l1 x).f1), .int .i64 ((rd_T174 l1 x).f2), .int .i64 ((rd_T174 l1 x).f3.f0), .int .i64 ((rd_T174 l1 x).f3.f1), .int .i64 ((rd_T174 l1 x).f3.f2), .slice G6 (rd_T174 l1 x).f3.f3.length h6] 174)).cell? ⟨wr.heap.size, 2, none⟩ = some (.int .i64 ((rd_T174 l0 x).f2)) := cell_kept _ (cell_made rfl 2 rfl)
        have hq3 : ((wr.alloc (.cells #[.int .i64 ((rd_T174 l0 x).f0), .int .i64 ((rd_T174 l0 x).f1), .int .i64 ((rd_T174 l0 x).f2), .int .i64 ((rd_T174 l0 x).f3.f0), .int .i64 ((rd_T174 l0 x).f3.f1), .int .i64 ((rd_T174 l0 x).f3.f2), .slice E6 (rd_T174 l0 x).f3.f3.length d6] 174)).alloc (.cells #[.int .i64 ((rd_T174 l1 x).f0), .int .i64 ((rd_T174 l1 x).f1), .int .i64 ((rd_T174 l1 x).f2), .int .i64 ((rd_T174 l1 x).f3.f0), .int .i64 ((rd_T174 l1 x).f3.f1), .int .i64 ((rd_T174 l1 x).f3.f2), .slice G6 (rd_T174 l1 x).f3.f3.length h6] 174)).cell? ⟨wr.heap.size, 3, none⟩ = some (.int .i64 ((rd_T174 l0 x).f3.f0)) := cell_kept _ (cell_made rfl 3 rfl)
        have hq4 : ((wr.alloc (.cells #[.int .i64 ((rd_T174 l0 x).f0), .int .i64 ((rd_T174 l0 x).f1), .int .i64 ((rd_T174 l0 x).f2), .int .i64 ((rd_T174 l0 x).f3.f0), .int .i64 ((rd_T174 l0 x).f3.f1), .int .i64 ((rd_T174 l0 x).f3.f2), .slice E6 (rd_T174 l0 x).f3.f3.length d6] 174)).alloc (.cells #[.int .i64 ((rd_T174 l1 x).f0), .int .i64 ((rd_T174 l1 x).f1), .int .i64 ((rd_T174 l1 x).f2), .int .i64 ((rd_T174 l1 x).f3.f0), .int .i64 ((rd_T174 l1 x).f3.f1), .int .i64 ((rd_T174 l1 x).f3.f2), .slice G6 (rd_T174 l1 x).f3.f3.length h6] 174)).cell? ⟨wr.heap.size, 4, none⟩ = some (.int .i64 ((rd_T174 l0 x).f3.f1)) := cell_kept _ (cell_made rfl 4 rfl)
        have hq5 : ((wr.alloc (.cells #[.int .i64 ((rd_T174 l0 x).f0), .int .i64 ((rd_T174 l0 x).f1), .int .i64 ((rd_T174 l0 x).f2), .int .i64 ((rd_T174 l0 x).f3.f0), .int .i64 ((rd_T174 l0 x).f3.f1), .int .i64 ((rd_T174 l0 x).f3.f2), .slice E6 (rd_T174 l0 x).f3.f3.length d6] 174)).alloc (.cells #[.int .i64 ((rd_T174 l1 x).f0), .int .i64 ((rd_T174 l1 x).f1), .int .i64 ((rd_T174 l1 x).f2), .int .i64 ((rd_T174 l1 x).f3.f0), .int .i64 ((rd_T174 l1 x).f3.f1), .int .i64 ((rd_T174 l1 x).f3.f2), .slice G6 (rd_T174 l1 x).f3.f3.length h6] 174)).cell? ⟨wr.heap.size, 5, none⟩ = some (.int .i64 ((rd_T174 l0 x).f3.f2)) := cell_kept _ (cell_made rfl 5 rfl)
        have hq6 : ((wr.alloc (.cells #[.int .i64 ((rd_T174 l0 x).f0), .int .i64 ((rd_T174 l0 x).f1), .int .i64 ((rd_T174 l0 x).f2), .int .i64 ((rd_T174 l0 x).f3.f0), .int .i64 ((rd_T174 l0 x).f3.f1), .int .i64 ((rd_T174 l0 x).f3.f2), .slice E6 (rd_T174 l0 x).f3.f3.length d6] 174)).alloc (.cells #[.int .i64 ((rd_T174 l1 x).f0), .int .i64 ((rd_T174 l1 x).f1), .int .i64 ((rd_T174 l1 x).f2), .int .i64 ((rd_T174 l1 x).f3.f0), .int .i64 ((rd_T174 l1 x).f3.f1), .int .i64 ((rd_T174 l1 x).f3.f2), .slice G6 (rd_T174 l1 x).f3.f3.length h6] 174)).cell? ⟨wr.heap.size, 6, none⟩ = some (.slice E6 (rd_T174 l0 x).f3.f3.length d6) := cell_kept _ (cell_made rfl 6 rfl)
        have hz0 : ((wr.alloc (.cells #[.int .i64 ((rd_T174 l0 x).f0), .int .i64 ((rd_T174 l0 x).f1), .int .i64 ((rd_T174 l0 x).f2), .int .i64 ((rd_T174 l0 x).f3.f0), .int .i64 ((rd_T174 l0 x).f3.f1), .int .i64 ((rd_T174 l0 x).f3.f2), .slice E6 (rd_T174 l0 x).f3.f3.length d6] 174)).alloc (.cells #[.int .i64 ((rd_T174 l1 x).f0), .int .i64 ((rd_T174 l1 x).f1), .int .i64 ((rd_T174 l1 x).f2), .int .i64 ((rd_T174 l1 x).f3.f0), .int .i64 ((rd_T174 l1 x).f3.f1), .int .i64 ((rd_T174 l1 x).f3.f2), .slice G6 (rd_T174 l1 x).f3.f3.length h6] 174)).cell? ⟨wr.heap.size + 1, 0, none⟩ = some (.int .i64 ((rd_T174 l1 x).f0)) := cell_made (by simp) 0 rfl
        have hz1 : ((wr.alloc (.cells #[.int .i64 ((rd_T174 l0 x).f0), .int .i64 ((rd_T174 l0 x).f1), .int .i64 ((rd_T174 l0 x).f2), .int .i64 ((rd_T174 l0 x).f3.f0), .int .i64 ((rd_T174 l0 x).f3.f1), .int .i64 ((rd_T174 l0 x).f3.f2), .slice E6 (rd_T174 l0 x).f3.f3.length d6] 174)).alloc (.cells #[.int .i64 ((rd_T174 l1 x).f0), .int .i64 ((rd_T174 l1 x).f1), .int .i64 ((rd_T174 l1 x).f2), .int .i64 ((rd_T174 l1 x).f3.f0), .int .i64 ((rd_T174 l1 x).f3.f1), .int .i64 ((rd_T174 l1 x).f3.f2), .slice G6 (rd_T174 l1 x).f3.f3.length h6] 174)).cell? ⟨wr.heap.size + 1, 1, none⟩ = some (.int .i64 ((rd_T174 l1 x).f1)) := cell_made (by simp) 1 rfl
        have hz2 : ((wr.alloc (.cells #[.int .i64 ((rd_T174 l0 x).f0), .int .i64 ((rd_T174 l0 x).f1), .int .i64 ((rd_T174 l0 x).f2), .int .i64 ((rd_T174 l0 x).f3.f0), .int .i64 ((rd_T174 l0 x).f3.f1), .int .i64 ((rd_T174 l0 x).f3.f2), .slice E6 (rd_T174 l0 x).f3.f3.length d6] 174)).alloc (.cells #[.int .i64 ((rd_T174 l1 x).f0), .int .i64 ((rd_T174 l1 x).f1), .int .i64 ((rd_T174 l1 x).f2), .int .i64 ((rd_T174 l1 x).f3.f0), .int .i64 ((rd_T174 l1 x).f3.f1), .int .i64 ((rd_T174 l1 x).f3.f2), .slice G6 (rd_T174 l1 x).f3.f3.length h6] 174)).cell? ⟨wr.heap.size + 1, 2, none⟩ = some (.int .i64 ((rd_T174 l1 x).f2)) := cell_made (by simp) 2 rfl
        have hz3 : ((wr.alloc (.cells #[.int .i64 ((rd_T174 l0 x).f0), .int .i64 ((rd_T174 l0 x).f1), .int .i64 ((rd_T174 l0 x).f2), .int .i64 ((rd_T174 l0 x).f3.f0), .int .i64 ((rd_T174 l0 x).f3.f1), .int .i64 ((rd_T174 l0 x).f3.f2), .slice E6 (rd_T174 l0 x).f3.f3.length d6] 174)).alloc (.cells #[.int .i64 ((rd_T174 l1 x).f0), .int .i64 ((rd_T174 l1 x).f1), .int .i64 ((rd_T174 l1 x).f2), .int .i64 ((rd_T174 l1 x).f3.f0), .int .i64 ((rd_T174 l1 x).f3.f1), .int .i64 ((rd_T174 l1 x).f3.f2), .slice G6 (rd_T174 l1 x).f3.f3.length h6] 174)).cell? ⟨wr.heap.size + 1, 3, none⟩ = some (.int .i64 ((rd_T174 l1 x).f3.f0)) := cell_made (by simp) 3 rfl
        have hz4 : ((wr.alloc (.cells #[.int .i64 ((rd_T174 l0 x).f0), .int .i64 ((rd_T174 l0 x).f1), .int .i64 ((rd_T174 l0 x).f2), .int .i64 ((rd_T174 l0 x).f3.f0), .int .i64 ((rd_T174 l0 x).f3.f1), .int .i64 ((rd_T174 l0 x).f3.f2), .slice E6 (rd_T174 l0 x).f3.f3.length d6] 174)).alloc (.cells #[.int .i64 ((rd_T174 l1 x).f0), .int .i64 ((rd_T174 l1 x).f1), .int .i64 ((rd_T174 l1 x).f2), .int .i64 ((rd_T174 l1 x).f3.f0), .int .i64 ((rd_T174 l1 x).f3.f1), .int .i64 ((rd_T174 l1 x).f3.f2), .slice G6 (rd_T174 l1 x).f3.f3.length h6] 174)).cell? ⟨wr.heap.size + 1, 4, none⟩ = some (.int .i64 ((rd_T174 l1 x).f3.f1)) := cell_made (by simp) 4 rfl
        have hz5 : ((wr.alloc (.cells #[.int .i64 ((rd_T174 l0 x).f0), .int .i64 ((rd_T174 l0 x).f1), .int .i64 ((rd_T174 l0 x).f2), .int .i64 ((rd_T174 l0 x).f3.f0), .int .i64 ((rd_T174 l0 x).f3.f1), .int .i64 ((rd_T174 l0 x).f3.f2), .slice E6 (rd_T174 l0 x).f3.f3.length d6] 174)).alloc (.cells #[.int .i64 ((rd_T174 l1 x).f0), .int .i64 ((rd_T174 l1 x).f1), .int .i64 ((rd_T174 l1 x).f2), .int .i64 ((rd_T174 l1 x).f3.f0), .int .i64 ((rd_T174 l1 x).f3.f1), .int .i64 ((rd_T174 l1 x).f3.f2), .slice G6 (rd_T174 l1 x).f3.f3.length h6] 174)).cell? ⟨wr.heap.size + 1, 5, none⟩ = some (.int .i64 ((rd_T174 l1 x).f3.f2)) := cell_made (by simp) 5 rfl
        have hz6 : ((wr.alloc (.cells #[.int .i64 ((rd_T174 l0 x).f0), .int .i64 ((rd_T174 l0 x).f1), .int .i64 ((rd_T174 l0 x).f2), .int .i64 ((rd_T174 l0 x).f3.f0), .int .i64 ((rd_T174 l0 x).f3.f1), .int .i64 ((rd_T174 l0 x).f3.f2), .slice E6 (rd_T174 l0 x).f3.f3.length d6] 174)).alloc (.cells #[.int .i64 ((rd_T174 l1 x).f0), .int .i64 ((rd_T174 l1 x).f1), .int .i64 ((rd_T174 l1 x).f2), .int .i64 ((rd_T174 l1 x).f3.f0), .int .i64 ((rd_T174 l1 x).f3.f1), .int .i64 ((rd_T174 l1 x).f3.f2), .slice G6 (rd_T174 l1 x).f3.f3.length h6] 174)).cell? ⟨wr.heap.size + 1, 6, none⟩ = some (.slice G6 (rd_T174 l1 x).f3.f3.length h6) := cell_made (by simp) 6 rfl
        have BW2 : Aside0 (Below w.heap.size w ((wr.alloc (.cells #[.int .i64 ((rd_T174 l0 x).f0), .int .i64 ((rd_T174 l0 x).f1), .int .i64 ((rd_T174 l0 x).f2), .int .i64 ((rd_T174 l0 x).f3.f0), .int .i64 ((rd_T174 l0 x).f3.f1), .int .i64 ((rd_T174 l0 x).f3.f2), .slice E6 (rd_T174 l0 x).f3.f3.length d6] 174)).alloc (.cells #[.int .i64 ((rd_T174 l1 x).f0), .int .i64 ((rd_T174 l1 x).f1), .int .i64 ((rd_T174 l1 x).f2), .int .i64 ((rd_T174 l1 x).f3.f0), .int .i64 ((rd_T174 l1 x).f3.f1), .int .i64 ((rd_T174 l1 x).f3.f2), .slice G6 (rd_T174 l1 x).f3.f3.length h6] 174))) := ⟨below_alloc (below_alloc BW.out _) _⟩
        have hcall := HP.out ((wr.alloc (.cells #[.int .i64 ((rd_T174 l0 x).f0), .int .i64 ((rd_T174 l0 x).f1), .int .i64 ((rd_T174 l0 x).f2), .int .i64 ((rd_T174 l0 x).f3.f0), .int .i64 ((rd_T174 l0 x).f3.f1), .int .i64 ((rd_T174 l0 x).f3.f2), .slice E6 (rd_T174 l0 x).f3.f3.length d6] 174)).alloc (.cells #[.int .i64 ((rd_T174 l1 x).f0), .int .i64 ((rd_T174 l1 x).f1), .int .i64 ((rd_T174 l1 x).f2), .int .i64 ((rd_T174 l1 x).f3.f0), .int .i64 ((rd_T174 l1 x).f3.f1), .int .i64 ((rd_T174 l1 x).f3.f2), .slice G6 (rd_T174 l1 x).f3.f3.length h6] 174)) (rd_T174 l0 x) (rd_T174 l1 x) E6 d6 G6 h6 b BW2.out La6.out (Kd.C_alloc (Kd.C_alloc Ga6.out _) _) Lb6.out (Kd.C_alloc (Kd.C_alloc Gb6.out _) _) HB.out
        cases b with
        | false =>
          have HF := Aside0.mk (hf rfl)
          clear hf ht HP HB
          go_wp2_with fail
          refine hcall.mono ?_
          rintro e w' ⟨rfl, hb'⟩
          clear hcall eg ha0 hb0 hq0 hz0 ha1 hb1 hq1 hz1 ha2 hb2 hq2 hz2 ha3 hb3 hq3 hz3 ha4 hb4 hq4 hz4 ha5 hb5 hq5 hz5 ha6 hb6 hq6 hz6
          go_wp2
          go_ret
          exact ⟨by rw [← HF.out]; rfl, hb'⟩
        | true =>
          have HT := Aside0.mk (ht rfl)
          clear hf ht HP HB
          go_wp2_with fail
          refine hcall.mono ?_
          rintro e w' ⟨rfl, hb'⟩
          clear hcall eg ha0 hb0 hq0 hz0 ha1 hb1 hq1 hz1 ha2 hb2 hq2 hz2 ha3 hb3 hq3 hz3 ha4 hb4 hq4 hz4 ha5 hb5 hq5 hz5 ha6 hb6 hq6 hz6
          go_wp2
          have he : wrap64 (x + 1) = x + 1 := wrap_up HX.out.1 HQ.out HLEN.out
          go_roundg (l0.length - (x + 1).toNat)
          case measure => have := HX.out; have := HQ.out; omega
          case rel =>
            refine ⟨x + 1, ?_, ⟨by have := HX.out; omega, by have := HQ.out; omega, Nat.le_refl _⟩, ⟨hb'⟩, HT⟩
            simp [he]
      · have b1 : decide (x < (l0.length : Int)) = false := decide_eq_false hlt
        have HN := Aside0.mk hlt
        clear hlt
        go_wp2
        go_ret
        exact ⟨by rw [← allO_end HA.out HX.out.2.1 (by have := HN.out; omega)]; rfl, BW.out⟩

def eqF151.f (k : Nat) (l0 : List S174) (l1 : List S174) (g : Nat) : Option Bool := if g = 152 then Go.Proofs.YtineejdlpcgnkaaH.eqO (fun x y => impl_equalRules.f k x.f0 x.f1 x.f2 x.f3.f0 x.f3.f1 x.f3.f2 x.f3.f3 y.f0 y.f1 y.f2 y.f3.f0 y.f3.f1 y.f3.f2 y.f3.f3) l0 l1 else none
set_option maxHeartbeats 8000000 in
set_option maxRecDepth 100000 in
theorem eqF151.calls (k : Nat) (A0 : Option Addr) (c0 : Nat) (l0 : List S174) (A1 : Option Addr) (c1 : Nat) (l1 : List S174) (g : Nat) (r : Bool) (w : World) (hr0 : Kd.C k174 w A0 l0.length l0) (hc0 : l0.length ≤ c0) (hr1 : Kd.C k174 w A1 l1.length l1) (hc1 : l1.length ≤ c1) (h : eqF151.f k l0 l1 g = some r) :
    Calls Try.prog 151 #[.slice A0 l0.length c0, .slice A1 l1.length c1, .func (.func g) #[] #[]] w fun e w' => e = .returned (.bool r) ∧ Below w.heap.size w w' := by
  unfold eqF151.f at h
  by_cases hg_ : g = 152
  case neg => rw [if_neg hg_] at h; exact absurd h (by simp)
  rw [if_pos hg_] at h
  subst hg_
  have eg : ∀ args w, (callFunc 152 args).run Try.prog w = .ok (.enter 152 args) w := Go.Proofs.YtineejdlpcgnkaaH.enters Try.func152 (by kernel_rfl) rfl
  exact eqf151.calls 152 #[] eg _ A0 c0 l0 A1 c1 l1 r w (fun W x y E6 d6 G6 h6 b hW a6 b6 u6 v6 hp => (impl_equalRules.calls k  x.f0 x.f1 x.f2 x.f3.f0 x.f3.f1 x.f3.f2 _ _ x.f3.f3 y.f0 y.f1 y.f2 y.f3.f0 y.f3.f1 y.f3.f2 _ _ y.f3.f3 b W b6 a6 v6 u6 hp).mono (fun e w' ⟨he, hb⟩ => ⟨he, hW.trans (hb.mono hW.size)⟩)) hr0 hc0 hr1 hc1 h

/-! ### impl_EqualPolicies: function 122 -/
def impl_EqualPolicies.f (k : Nat) (a0_0 : Int) (l0_1 : List (S174)) (a1_0 : Int) (l1_1 : List (S174)) : Option (Bool) := if a0_0 = a1_0 then ((eqF151.f k l0_1 l1_1 152).bind fun t370 => (some t370)) else (some false)
open Go.Proofs.YtineejdlpcgnkaaM in
set_option maxHeartbeats 8000000 in
set_option maxRecDepth 100000 in
theorem impl_EqualPolicies.calls (k : Nat) (a0_0 : Int) (A0_1 : Option Addr) (c0_1 : Nat) (l0_1 : List (S174)) (a1_0 : Int) (A1_1 : Option Addr) (c1_1 : Nat) (l1_1 : List (S174)) (r : Bool) (w : World) (hr0_1 : Kd.C k174 w A0_1 l0_1.length l0_1) (hc0_1 : l0_1.length ≤ c0_1) (hr1_1 : Kd.C k174 w A1_1 l1_1.length l1_1) (hc1_1 : l1_1.length ≤ c1_1) (h : impl_EqualPolicies.f k a0_0 l0_1 a1_0 l1_1 = some r) :
    Calls Try.prog 122 #[.agg #[.int .i64 a0_0, .slice A0_1 l0_1.length c0_1], .agg #[.int .i64 a1_0, .slice A1_1 l1_1.length c1_1]] w fun e w' => e = .returned (.bool r) ∧ Below w.heap.size w w' := by
  have HR0_1 := Aside0.mk hr0_1
  have HC0_1 := Aside0.mk hc0_1
  clear hr0_1 hc0_1
  have HR1_1 := Aside0.mk hr1_1
  have HC1_1 := Aside0.mk hc1_1
  clear hr1_1 hc1_1
  have HB := Aside0.mk (Below.refl w.heap.size w)
  have H := h
  clear h
  unfold impl_EqualPolicies.f at H
  have hu38 := Try.underlying38
  go_enter Try.func122, Try.ntmps122
  replace H := Aside0.mk H
  go_upto_region 1 with (first | ((with_reducible refine gate_dst (N := 2) rfl ?_); refine box_event ?hg (N := 2) ?hd (cs := #[.int .i64 a0_0, .slice A0_1 l0_1.length c0_1]) (t := 38) ?hr ?_; (case hd => rfl); (case hg => rfl); (case hr => first | (go_simp; done) | (go_simp; rfl)); intro gb1 hg W1 hbox hb; replace HB := bH HB hb; clear hb; have BK1 := Aside0.mk hbox; have c_BK1 := blk_cell hbox; have z_BK1 := blk_frozen hbox; clear hg hbox) | ((with_reducible refine gate_dst (N := 3) rfl ?_); refine box_event ?hg (N := 3) ?hd (cs := #[.int .i64 a1_0, .slice A1_1 l1_1.length c1_1]) (t := 38) ?hr ?_; (case hd => rfl); (case hg => rfl); (case hr => first | (go_simp; done) | (go_simp; rfl)); intro gb2 hg W2 hbox hb; replace BK1 := bK BK1 hb; replace c_BK1 := blk_cell BK1.out; replace z_BK1 := blk_frozen BK1.out; replace HB := bH HB hb; clear hb; have BK2 := Aside0.mk hbox; have c_BK2 := blk_cell hbox; have z_BK2 := blk_frozen hbox; clear hg hbox))
  replace H := H.out
  by_cases c3 : a0_0 = a1_0
  · rw [if_pos c3] at H
    have c3_0 := decT c3; have c3_1 := eqT c3; have c3_2 := neT c3
    clear c3
    first | rw [c3_1] | rw [c3_2] | skip
    replace H := Option.bind_eq_some_iff.mp H
    obtain ⟨t370, hm, H⟩ := H
    try dsimp only at H
    replace H := Aside0.mk H
    have hcall := eqF151.calls k _ _ _ _ _ _ _ _ W2 (Kd.C_below HR0_1.out HB.out) HC0_1.out (Kd.C_below HR1_1.out HB.out) HC1_1.out hm
    clear hm
    go_wp2_with fail
    refine hcall.mono ?_
    rintro e W4 ⟨rfl, hb⟩
    clear hcall
    replace BK1 := bK BK1 hb; replace c_BK1 := blk_cell BK1.out; replace z_BK1 := blk_frozen BK1.out
    replace BK2 := bK BK2 hb; replace c_BK2 := blk_cell BK2.out; replace z_BK2 := blk_frozen BK2.out
    replace HB := bH HB hb; clear hb
    replace H := H.out
    obtain rfl := Option.some.inj H
    clear H
    go_wp2
    go_ret
    exact ⟨rfl, HB.out⟩
  · rw [if_neg c3] at H
    have c3_0 := decF c3; have c3_1 := eqF c3; have c3_2 := neF c3
    clear c3
    first | rw [c3_1] | rw [c3_2] | skip
    obtain rfl := Option.some.inj H
    clear H
    go_wp2
    go_ret
    exact ⟨rfl, HB.out⟩

/-! ### impl_EqualEpochs: function 66 -/
def impl_EqualEpochs.f (k : Nat) (a0_0 : Int) (a0_1 : Int) (l0_2 : List (S149)) (a0_3 : Int) (l0_4 : List (S174)) (a1_0 : Int) (a1_1 : Int) (l1_2 : List (S149)) (a1_3 : Int) (l1_4 : List (S174)) : Option (Bool) := if a0_0 = a1_0 then (if a0_1 = a1_1 then ((impl_Includes.f k l0_2 l1_2).bind fun t373 => (if t373 = true then ((impl_EqualPolicies.f k a0_3 l0_4 a1_3 l1_4).bind fun t374 => (some t374)) else (some false))) else (some false)) else (some false)
open Go.Proofs.YtineejdlpcgnkaaM in
set_option maxHeartbeats 8000000 in
set_option maxRecDepth 100000 in
theorem impl_EqualEpochs.calls (k : Nat) (a0_0 : Int) (a0_1 : Int) (A0_2 : Option Addr) (c0_2 : Nat) (l0_2 : List (S149)) (a0_3 : Int) (A0_4 : Option Addr) (c0_4 : Nat) (l0_4 : List (S174)) (a1_0 : Int) (a1_1 : Int) (A1_2 : Option Addr) (c1_2 : Nat) (l1_2 : List (S149)) (a1_3 : Int) (A1_4 : Option Addr) (c1_4 : Nat) (l1_4 : List (S174)) (r : Bool) (w : World) (hr0_2 : Kd.C k149 w A0_2 l0_2.length l0_2) (hc0_2 : l0_2.length ≤ c0_2) (hr0_4 : Kd.C k174 w A0_4 l0_4.length l0_4) (hc0_4 : l0_4.length ≤ c0_4) (hr1_2 : Kd.C k149 w A1_2 l1_2.length l1_2) (hc1_2 : l1_2.length ≤ c1_2) (hr1_4 : Kd.C k174 w A1_4 l1_4.length l1_4) (hc1_4 : l1_4.length ≤ c1_4) (h : impl_EqualEpochs.f k a0_0 a0_1 l0_2 a0_3 l0_4 a1_0 a1_1 l1_2 a1_3 l1_4 = some r) :
    Calls Try.prog 66 #[.agg #[.int .i64 a0_0, .int .i64 a0_1, .slice A0_2 l0_2.length c0_2, .int .i64 a0_3, .slice A0_4 l0_4.length c0_4], .agg #[.int .i64 a1_0, .int .i64 a1_1, .slice A1_2 l1_2.length c1_2, .int .i64 a1_3, .slice A1_4 l1_4.length c1_4]] w fun e w' => e = .returned (.bool r) ∧ Below w.heap.size w w' := by
  have HR0_2 := Aside0.mk hr0_2
  have HC0_2 := Aside0.mk hc0_2
  clear hr0_2 hc0_2
  have HR0_4 := Aside0.mk hr0_4
  have HC0_4 := Aside0.mk hc0_4
  clear hr0_4 hc0_4
  have HR1_2 := Aside0.mk hr1_2
  have HC1_2 := Aside0.mk hc1_2
  clear hr1_2 hc1_2
  have HR1_4 := Aside0.mk hr1_4
  have HC1_4 := Aside0.mk hc1_4
  clear hr1_4 hc1_4
  have HB := Aside0.mk (Below.refl w.heap.size w)
  have H := h
  clear h
  unfold impl_EqualEpochs.f at H
  have hu38 := Try.underlying38
  have hu40 := Try.underlying40
  go_enter Try.func66, Try.ntmps66
  replace H := Aside0.mk H
  go_upto_region 1 with (first | ((with_reducible refine gate_dst (N := 2) rfl ?_); refine box_event ?hg (N := 2) ?hd (cs := #[.int .i64 a0_0, .int .i64 a0_1, .slice A0_2 l0_2.length c0_2, .int .i64 a0_3, .slice A0_4 l0_4.length c0_4]) (t := 40) ?hr ?_; (case hd => rfl); (case hg => rfl); (case hr => first | (go_simp; done) | (go_simp; rfl)); intro gb1 hg W1 hbox hb; replace HB := bH HB hb; clear hb; have BK1 := Aside0.mk hbox; have c_BK1 := blk_cell hbox; have z_BK1 := blk_frozen hbox; clear hg hbox) | ((with_reducible refine gate_dst (N := 3) rfl ?_); refine box_event ?hg (N := 3) ?hd (cs := #[.int .i64 a1_0, .int .i64 a1_1, .slice A1_2 l1_2.length c1_2, .int .i64 a1_3, .slice A1_4 l1_4.length c1_4]) (t := 40) ?hr ?_; (case hd => rfl); (case hg => rfl); (case hr => first | (go_simp; done) | (go_simp; rfl)); intro gb2 hg W2 hbox hb; replace BK1 := bK BK1 hb; replace c_BK1 := blk_cell BK1.out; replace z_BK1 := blk_frozen BK1.out; replace HB := bH HB hb; clear hb; have BK2 := Aside0.mk hbox; have c_BK2 := blk_cell hbox; have z_BK2 := blk_frozen hbox; clear hg hbox))
  replace H := H.out
  by_cases c3 : a0_0 = a1_0
  · rw [if_pos c3] at H
    have c3_0 := decT c3; have c3_1 := eqT c3; have c3_2 := neT c3
    clear c3
    first | rw [c3_1] | rw [c3_2] | skip
    by_cases c4 : a0_1 = a1_1
    · rw [if_pos c4] at H
      have c4_0 := decT c4; have c4_1 := eqT c4; have c4_2 := neT c4
      clear c4
      first | rw [c4_1] | rw [c4_2] | skip
      replace H := Option.bind_eq_some_iff.mp H
      obtain ⟨t373, hm, H⟩ := H
      try dsimp only at H
      replace H := Aside0.mk H
      have hcall := impl_Includes.calls k _ _ _ _ _ _ _ W2 (Kd.C_below HR0_2.out HB.out) HC0_2.out (Kd.C_below HR1_2.out HB.out) HC1_2.out hm
      clear hm
      go_wp2_with fail
      refine hcall.mono ?_
      rintro e W5 ⟨rfl, hd⟩
      clear hcall
      have hb : Below W2.heap.size W2 W5 := hd.below; clear hd
      replace BK1 := bK BK1 hb; replace c_BK1 := blk_cell BK1.out; replace z_BK1 := blk_frozen BK1.out
      replace BK2 := bK BK2 hb; replace c_BK2 := blk_cell BK2.out; replace z_BK2 := blk_frozen BK2.out
      replace HB := bH HB hb; clear hb
      replace H := H.out
      by_cases c6 : t373 = true
      · rw [if_pos c6] at H
        subst c6
        replace H := Option.bind_eq_some_iff.mp H
        obtain ⟨t374, hm, H⟩ := H
        try dsimp only at H
        replace H := Aside0.mk H
        have hcall := impl_EqualPolicies.calls k _ _ _ _ _ _ _ _ _ W5 (Kd.C_below HR0_4.out HB.out) HC0_4.out (Kd.C_below HR1_4.out HB.out) HC1_4.out hm
        clear hm
        go_wp2_with fail
        refine hcall.mono ?_
        rintro e W7 ⟨rfl, hb⟩
        clear hcall
        replace BK1 := bK BK1 hb; replace c_BK1 := blk_cell BK1.out; replace z_BK1 := blk_frozen BK1.out
        replace BK2 := bK BK2 hb; replace c_BK2 := blk_cell BK2.out; replace z_BK2 := blk_frozen BK2.out
        replace HB := bH HB hb; clear hb
        replace H := H.out
        obtain rfl := Option.some.inj H
        clear H
        go_wp2
        go_ret
        exact ⟨rfl, HB.out⟩
      · rw [if_neg c6] at H
        replace c6 := (Bool.not_eq_true _).mp c6
        subst c6
        obtain rfl := Option.some.inj H
        clear H
        go_wp2
        go_ret
        exact ⟨rfl, HB.out⟩
    · rw [if_neg c4] at H
      have c4_0 := decF c4; have c4_1 := eqF c4; have c4_2 := neF c4
      clear c4
      first | rw [c4_1] | rw [c4_2] | skip
      obtain rfl := Option.some.inj H
      clear H
      go_wp2
      go_ret
      exact ⟨rfl, HB.out⟩
  · rw [if_neg c3] at H
    have c3_0 := decF c3; have c3_1 := eqF c3; have c3_2 := neF c3
    clear c3
    first | rw [c3_1] | rw [c3_2] | skip
    obtain rfl := Option.some.inj H
    clear H
    go_wp2
    go_ret
    exact ⟨rfl, HB.out⟩

/-! ### impl_Fact: function 123 -/
def impl_Fact.l0 : Nat → List (S132) → List (S132) → Int → Int → Option (Bool)
  | 0, _, _, _, _ => none
  | k + 1, x0, x1, x12, x13 => if x13 < x12 then (if 0 ≤ x13 then (if x13 < (x0.length : Int) then (if x13 < (x1.length : Int) then (if (!(((rd_T132 x0 x13).f0) == ((rd_T132 x1 x13).f0)) || (!(((rd_T132 x0 x13).f1) == ((rd_T132 x1 x13).f1)) || (!(((rd_T132 x0 x13).f2) == ((rd_T132 x1 x13).f2)) || (!(((rd_T132 x0 x13).f3) == ((rd_T132 x1 x13).f3)) || (!(((rd_T132 x0 x13).f4) == ((rd_T132 x1 x13).f4)) || (!(((rd_T132 x0 x13).f5) == ((rd_T132 x1 x13).f5)))))))) = true then (some false) else (impl_Fact.l0 k x0 x1 x12 (wrap64 (x13 + 1)))) else (none)) else (none)) else (none)) else (some true)
def impl_Fact.f (k : Nat) (l0 : List (S132)) (l1 : List (S132)) : Option (Bool) := if (l0.length : Int) = (l1.length : Int) then (impl_Fact.l0 k l0 l1 (l0.length : Int) 0) else (some false)
set_option maxHeartbeats 8000000 in
set_option maxRecDepth 100000 in
theorem impl_Fact.calls (k : Nat) (A0 : Option Addr) (c0 : Nat) (l0 : List (S132)) (A1 : Option Addr) (c1 : Nat) (l1 : List (S132)) (r : Bool) (w : World) (hr0 : Kd.C k132 w A0 l0.length l0) (hc0 : l0.length ≤ c0) (hr1 : Kd.C k132 w A1 l1.length l1) (hc1 : l1.length ≤ c1) (h : impl_Fact.f k l0 l1 = some r) :
    Calls Try.prog 123 #[.slice A0 l0.length c0, .slice A1 l1.length c1] w fun e w' => e = .returned (.bool r) ∧ Drawn0 w w' := by
  have hu132 := Try.underlying132
  have HR0 := Aside0.mk hr0
  have HC0 := Aside0.mk hc0
  clear hr0 hc0
  have HR1 := Aside0.mk hr1
  have HC1 := Aside0.mk hc1
  clear hr1 hc1
  have H : (if (l0.length : Int) = (l1.length : Int) then (impl_Fact.l0 k l0 l1 (l0.length : Int) 0) else (some false)) = some r := h
  clear h
  by_cases c3 : (l0.length : Int) = (l1.length : Int)
  · rw [if_pos c3] at H
    have c3b0 : ((l0.length : Int) == (l1.length : Int)) = true := beq_iff_eq.mpr c3
    have c3b1 : ((l0.length : Int) != (l1.length : Int)) = false := bne_eq_false_iff_eq.mpr c3
    have c3b2 : (l0.length == l1.length) = true := by first | simpa using c3 | (simp at c3 ⊢; omega)
    clear c3
    have H' := Aside0.mk H
    clear H
    go_enter Try.func123, Try.ntmps123
    go_wp2
    repeat (go_quiet (fail); try go_wp2)
    go_loopg [13] k (fun kq v13 w' => ∃ (x13_1 : Int), v13 = .int .i64 x13_1 ∧ Aside0 (impl_Fact.l0 kq l0 l1 (l0.length : Int) x13_1 = some r) ∧ Aside0 (kq ≤ k) ∧ Drawn0 w w')
    case atStart => exact ⟨(0), (by first | rfl | (simp; done) | (simp [*]; done)), H', ⟨Nat.le_refl _⟩, by repeat (first | exact Drawn0.refl _ | apply Drawn0.step)⟩
    case round =>
      clear H'
      try clear c1
      try clear p2
      try clear c3
      try clear c3b0
      try clear c3b1
      try clear c3b2
      obtain ⟨x13_1, rfl, HA, HK1, ⟨m1, rfl⟩⟩ := hrel
      cases gk with
      | zero => exact absurd HA.out (by simp [impl_Fact.l0])
      | succ k1 =>
        have H := HA.out
        clear HA
        simp only [impl_Fact.l0] at H
        by_cases c4 : x13_1 < (l0.length : Int)
        · rw [if_pos c4] at H
          have c4b0 : decide (x13_1 < (l0.length : Int)) = true := decide_eq_true c4
          clear c4
          by_cases c5 : 0 ≤ x13_1
          · rw [if_pos c5] at H
            have c5b0 : decide (0 ≤ x13_1) = true := decide_eq_true c5
            clear c5
            by_cases c6 : x13_1 < (l0.length : Int)
            · rw [if_pos c6] at H
              have c6b0 : decide (x13_1 < (l0.length : Int)) = true := decide_eq_true c6
              clear c6
              by_cases c7 : x13_1 < (l1.length : Int)
              · rw [if_pos c7] at H
                have c7b0 : decide (x13_1 < (l1.length : Int)) = true := decide_eq_true c7
                clear c7
                by_cases c8 : (!(((rd_T132 l0 x13_1).f0) == ((rd_T132 l1 x13_1).f0)) || (!(((rd_T132 l0 x13_1).f1) == ((rd_T132 l1 x13_1).f1)) || (!(((rd_T132 l0 x13_1).f2) == ((rd_T132 l1 x13_1).f2)) || (!(((rd_T132 l0 x13_1).f3) == ((rd_T132 l1 x13_1).f3)) || (!(((rd_T132 l0 x13_1).f4) == ((rd_T132 l1 x13_1).f4)) || (!(((rd_T132 l0 x13_1).f5) == ((rd_T132 l1 x13_1).f5)))))))) = true
                · rw [if_pos c8] at H
                  have c8b0 : (!(((rd_T132 l0 x13_1).f0) == ((rd_T132 l1 x13_1).f0)) || (!(((rd_T132 l0 x13_1).f1) == ((rd_T132 l1 x13_1).f1)) || (!(((rd_T132 l0 x13_1).f2) == ((rd_T132 l1 x13_1).f2)) || (!(((rd_T132 l0 x13_1).f3) == ((rd_T132 l1 x13_1).f3)) || (!(((rd_T132 l0 x13_1).f4) == ((rd_T132 l1 x13_1).f4)) || (!(((rd_T132 l0 x13_1).f5) == ((rd_T132 l1 x13_1).f5)))))))) = true := c8
                  clear c8
                  obtain rfl := Option.some.inj H
                  have p375 : 0 ≤ (x13_1 : Int) := of_decide_eq_true (by first | (with_reducible assumption) | assumption)
                  have q375 : x13_1 < (l0.length : Int) := of_decide_eq_true (by first | (with_reducible assumption) | assumption)
                  obtain ⟨ad375, e375, hx375_0, hx375_1, hx375_2, hx375_3, hx375_4, hx375_5⟩ := at_T132 HR0.out x13_1 p375 q375
                  cases e375
                  replace p375 := eq_true p375
                  replace q375 := eq_true q375
                  have p376 : 0 ≤ (x13_1 : Int) := of_decide_eq_true (by first | (with_reducible assumption) | assumption)
                  have q376 : x13_1 < (l1.length : Int) := of_decide_eq_true (by first | (with_reducible assumption) | assumption)
                  obtain ⟨ad376, e376, hx376_0, hx376_1, hx376_2, hx376_3, hx376_4, hx376_5⟩ := at_T132 HR1.out x13_1 p376 q376
                  cases e376
                  replace p376 := eq_true p376
                  replace q376 := eq_true q376
                  go_wp2
                  repeat (go_quiet (fail); try go_wp2)
                  go_ret
                  exact ⟨by first | rfl | (simp; done) | (simp [*]; done), by repeat (first | exact Drawn0.refl _ | apply Drawn0.step)⟩
                · rw [if_neg c8] at H
                  have c8b0 : (!(((rd_T132 l0 x13_1).f0) == ((rd_T132 l1 x13_1).f0)) || (!(((rd_T132 l0 x13_1).f1) == ((rd_T132 l1 x13_1).f1)) || (!(((rd_T132 l0 x13_1).f2) == ((rd_T132 l1 x13_1).f2)) || (!(((rd_T132 l0 x13_1).f3) == ((rd_T132 l1 x13_1).f3)) || (!(((rd_T132 l0 x13_1).f4) == ((rd_T132 l1 x13_1).f4)) || (!(((rd_T132 l0 x13_1).f5) == ((rd_T132 l1 x13_1).f5)))))))) = false := by simpa using c8
                  clear c8
                  have H' := Aside0.mk H
                  clear H
                  have p375 : 0 ≤ (x13_1 : Int) := of_decide_eq_true (by first | (with_reducible assumption) | assumption)
                  have q375 : x13_1 < (l0.length : Int) := of_decide_eq_true (by first | (with_reducible assumption) | assumption)
                  obtain ⟨ad375, e375, hx375_0, hx375_1, hx375_2, hx375_3, hx375_4, hx375_5⟩ := at_T132 HR0.out x13_1 p375 q375
                  cases e375
                  replace p375 := eq_true p375
                  replace q375 := eq_true q375
                  have p376 : 0 ≤ (x13_1 : Int) := of_decide_eq_true (by first | (with_reducible assumption) | assumption)
                  have q376 : x13_1 < (l1.length : Int) := of_decide_eq_true (by first | (with_reducible assumption) | assumption)
                  obtain ⟨ad376, e376, hx376_0, hx376_1, hx376_2, hx376_3, hx376_4, hx376_5⟩ := at_T132 HR1.out x13_1 p376 q376
                  cases e376
                  replace p376 := eq_true p376
                  replace q376 := eq_true q376
                  go_wp2
                  repeat (go_quiet (fail); try go_wp2)
                  go_roundg k1
                  case measure => have := HK1.out; omega
                  case rel => exact ⟨(wrap64 (x13_1 + 1)), (by first | rfl | (simp; done) | (simp [*]; done)), H', ⟨by have := HK1.out; omega⟩, by repeat (first | exact Drawn0.refl _ | apply Drawn0.step)⟩
              · rw [if_neg c7] at H
                exact absurd H (by simp)
            · rw [if_neg c6] at H
              exact absurd H (by simp)
          · rw [if_neg c5] at H
            exact absurd H (by simp)
        · rw [if_neg c4] at H
          have c4b0 : decide (x13_1 < (l0.length : Int)) = false := decide_eq_false c4
          clear c4
          obtain rfl := Option.some.inj H
          go_wp2
          repeat (go_quiet (fail); try go_wp2)
          go_ret
          exact ⟨by first | rfl | (simp; done) | (simp [*]; done), by repeat (first | exact Drawn0.refl _ | apply Drawn0.step)⟩
  · rw [if_neg c3] at H
    have c3b0 : ((l0.length : Int) == (l1.length : Int)) = false := beq_eq_false_iff_ne.mpr c3
    have c3b1 : ((l0.length : Int) != (l1.length : Int)) = true := bne_iff_ne.mpr c3
    have c3b2 : (l0.length == l1.length) = false := by first | simpa using c3 | (simp at c3 ⊢; omega)
    obtain rfl := Option.some.inj H
    go_enter Try.func123, Try.ntmps123
    go_wp2
    repeat (go_quiet (fail); try go_wp2)
    go_ret
    exact ⟨by first | rfl | (simp; done) | (simp [*]; done), by repeat (first | exact Drawn0.refl _ | apply Drawn0.step)⟩

/-! ### impl_EqualStores: function 67 -/
def impl_EqualStores.f (k : Nat) (l0 : List (S132)) (l1 : List (S132)) : Option (Bool) := (impl_Fact.f k l0 l1).bind fun t377 => (some t377)
open Go.Proofs.YtineejdlpcgnkaaM in
set_option maxHeartbeats 8000000 in
set_option maxRecDepth 100000 in
theorem impl_EqualStores.calls (k : Nat) (A0 : Option Addr) (c0 : Nat) (l0 : List (S132)) (A1 : Option Addr) (c1 : Nat) (l1 : List (S132)) (r : Bool) (w : World) (hr0 : Kd.C k132 w A0 l0.length l0) (hc0 : l0.length ≤ c0) (hr1 : Kd.C k132 w A1 l1.length l1) (hc1 : l1.length ≤ c1) (h : impl_EqualStores.f k l0 l1 = some r) :
    Calls Try.prog 67 #[.slice A0 l0.length c0, .slice A1 l1.length c1] w fun e w' => e = .returned (.bool r) ∧ Below w.heap.size w w' := by
  have HR0 := Aside0.mk hr0
  have HC0 := Aside0.mk hc0
  clear hr0 hc0
  have HR1 := Aside0.mk hr1
  have HC1 := Aside0.mk hc1
  clear hr1 hc1
  have HB := Aside0.mk (Below.refl w.heap.size w)
  have H := h
  clear h
  unfold impl_EqualStores.f at H
  go_enter Try.func67, Try.ntmps67
  replace H := Option.bind_eq_some_iff.mp H
  obtain ⟨t377, hm, H⟩ := H
  try dsimp only at H
  replace H := Aside0.mk H
  have hcall := impl_Fact.calls k _ _ _ _ _ _ _ w (Kd.C_below HR0.out HB.out) HC0.out (Kd.C_below HR1.out HB.out) HC1.out hm
  clear hm
  go_wp2_with fail
  refine hcall.mono ?_
  rintro e W1 ⟨rfl, hd⟩
  clear hcall
  have hb : Below w.heap.size w W1 := hd.below; clear hd
  replace HB := bH HB hb; clear hb
  replace H := H.out
  obtain rfl := Option.some.inj H
  clear H
  go_wp2
  go_ret
  exact ⟨rfl, HB.out⟩

/-! ### impl_Revoked: function 68 -/
def impl_Revoked.l0 : Nat → List (S99) → List (S99) → Int → Int → Option (Bool)
  | 0, _, _, _, _ => none
  | k + 1, x0, x1, x12, x13 => if x13 < x12 then (if 0 ≤ x13 then (if x13 < (x0.length : Int) then (if x13 < (x1.length : Int) then (if (!(((rd_T99 x0 x13).f0) == ((rd_T99 x1 x13).f0)) || (!(((rd_T99 x0 x13).f1) == ((rd_T99 x1 x13).f1)))) = true then (some false) else (impl_Revoked.l0 k x0 x1 x12 (wrap64 (x13 + 1)))) else (none)) else (none)) else (none)) else (some true)
def impl_Revoked.f (k : Nat) (l0 : List (S99)) (l1 : List (S99)) : Option (Bool) := if (l0.length : Int) = (l1.length : Int) then (impl_Revoked.l0 k l0 l1 (l0.length : Int) 0) else (some false)
set_option maxHeartbeats 8000000 in
set_option maxRecDepth 100000 in
theorem impl_Revoked.calls (k : Nat) (A0 : Option Addr) (c0 : Nat) (l0 : List (S99)) (A1 : Option Addr) (c1 : Nat) (l1 : List (S99)) (r : Bool) (w : World) (hr0 : Kd.C k99 w A0 l0.length l0) (hc0 : l0.length ≤ c0) (hr1 : Kd.C k99 w A1 l1.length l1) (hc1 : l1.length ≤ c1) (h : impl_Revoked.f k l0 l1 = some r) :
    Calls Try.prog 68 #[.slice A0 l0.length c0, .slice A1 l1.length c1] w fun e w' => e = .returned (.bool r) ∧ Drawn0 w w' := by
  have hu99 := Try.underlying99
  have HR0 := Aside0.mk hr0
  have HC0 := Aside0.mk hc0
  clear hr0 hc0
  have HR1 := Aside0.mk hr1
  have HC1 := Aside0.mk hc1
  clear hr1 hc1
  have H : (if (l0.length : Int) = (l1.length : Int) then (impl_Revoked.l0 k l0 l1 (l0.length : Int) 0) else (some false)) = some r := h
  clear h
  by_cases c3 : (l0.length : Int) = (l1.length : Int)
  · rw [if_pos c3] at H
    have c3b0 : ((l0.length : Int) == (l1.length : Int)) = true := beq_iff_eq.mpr c3
    have c3b1 : ((l0.length : Int) != (l1.length : Int)) = false := bne_eq_false_iff_eq.mpr c3
    have c3b2 : (l0.length == l1.length) = true := by first | simpa using c3 | (simp at c3 ⊢; omega)
    clear c3
    have H' := Aside0.mk H
    clear H
    go_enter Try.func68, Try.ntmps68
    go_wp2
    repeat (go_quiet (fail); try go_wp2)
    go_loopg [13] k (fun kq v13 w' => ∃ (x13_1 : Int), v13 = .int .i64 x13_1 ∧ Aside0 (impl_Revoked.l0 kq l0 l1 (l0.length : Int) x13_1 = some r) ∧ Aside0 (kq ≤ k) ∧ Drawn0 w w')
    case atStart => exact ⟨(0), (by first | rfl | (simp; done) | (simp [*]; done)), H', ⟨Nat.le_refl _⟩, by repeat (first | exact Drawn0.refl _ | apply Drawn0.step)⟩
    case round =>
      clear H'
      try clear c1
      try clear p2
      try clear c3
      try clear c3b0
      try clear c3b1
      try clear c3b2
      obtain ⟨x13_1, rfl, HA, HK1, ⟨m1, rfl⟩⟩ := hrel
      cases gk with
      | zero => exact absurd HA.out (by simp [impl_Revoked.l0])
      | succ k1 =>
        have H := HA.out
        clear HA
        simp only [impl_Revoked.l0] at H
        by_cases c4 : x13_1 < (l0.length : Int)
        · rw [if_pos c4] at H
          have c4b0 : decide (x13_1 < (l0.length : Int)) = true := decide_eq_true c4
          clear c4
          by_cases c5 : 0 ≤ x13_1
          · rw [if_pos c5] at H
            have c5b0 : decide (0 ≤ x13_1) = true := decide_eq_true c5
            clear c5
            by_cases c6 : x13_1 < (l0.length : Int)
            · rw [if_pos c6] at H
              have c6b0 : decide (x13_1 < (l0.length : Int)) = true := decide_eq_true c6
              clear c6
              by_cases c7 : x13_1 < (l1.length : Int)
              · rw [if_pos c7] at H
                have c7b0 : decide (x13_1 < (l1.length : Int)) = true := decide_eq_true c7
                clear c7
                by_cases c8 : (!(((rd_T99 l0 x13_1).f0) == ((rd_T99 l1 x13_1).f0)) || (!(((rd_T99 l0 x13_1).f1) == ((rd_T99 l1 x13_1).f1)))) = true
                · rw [if_pos c8] at H
                  have c8b0 : (!(((rd_T99 l0 x13_1).f0) == ((rd_T99 l1 x13_1).f0)) || (!(((rd_T99 l0 x13_1).f1) == ((rd_T99 l1 x13_1).f1)))) = true := c8
                  clear c8
                  obtain rfl := Option.some.inj H
                  have p378 : 0 ≤ (x13_1 : Int) := of_decide_eq_true (by first | (with_reducible assumption) | assumption)
                  have q378 : x13_1 < (l0.length : Int) := of_decide_eq_true (by first | (with_reducible assumption) | assumption)
                  obtain ⟨ad378, e378, hx378_0, hx378_1⟩ := at_T99 HR0.out x13_1 p378 q378
                  cases e378
                  replace p378 := eq_true p378
                  replace q378 := eq_true q378
                  have p379 : 0 ≤ (x13_1 : Int) := of_decide_eq_true (by first | (with_reducible assumption) | assumption)
                  have q379 : x13_1 < (l1.length : Int) := of_decide_eq_true (by first | (with_reducible assumption) | assumption)
                  obtain ⟨ad379, e379, hx379_0, hx379_1⟩ := at_T99 HR1.out x13_1 p379 q379
                  cases e379
                  replace p379 := eq_true p379
                  replace q379 := eq_true q379
                  go_wp2
                  repeat (go_quiet (fail); try go_wp2)
                  go_ret
                  exact ⟨by first | rfl | (simp; done) | (simp [*]; done), by repeat (first | exact Drawn0.refl _ | apply Drawn0.step)⟩
                · rw [if_neg c8] at H
                  have c8b0 : (!(((rd_T99 l0 x13_1).f0) == ((rd_T99 l1 x13_1).f0)) || (!(((rd_T99 l0 x13_1).f1) == ((rd_T99 l1 x13_1).f1)))) = false := by simpa using c8
                  clear c8
                  have H' := Aside0.mk H
                  clear H
                  have p378 : 0 ≤ (x13_1 : Int) := of_decide_eq_true (by first | (with_reducible assumption) | assumption)
                  have q378 : x13_1 < (l0.length : Int) := of_decide_eq_true (by first | (with_reducible assumption) | assumption)
                  obtain ⟨ad378, e378, hx378_0, hx378_1⟩ := at_T99 HR0.out x13_1 p378 q378
                  cases e378
                  replace p378 := eq_true p378
                  replace q378 := eq_true q378
                  have p379 : 0 ≤ (x13_1 : Int) := of_decide_eq_true (by first | (with_reducible assumption) | assumption)
                  have q379 : x13_1 < (l1.length : Int) := of_decide_eq_true (by first | (with_reducible assumption) | assumption)
                  obtain ⟨ad379, e379, hx379_0, hx379_1⟩ := at_T99 HR1.out x13_1 p379 q379
                  cases e379
                  replace p379 := eq_true p379
                  replace q379 := eq_true q379
                  go_wp2
                  repeat (go_quiet (fail); try go_wp2)
                  go_roundg k1
                  case measure => have := HK1.out; omega
                  case rel => exact ⟨(wrap64 (x13_1 + 1)), (by first | rfl | (simp; done) | (simp [*]; done)), H', ⟨by have := HK1.out; omega⟩, by repeat (first | exact Drawn0.refl _ | apply Drawn0.step)⟩
              · rw [if_neg c7] at H
                exact absurd H (by simp)
            · rw [if_neg c6] at H
              exact absurd H (by simp)
          · rw [if_neg c5] at H
            exact absurd H (by simp)
        · rw [if_neg c4] at H
          have c4b0 : decide (x13_1 < (l0.length : Int)) = false := decide_eq_false c4
          clear c4
          obtain rfl := Option.some.inj H
          go_wp2
          repeat (go_quiet (fail); try go_wp2)
          go_ret
          exact ⟨by first | rfl | (simp; done) | (simp [*]; done), by repeat (first | exact Drawn0.refl _ | apply Drawn0.step)⟩
  · rw [if_neg c3] at H
    have c3b0 : ((l0.length : Int) == (l1.length : Int)) = false := beq_eq_false_iff_ne.mpr c3
    have c3b1 : ((l0.length : Int) != (l1.length : Int)) = true := bne_iff_ne.mpr c3
    have c3b2 : (l0.length == l1.length) = false := by first | simpa using c3 | (simp at c3 ⊢; omega)
    obtain rfl := Option.some.inj H
    go_enter Try.func68, Try.ntmps68
    go_wp2
    repeat (go_quiet (fail); try go_wp2)
    go_ret
    exact ⟨by first | rfl | (simp; done) | (simp [*]; done), by repeat (first | exact Drawn0.refl _ | apply Drawn0.step)⟩

end Go.Proofs.Ytineejdlpcgnkaa.QFnExactEqualCenters
