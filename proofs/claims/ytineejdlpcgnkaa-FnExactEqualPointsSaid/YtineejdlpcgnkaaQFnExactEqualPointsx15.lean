/- The machine side of FnExactEqualPoints: what each function that it reaches computes, and that the machine's call gives just that. -/
import Derived.Test.YtineejdlpcgnkaaQFnExactEqualPointsx0
import Derived.Test.YtineejdlpcgnkaaQFnExactEqualPointsx6
import Derived.Test.YtineejdlpcgnkaaQFnExactEqualPointsx7
import Derived.Test.YtineejdlpcgnkaaQFnExactEqualPointsx11
import Derived.Test.YtineejdlpcgnkaaQFnExactEqualPointsx13
import Derived.Test.YtineejdlpcgnkaaQFnExactEqualPointsx14
namespace Go.Proofs.Ytineejdlpcgnkaa.QFnExactEqualPoints
open Go.RowKit Go.Proofs.YtineejdlpcgnkaaW.PrintWords Go.Proofs.YtineejdlpcgnkaaW.PrintLast Go.Proofs.YtineejdlpcgnkaaW.PrintMore
attribute [local go_sem] max2_int min2_int max_two min_two max_three min_three max_four min_four   -- for this text's walks alone
set_option linter.unusedVariables false
set_option linter.unusedSimpArgs false

/-! ### laws_FnExactEqualPoints: function 6 -/
def laws_FnExactEqualPoints.f (k : Nat) (a0_0 : Int) (a0_1 : Int) (a0_2 : Int) (l0_3 : List (S164)) (a0_4 : Int) (l0_5 : List (S185)) (l0_6 : List (S134)) (l0_7 : List (S136)) (a0_8 : Int) (l0_9 : List (S140)) (a1_0 : Int) (a1_1 : Int) (a1_2 : Int) (l1_3 : List (S164)) (a1_4 : Int) (l1_5 : List (S185)) (l1_6 : List (S134)) (l1_7 : List (S136)) (a1_8 : Int) (l1_9 : List (S140)) : Option (Bool) := (laws_szPoint.f k a0_0 a0_1 a0_2 l0_3 a0_4 l0_5 l0_6 l0_7 a0_8 l0_9 1048576).bind fun t348 => (if t348 < 0 then (some true) else ((laws_szPoint.f k a1_0 a1_1 a1_2 l1_3 a1_4 l1_5 l1_6 l1_7 a1_8 l1_9 t348).bind fun t349 => (if t349 < 0 then (some true) else ((laws_toPoint.f k a0_0 a0_1 a0_2 l0_3 a0_4 l0_5 l0_6 l0_7 a0_8 l0_9).bind fun bt350 => ((laws_toPoint.f k a1_0 a1_1 a1_2 l1_3 a1_4 l1_5 l1_6 l1_7 a1_8 l1_9).bind fun bt370 => ((spec_EqualPoints.f k bt350.1 bt350.2.1 bt350.2.2.1 bt350.2.2.2.1 bt350.2.2.2.2.1 bt350.2.2.2.2.2.1 bt350.2.2.2.2.2.2.1 bt350.2.2.2.2.2.2.2.1 bt350.2.2.2.2.2.2.2.2.1 bt350.2.2.2.2.2.2.2.2.2 bt370.1 bt370.2.1 bt370.2.2.1 bt370.2.2.2.1 bt370.2.2.2.2.1 bt370.2.2.2.2.2.1 bt370.2.2.2.2.2.2.1 bt370.2.2.2.2.2.2.2.1 bt370.2.2.2.2.2.2.2.2.1 bt370.2.2.2.2.2.2.2.2.2).bind fun t390 => ((laws_toPoint.f k a0_0 a0_1 a0_2 l0_3 a0_4 l0_5 l0_6 l0_7 a0_8 l0_9).bind fun bt391 => ((laws_toPoint.f k a1_0 a1_1 a1_2 l1_3 a1_4 l1_5 l1_6 l1_7 a1_8 l1_9).bind fun bt412 => ((impl_EqualPoints.f k bt391.1 bt391.2.1 bt391.2.2.1 bt391.2.2.2.1 bt391.2.2.2.2.1 bt391.2.2.2.2.2.1 bt391.2.2.2.2.2.2.1 bt391.2.2.2.2.2.2.2.1 bt391.2.2.2.2.2.2.2.2.1 bt391.2.2.2.2.2.2.2.2.2 bt412.1 bt412.2.1 bt412.2.2.1 bt412.2.2.2.1 bt412.2.2.2.2.1 bt412.2.2.2.2.2.1 bt412.2.2.2.2.2.2.1 bt412.2.2.2.2.2.2.2.1 bt412.2.2.2.2.2.2.2.2.1 bt412.2.2.2.2.2.2.2.2.2).bind fun t433 => (if (t433 != t390) = true then (some false) else ((laws_toPoint.f k a0_0 a0_1 a0_2 l0_3 a0_4 l0_5 l0_6 l0_7 a0_8 l0_9).bind fun bt434 => ((laws_eqPoint.f k bt391.1 bt391.2.1 bt391.2.2.1 bt391.2.2.2.1 bt391.2.2.2.2.1 bt391.2.2.2.2.2.1 bt391.2.2.2.2.2.2.1 bt391.2.2.2.2.2.2.2.1 bt391.2.2.2.2.2.2.2.2.1 bt391.2.2.2.2.2.2.2.2.2 bt434.1 bt434.2.1 bt434.2.2.1 bt434.2.2.2.1 bt434.2.2.2.2.1 bt434.2.2.2.2.2.1 bt434.2.2.2.2.2.2.1 bt434.2.2.2.2.2.2.2.1 bt434.2.2.2.2.2.2.2.2.1 bt434.2.2.2.2.2.2.2.2.2).bind fun t454 => (if t454 = true then ((laws_toPoint.f k a1_0 a1_1 a1_2 l1_3 a1_4 l1_5 l1_6 l1_7 a1_8 l1_9).bind fun bt455 => ((laws_eqPoint.f k bt412.1 bt412.2.1 bt412.2.2.1 bt412.2.2.2.1 bt412.2.2.2.2.1 bt412.2.2.2.2.2.1 bt412.2.2.2.2.2.2.1 bt412.2.2.2.2.2.2.2.1 bt412.2.2.2.2.2.2.2.2.1 bt412.2.2.2.2.2.2.2.2.2 bt455.1 bt455.2.1 bt455.2.2.1 bt455.2.2.2.1 bt455.2.2.2.2.1 bt455.2.2.2.2.2.1 bt455.2.2.2.2.2.2.1 bt455.2.2.2.2.2.2.2.1 bt455.2.2.2.2.2.2.2.2.1 bt455.2.2.2.2.2.2.2.2.2).bind fun t475 => (if t475 = true then (some true) else (some false)))) else (some false))))))))))))))
set_option maxHeartbeats 8000000 in
set_option maxRecDepth 100000 in
theorem laws_FnExactEqualPoints.calls (k : Nat) (a0_0 : Int) (a0_1 : Int) (a0_2 : Int) (A0_3 : Option Addr) (c0_3 : Nat) (l0_3 : List (S164)) (a0_4 : Int) (A0_5 : Option Addr) (c0_5 : Nat) (l0_5 : List (S185)) (A0_6 : Option Addr) (c0_6 : Nat) (l0_6 : List (S134)) (A0_7 : Option Addr) (c0_7 : Nat) (l0_7 : List (S136)) (a0_8 : Int) (A0_9 : Option Addr) (c0_9 : Nat) (l0_9 : List (S140)) (a1_0 : Int) (a1_1 : Int) (a1_2 : Int) (A1_3 : Option Addr) (c1_3 : Nat) (l1_3 : List (S164)) (a1_4 : Int) (A1_5 : Option Addr) (c1_5 : Nat) (l1_5 : List (S185)) (A1_6 : Option Addr) (c1_6 : Nat) (l1_6 : List (S134)) (A1_7 : Option Addr) (c1_7 : Nat) (l1_7 : List (S136)) (a1_8 : Int) (A1_9 : Option Addr) (c1_9 : Nat) (l1_9 : List (S140)) (r : Bool) (w : World) (hr0_3 : Kd.C k164 w A0_3 l0_3.length l0_3) (hc0_3 : l0_3.length ≤ c0_3) (hr0_5 : Kd.C k185 w A0_5 l0_5.length l0_5) (hc0_5 : l0_5.length ≤ c0_5) (hr0_6 : Kd.C k134 w A0_6 l0_6.length l0_6) (hc0_6 : l0_6.length ≤ c0_6) (hr0_7 : Kd.C k136 w A0_7 l0_7.length l0_7) (hc0_7 : l0_7.length ≤ c0_7) (hr0_9 : Kd.C k140 w A0_9 l0_9.length l0_9) (hc0_9 : l0_9.length ≤ c0_9) (hr1_3 : Kd.C k164 w A1_3 l1_3.length l1_3) (hc1_3 : l1_3.length ≤ c1_3) (hr1_5 : Kd.C k185 w A1_5 l1_5.length l1_5) (hc1_5 : l1_5.length ≤ c1_5) (hr1_6 : Kd.C k134 w A1_6 l1_6.length l1_6) (hc1_6 : l1_6.length ≤ c1_6) (hr1_7 : Kd.C k136 w A1_7 l1_7.length l1_7) (hc1_7 : l1_7.length ≤ c1_7) (hr1_9 : Kd.C k140 w A1_9 l1_9.length l1_9) (hc1_9 : l1_9.length ≤ c1_9) (h : laws_FnExactEqualPoints.f k a0_0 a0_1 a0_2 l0_3 a0_4 l0_5 l0_6 l0_7 a0_8 l0_9 a1_0 a1_1 a1_2 l1_3 a1_4 l1_5 l1_6 l1_7 a1_8 l1_9 = some r) :
    Calls Try.prog 6 #[.agg #[.int .i64 a0_0, .int .i64 a0_1, .int .i64 a0_2, .slice A0_3 l0_3.length c0_3, .int .i64 a0_4, .slice A0_5 l0_5.length c0_5, .slice A0_6 l0_6.length c0_6, .slice A0_7 l0_7.length c0_7, .int .i64 a0_8, .slice A0_9 l0_9.length c0_9], .agg #[.int .i64 a1_0, .int .i64 a1_1, .int .i64 a1_2, .slice A1_3 l1_3.length c1_3, .int .i64 a1_4, .slice A1_5 l1_5.length c1_5, .slice A1_6 l1_6.length c1_6, .slice A1_7 l1_7.length c1_7, .int .i64 a1_8, .slice A1_9 l1_9.length c1_9]] w fun e w' => e = .returned (.bool r) ∧ Below w.heap.size w w' := by
  have HR0_3 := Aside0.mk hr0_3
  have HC0_3 := Aside0.mk hc0_3
  clear hr0_3 hc0_3
  have HR0_5 := Aside0.mk hr0_5
  have HC0_5 := Aside0.mk hc0_5
  clear hr0_5 hc0_5
  have HR0_6 := Aside0.mk hr0_6
  have HC0_6 := Aside0.mk hc0_6
  clear hr0_6 hc0_6
  have HR0_7 := Aside0.mk hr0_7
  have HC0_7 := Aside0.mk hc0_7
  clear hr0_7 hc0_7
  have HR0_9 := Aside0.mk hr0_9
  have HC0_9 := Aside0.mk hc0_9
  clear hr0_9 hc0_9
  have HR1_3 := Aside0.mk hr1_3
  have HC1_3 := Aside0.mk hc1_3
  clear hr1_3 hc1_3
  have HR1_5 := Aside0.mk hr1_5
  have HC1_5 := Aside0.mk hc1_5
  clear hr1_5 hc1_5
  have HR1_6 := Aside0.mk hr1_6
  have HC1_6 := Aside0.mk hc1_6
  clear hr1_6 hc1_6
  have HR1_7 := Aside0.mk hr1_7
  have HC1_7 := Aside0.mk hc1_7
  clear hr1_7 hc1_7
  have HR1_9 := Aside0.mk hr1_9
  have HC1_9 := Aside0.mk hc1_9
  clear hr1_9 hc1_9
  have HB := Aside0.mk (Below.refl w.heap.size w)
  have H := h
  clear h
  unfold laws_FnExactEqualPoints.f at H
  have hu32 := Try.underlying32
  have hu45 := Try.underlying45
  go_enter Try.func6, Try.ntmps6
  have H'' := Aside0.mk H
  clear H
  go_wp2_with (first | ((with_reducible refine gate_dst (N := 2) rfl ?_); refine box_event ?hg (N := 2) ?hd (cs := #[.int .i64 a0_0, .int .i64 a0_1, .int .i64 a0_2, .slice A0_3 l0_3.length c0_3, .int .i64 a0_4, .slice A0_5 l0_5.length c0_5, .slice A0_6 l0_6.length c0_6, .slice A0_7 l0_7.length c0_7, .int .i64 a0_8, .slice A0_9 l0_9.length c0_9]) (t := 32) ?hr ?_; (case hd => rfl); (case hg => rfl); (case hr => first | (go_simp; done) | (go_simp; rfl)); intro gb1 hg W1 hbox hb; have Z1 := Aside0.mk hb.size; have E1 := Aside0.mk (And.intro hg (blk_lt hbox)); have BK1 := Aside0.mk hbox; have c_BK1 := blk_cell hbox; have z_BK1 := blk_frozen hbox; have hB_ := below_step HB.out hb; clear HB hb hbox hg; have HB := Aside0.mk hB_; clear hB_) | ((with_reducible refine gate_dst (N := 3) rfl ?_); refine box_event ?hg (N := 3) ?hd (cs := #[.int .i64 a1_0, .int .i64 a1_1, .int .i64 a1_2, .slice A1_3 l1_3.length c1_3, .int .i64 a1_4, .slice A1_5 l1_5.length c1_5, .slice A1_6 l1_6.length c1_6, .slice A1_7 l1_7.length c1_7, .int .i64 a1_8, .slice A1_9 l1_9.length c1_9]) (t := 32) ?hr ?_; (case hd => rfl); (case hg => rfl); (case hr => first | (go_simp; done) | (go_simp; rfl)); intro gb2 hg W2 hbox hb; have Z2 := Aside0.mk hb.size; have E2 := Aside0.mk (And.intro hg (blk_lt hbox)); have h_ := blk_below BK1.out hb; clear BK1 c_BK1 z_BK1; have BK1 := Aside0.mk h_; have c_BK1 := blk_cell h_; have z_BK1 := blk_frozen h_; clear h_; have BK2 := Aside0.mk hbox; have c_BK2 := blk_cell hbox; have z_BK2 := blk_frozen hbox; have hB_ := below_step HB.out hb; clear HB hb hbox hg; have HB := Aside0.mk hB_; clear hB_))
  have H := H''.out
  clear H''
  replace H := Option.bind_eq_some_iff.mp H
  obtain ⟨t348, hm, H⟩ := H
  try dsimp only at H
  have H' := Aside0.mk H
  clear H
  have hcall := laws_szPoint.calls k a0_0 a0_1 a0_2 _ _ l0_3 a0_4 _ _ l0_5 _ _ l0_6 _ _ l0_7 a0_8 _ _ l0_9 1048576 t348 W2 (Kd.C_below HR0_3.out HB.out) HC0_3.out (Kd.C_below HR0_5.out HB.out) HC0_5.out (Kd.C_below HR0_6.out HB.out) HC0_6.out (Kd.C_below HR0_7.out HB.out) HC0_7.out (Kd.C_below HR0_9.out HB.out) HC0_9.out hm
  clear hm
  try go_wp2_with fail
  refine hcall.mono ?_
  rintro e W3 ⟨rfl, hb⟩
  clear hcall
  have Z3 := Aside0.mk hb.size
  have h_ := blk_below BK1.out hb
  clear BK1 c_BK1 z_BK1
  have BK1 := Aside0.mk h_
  have c_BK1 := blk_cell h_
  have z_BK1 := blk_frozen h_
  clear h_
  have h_ := blk_below BK2.out hb
  clear BK2 c_BK2 z_BK2
  have BK2 := Aside0.mk h_
  have c_BK2 := blk_cell h_
  have z_BK2 := blk_frozen h_
  clear h_
  have hB_ := below_step HB.out hb
  clear HB hb
  have HB := Aside0.mk hB_
  clear hB_
  have H := H'.out
  clear H'
  by_cases c4 : t348 < 0
  · rw [if_pos c4] at H
    have c4_0 : decide (t348 < 0) = true := decide_eq_true c4
    clear c4
    obtain rfl := Option.some.inj H
    clear H
    go_wp2
    go_ret
    exact ⟨rfl, HB.out⟩
  · rw [if_neg c4] at H
    have c4_0 : decide (t348 < 0) = false := decide_eq_false c4
    clear c4
    replace H := Option.bind_eq_some_iff.mp H
    obtain ⟨t349, hm, H⟩ := H
    try dsimp only at H
    have H' := Aside0.mk H
    clear H
    have hcall := laws_szPoint.calls k a1_0 a1_1 a1_2 _ _ l1_3 a1_4 _ _ l1_5 _ _ l1_6 _ _ l1_7 a1_8 _ _ l1_9 t348 t349 W3 (Kd.C_below HR1_3.out HB.out) HC1_3.out (Kd.C_below HR1_5.out HB.out) HC1_5.out (Kd.C_below HR1_6.out HB.out) HC1_6.out (Kd.C_below HR1_7.out HB.out) HC1_7.out (Kd.C_below HR1_9.out HB.out) HC1_9.out hm
    clear hm
    go_wp2_with fail
    refine hcall.mono ?_
    rintro e W5 ⟨rfl, hb⟩
    clear hcall
    have Z5 := Aside0.mk hb.size
    have h_ := blk_below BK1.out hb
    clear BK1 c_BK1 z_BK1
    have BK1 := Aside0.mk h_
    have c_BK1 := blk_cell h_
    have z_BK1 := blk_frozen h_
    clear h_
    have h_ := blk_below BK2.out hb
    clear BK2 c_BK2 z_BK2
    have BK2 := Aside0.mk h_
    have c_BK2 := blk_cell h_
    have z_BK2 := blk_frozen h_
    clear h_
    have hB_ := below_step HB.out hb
    clear HB hb
    have HB := Aside0.mk hB_
    clear hB_
    have H := H'.out
    clear H'
    by_cases c6 : t349 < 0
    · rw [if_pos c6] at H
      have c6_0 : decide (t349 < 0) = true := decide_eq_true c6
      clear c6
      obtain rfl := Option.some.inj H
      clear H
      go_wp2
      go_ret
      exact ⟨rfl, HB.out⟩
    · rw [if_neg c6] at H
      have c6_0 : decide (t349 < 0) = false := decide_eq_false c6
      clear c6
      replace H := Option.bind_eq_some_iff.mp H
      obtain ⟨⟨t350, t351, t352, t353, t356, t357, t360, t363, t366, t367⟩, hm, H⟩ := H
      try dsimp only at H
      have HM7 := Aside0.mk hm
      clear hm
      replace H := Option.bind_eq_some_iff.mp H
      obtain ⟨⟨t370, t371, t372, t373, t376, t377, t380, t383, t386, t387⟩, hm, H⟩ := H
      try dsimp only at H
      have HM8 := Aside0.mk hm
      clear hm
      replace H := Option.bind_eq_some_iff.mp H
      obtain ⟨t390, hm, H⟩ := H
      try dsimp only at H
      have HM9 := Aside0.mk hm
      clear hm
      have H' := Aside0.mk H
      clear H
      try go_wp2
      have h_ := blk_drew BK1.out
      clear BK1 c_BK1 z_BK1
      have BK1 := Aside0.mk h_
      clear h_
      have h_ := blk_drew BK2.out
      clear BK2 c_BK2 z_BK2
      have BK2 := Aside0.mk h_
      clear h_
      have hB_ := below_drew1 HB.out
      clear HB
      have HB := Aside0.mk hB_
      clear hB_
      have Z10 : Aside0 (W5.heap.size ≤ W5.drew.heap.size) := ⟨Nat.le_refl _⟩
      refine start_ (n := 6) (S := fun w' => w'.cell? ⟨gb1, 0, none⟩ = some (.int .i64 a0_0) ∧ w'.cell? ⟨gb1, 1, none⟩ = some (.int .i64 a0_1) ∧ w'.cell? ⟨gb1, 2, none⟩ = some (.int .i64 a0_2) ∧ w'.cell? ⟨gb1, 3, none⟩ = some (.slice A0_3 l0_3.length c0_3) ∧ w'.cell? ⟨gb1, 4, none⟩ = some (.int .i64 a0_4) ∧ w'.cell? ⟨gb1, 5, none⟩ = some (.slice A0_5 l0_5.length c0_5) ∧ w'.cell? ⟨gb1, 6, none⟩ = some (.slice A0_6 l0_6.length c0_6) ∧ w'.cell? ⟨gb1, 7, none⟩ = some (.slice A0_7 l0_7.length c0_7) ∧ w'.cell? ⟨gb1, 8, none⟩ = some (.int .i64 a0_8) ∧ w'.cell? ⟨gb1, 9, none⟩ = some (.slice A0_9 l0_9.length c0_9) ∧ w'.cell? ⟨gb2, 0, none⟩ = some (.int .i64 a1_0) ∧ w'.cell? ⟨gb2, 1, none⟩ = some (.int .i64 a1_1) ∧ w'.cell? ⟨gb2, 2, none⟩ = some (.int .i64 a1_2) ∧ w'.cell? ⟨gb2, 3, none⟩ = some (.slice A1_3 l1_3.length c1_3) ∧ w'.cell? ⟨gb2, 4, none⟩ = some (.int .i64 a1_4) ∧ w'.cell? ⟨gb2, 5, none⟩ = some (.slice A1_5 l1_5.length c1_5) ∧ w'.cell? ⟨gb2, 6, none⟩ = some (.slice A1_6 l1_6.length c1_6) ∧ w'.cell? ⟨gb2, 7, none⟩ = some (.slice A1_7 l1_7.length c1_7) ∧ w'.cell? ⟨gb2, 8, none⟩ = some (.int .i64 a1_8) ∧ w'.cell? ⟨gb2, 9, none⟩ = some (.slice A1_9 l1_9.length c1_9)) (ds := []) #[false, false, false, false, false, false] (by kernel_rfl) rfl rfl ⟨(blk_cell BK1.out 0).trans rfl, (blk_cell BK1.out 1).trans rfl, (blk_cell BK1.out 2).trans rfl, (blk_cell BK1.out 3).trans rfl, (blk_cell BK1.out 4).trans rfl, (blk_cell BK1.out 5).trans rfl, (blk_cell BK1.out 6).trans rfl, (blk_cell BK1.out 7).trans rfl, (blk_cell BK1.out 8).trans rfl, (blk_cell BK1.out 9).trans rfl, (blk_cell BK2.out 0).trans rfl, (blk_cell BK2.out 1).trans rfl, (blk_cell BK2.out 2).trans rfl, (blk_cell BK2.out 3).trans rfl, (blk_cell BK2.out 4).trans rfl, (blk_cell BK2.out 5).trans rfl, (blk_cell BK2.out 6).trans rfl, (blk_cell BK2.out 7).trans rfl, (blk_cell BK2.out 8).trans rfl, (blk_cell BK2.out 9).trans rfl⟩ (fun hHeld => ?_)
      generalize W5.drew = W10 at Z10 HB BK1 BK2 hHeld ⊢
      have c_BK1 := blk_cell BK1.out
      have z_BK1 := blk_frozen BK1.out
      have c_BK2 := blk_cell BK2.out
      have z_BK2 := blk_frozen BK2.out
      refine take_ (i := 0) (N := some 20) (v := ?_) (a' := ?_) #[true, false, false, false, false, false] rfl rfl (by kernel_rfl) (fun _ _ _ h => h) (Or.inl ⟨by rfl, ?_⟩) hHeld ?_ ?_
      rotate_left
      · rintro w' ⟨s0, s1, s2, s3, s4, s5, s6, s7, s8, s9, s10, s11, s12, s13, s14, s15, s16, s17, s18, s19⟩
        go_simp
        with_reducible rfl
      rotate_left
      · simp only [Act.put, List.setIfInBounds_toArray, List.set_cons_zero, List.set_cons_succ, i64_w, i32_w]
        rfl
      refine take_ (i := 2) (N := some 22) (v := ?_) (a' := ?_) #[true, false, true, false, false, false] rfl rfl (by kernel_rfl) (fun _ _ _ h => h) (Or.inl ⟨by rfl, ?_⟩) hHeld ?_ ?_
      rotate_left
      · rintro w' ⟨s0, s1, s2, s3, s4, s5, s6, s7, s8, s9, s10, s11, s12, s13, s14, s15, s16, s17, s18, s19⟩
        go_simp
        with_reducible rfl
      rotate_left
      · simp only [Act.put, List.setIfInBounds_toArray, List.set_cons_zero, List.set_cons_succ, i64_w, i32_w]
        rfl
      refine one_ (i := 1) (N := some 21) #[true, true, true, false, false, false] rfl rfl (by kernel_rfl) (by decide) (fun K hK => ?_)
      have hcall := laws_toPoint.calls k a0_0 a0_1 a0_2 _ _ l0_3 a0_4 _ _ l0_5 _ _ l0_6 _ _ l0_7 a0_8 _ _ l0_9 t350 t351 t352 t353 t356 t357 t360 t363 t366 t367 W10 (Kd.C_below HR0_3.out HB.out) HC0_3.out (Kd.C_below HR0_5.out HB.out) HC0_5.out (Kd.C_below HR0_6.out HB.out) HC0_6.out (Kd.C_below HR0_7.out HB.out) HC0_7.out (Kd.C_below HR0_9.out HB.out) HC0_9.out HM7.out
      refine goes_ Try.func13 (by kernel_rfl) rfl #[.agg #[.int .i64 a0_0, .int .i64 a0_1, .int .i64 a0_2, .slice A0_3 l0_3.length c0_3, .int .i64 a0_4, .slice A0_5 l0_5.length c0_5, .slice A0_6 l0_6.length c0_6, .slice A0_7 l0_7.length c0_7, .int .i64 a0_8, .slice A0_9 l0_9.length c0_9]] (by rfl) rfl rfl (by (try simp only [List.map_toArray, List.map_cons, List.map_nil]); first | done | rfl) ?_
      refine hcall.mono ?_
      rintro e W11 ⟨v354, v358, v361, v364, v368, rfl, ho0, ho1, ho2, ho3, ho4, hb⟩
      refine ⟨_, rfl, ?_⟩
      clear hcall
      have Z11 := Aside0.mk hb.size
      obtain ⟨A11_0, n11_0, c11_0, rfl, hn_, hr_⟩ := Go.Proofs.YtineejdlpcgnkaaM.R_made ho0 HB.out.size
      clear hn_ ho0
      have HO11_0 := Aside0.mk hr_
      clear hr_
      obtain ⟨A11_1, n11_1, c11_1, rfl, hn_, hr_⟩ := Go.Proofs.YtineejdlpcgnkaaM.R_made ho1 HB.out.size
      clear hn_ ho1
      have HO11_1 := Aside0.mk hr_
      clear hr_
      obtain ⟨A11_2, n11_2, c11_2, rfl, hn_, hr_⟩ := Go.Proofs.YtineejdlpcgnkaaM.R_made ho2 HB.out.size
      clear hn_ ho2
      have HO11_2 := Aside0.mk hr_
      clear hr_
      obtain ⟨A11_3, n11_3, c11_3, rfl, hn_, hr_⟩ := Go.Proofs.YtineejdlpcgnkaaM.R_made ho3 HB.out.size
      clear hn_ ho3
      have HO11_3 := Aside0.mk hr_
      clear hr_
      obtain ⟨A11_4, n11_4, c11_4, rfl, hn_, hr_⟩ := Go.Proofs.YtineejdlpcgnkaaM.R_made ho4 HB.out.size
      clear hn_ ho4
      have HO11_4 := Aside0.mk hr_
      clear hr_
      have h_ := blk_below BK1.out hb
      clear BK1 c_BK1 z_BK1
      have BK1 := Aside0.mk h_
      have c_BK1 := blk_cell h_
      have z_BK1 := blk_frozen h_
      clear h_
      have h_ := blk_below BK2.out hb
      clear BK2 c_BK2 z_BK2
      have BK2 := Aside0.mk h_
      have c_BK2 := blk_cell h_
      have z_BK2 := blk_frozen h_
      clear h_
      have hB_ := below_step HB.out hb
      clear HB hb
      have HB := Aside0.mk hB_
      clear hB_
      refine hK.out _ _ ⟨(blk_cell BK1.out 0).trans rfl, (blk_cell BK1.out 1).trans rfl, (blk_cell BK1.out 2).trans rfl, (blk_cell BK1.out 3).trans rfl, (blk_cell BK1.out 4).trans rfl, (blk_cell BK1.out 5).trans rfl, (blk_cell BK1.out 6).trans rfl, (blk_cell BK1.out 7).trans rfl, (blk_cell BK1.out 8).trans rfl, (blk_cell BK1.out 9).trans rfl, (blk_cell BK2.out 0).trans rfl, (blk_cell BK2.out 1).trans rfl, (blk_cell BK2.out 2).trans rfl, (blk_cell BK2.out 3).trans rfl, (blk_cell BK2.out 4).trans rfl, (blk_cell BK2.out 5).trans rfl, (blk_cell BK2.out 6).trans rfl, (blk_cell BK2.out 7).trans rfl, (blk_cell BK2.out 8).trans rfl, (blk_cell BK2.out 9).trans rfl⟩ (fun hHeld => ?_)
      clear hK K
      refine norm_ (a' := ?_) ?_ ?_
      rotate_left
      · show Act.put _ (some 21) _ = _
        simp only [Act.put, List.setIfInBounds_toArray, List.set_cons_zero, List.set_cons_succ, i64_w, i32_w]
        rfl
      refine one_ (i := 3) (N := some 23) #[true, true, true, true, false, false] rfl rfl (by kernel_rfl) (by decide) (fun K hK => ?_)
      have hcall := laws_toPoint.calls k a1_0 a1_1 a1_2 _ _ l1_3 a1_4 _ _ l1_5 _ _ l1_6 _ _ l1_7 a1_8 _ _ l1_9 t370 t371 t372 t373 t376 t377 t380 t383 t386 t387 W11 (Kd.C_below HR1_3.out HB.out) HC1_3.out (Kd.C_below HR1_5.out HB.out) HC1_5.out (Kd.C_below HR1_6.out HB.out) HC1_6.out (Kd.C_below HR1_7.out HB.out) HC1_7.out (Kd.C_below HR1_9.out HB.out) HC1_9.out HM8.out
      refine goes_ Try.func13 (by kernel_rfl) rfl #[.agg #[.int .i64 a1_0, .int .i64 a1_1, .int .i64 a1_2, .slice A1_3 l1_3.length c1_3, .int .i64 a1_4, .slice A1_5 l1_5.length c1_5, .slice A1_6 l1_6.length c1_6, .slice A1_7 l1_7.length c1_7, .int .i64 a1_8, .slice A1_9 l1_9.length c1_9]] (by rfl) rfl rfl (by (try simp only [List.map_toArray, List.map_cons, List.map_nil]); first | done | rfl) ?_
      refine hcall.mono ?_
      rintro e W12 ⟨v374, v378, v381, v384, v388, rfl, ho0, ho1, ho2, ho3, ho4, hb⟩
      refine ⟨_, rfl, ?_⟩
      clear hcall
      have Z12 := Aside0.mk hb.size
      have h_ := Kd.R_below HO11_0.out hb
      clear HO11_0
      have HO11_0 := Aside0.mk h_
      clear h_
      have h_ := Kd.R_below HO11_1.out hb
      clear HO11_1
      have HO11_1 := Aside0.mk h_
      clear h_
      have h_ := Kd.R_below HO11_2.out hb
      clear HO11_2
      have HO11_2 := Aside0.mk h_
      clear h_
      have h_ := Kd.R_below HO11_3.out hb
      clear HO11_3
      have HO11_3 := Aside0.mk h_
      clear h_
      have h_ := Kd.R_below HO11_4.out hb
      clear HO11_4
      have HO11_4 := Aside0.mk h_
      clear h_
      obtain ⟨A12_0, n12_0, c12_0, rfl, hn_, hr_⟩ := Go.Proofs.YtineejdlpcgnkaaM.R_made ho0 HB.out.size
      clear hn_ ho0
      have HO12_0 := Aside0.mk hr_
      clear hr_
      obtain ⟨A12_1, n12_1, c12_1, rfl, hn_, hr_⟩ := Go.Proofs.YtineejdlpcgnkaaM.R_made ho1 HB.out.size
      clear hn_ ho1
      have HO12_1 := Aside0.mk hr_
      clear hr_
      obtain ⟨A12_2, n12_2, c12_2, rfl, hn_, hr_⟩ := Go.Proofs.YtineejdlpcgnkaaM.R_made ho2 HB.out.size
      clear hn_ ho2
      have HO12_2 := Aside0.mk hr_
      clear hr_
      obtain ⟨A12_3, n12_3, c12_3, rfl, hn_, hr_⟩ := Go.Proofs.YtineejdlpcgnkaaM.R_made ho3 HB.out.size
      clear hn_ ho3
      have HO12_3 := Aside0.mk hr_
      clear hr_
      obtain ⟨A12_4, n12_4, c12_4, rfl, hn_, hr_⟩ := Go.Proofs.YtineejdlpcgnkaaM.R_made ho4 HB.out.size
      clear hn_ ho4
      have HO12_4 := Aside0.mk hr_
      clear hr_
      have h_ := blk_below BK1.out hb
      clear BK1 c_BK1 z_BK1
      have BK1 := Aside0.mk h_
      have c_BK1 := blk_cell h_
      have z_BK1 := blk_frozen h_
      clear h_
      have h_ := blk_below BK2.out hb
      clear BK2 c_BK2 z_BK2
      have BK2 := Aside0.mk h_
      have c_BK2 := blk_cell h_
      have z_BK2 := blk_frozen h_
      clear h_
      have hB_ := below_step HB.out hb
      clear HB hb
      have HB := Aside0.mk hB_
      clear hB_
      refine hK.out _ _ ⟨(blk_cell BK1.out 0).trans rfl, (blk_cell BK1.out 1).trans rfl, (blk_cell BK1.out 2).trans rfl, (blk_cell BK1.out 3).trans rfl, (blk_cell BK1.out 4).trans rfl, (blk_cell BK1.out 5).trans rfl, (blk_cell BK1.out 6).trans rfl, (blk_cell BK1.out 7).trans rfl, (blk_cell BK1.out 8).trans rfl, (blk_cell BK1.out 9).trans rfl, (blk_cell BK2.out 0).trans rfl, (blk_cell BK2.out 1).trans rfl, (blk_cell BK2.out 2).trans rfl, (blk_cell BK2.out 3).trans rfl, (blk_cell BK2.out 4).trans rfl, (blk_cell BK2.out 5).trans rfl, (blk_cell BK2.out 6).trans rfl, (blk_cell BK2.out 7).trans rfl, (blk_cell BK2.out 8).trans rfl, (blk_cell BK2.out 9).trans rfl⟩ (fun hHeld => ?_)
      clear hK K
      refine norm_ (a' := ?_) ?_ ?_
      rotate_left
      · show Act.put _ (some 23) _ = _
        simp only [Act.put, List.setIfInBounds_toArray, List.set_cons_zero, List.set_cons_succ, i64_w, i32_w]
        rfl
      refine one_ (i := 4) (N := some 24) #[true, true, true, true, true, false] rfl rfl (by kernel_rfl) (by decide) (fun K hK => ?_)
      have hcall := spec_EqualPoints.calls k t350 t351 t352 _ _ t353 t356 _ _ t357 _ _ t360 _ _ t363 t366 _ _ t367 t370 t371 t372 _ _ t373 t376 _ _ t377 _ _ t380 _ _ t383 t386 _ _ t387 t390 W12 (Go.Proofs.YtineejdlpcgnkaaM.R_C HO11_0.out) (Go.Proofs.YtineejdlpcgnkaaM.R_len HO11_0.out) (Go.Proofs.YtineejdlpcgnkaaM.R_C HO11_1.out) (Go.Proofs.YtineejdlpcgnkaaM.R_len HO11_1.out) (Go.Proofs.YtineejdlpcgnkaaM.R_C HO11_2.out) (Go.Proofs.YtineejdlpcgnkaaM.R_len HO11_2.out) (Go.Proofs.YtineejdlpcgnkaaM.R_C HO11_3.out) (Go.Proofs.YtineejdlpcgnkaaM.R_len HO11_3.out) (Go.Proofs.YtineejdlpcgnkaaM.R_C HO11_4.out) (Go.Proofs.YtineejdlpcgnkaaM.R_len HO11_4.out) (Go.Proofs.YtineejdlpcgnkaaM.R_C HO12_0.out) (Go.Proofs.YtineejdlpcgnkaaM.R_len HO12_0.out) (Go.Proofs.YtineejdlpcgnkaaM.R_C HO12_1.out) (Go.Proofs.YtineejdlpcgnkaaM.R_len HO12_1.out) (Go.Proofs.YtineejdlpcgnkaaM.R_C HO12_2.out) (Go.Proofs.YtineejdlpcgnkaaM.R_len HO12_2.out) (Go.Proofs.YtineejdlpcgnkaaM.R_C HO12_3.out) (Go.Proofs.YtineejdlpcgnkaaM.R_len HO12_3.out) (Go.Proofs.YtineejdlpcgnkaaM.R_C HO12_4.out) (Go.Proofs.YtineejdlpcgnkaaM.R_len HO12_4.out) HM9.out
      rw [Go.Proofs.YtineejdlpcgnkaaM.R_n HO11_0.out, Go.Proofs.YtineejdlpcgnkaaM.R_n HO11_1.out, Go.Proofs.YtineejdlpcgnkaaM.R_n HO11_2.out, Go.Proofs.YtineejdlpcgnkaaM.R_n HO11_3.out, Go.Proofs.YtineejdlpcgnkaaM.R_n HO11_4.out, Go.Proofs.YtineejdlpcgnkaaM.R_n HO12_0.out, Go.Proofs.YtineejdlpcgnkaaM.R_n HO12_1.out, Go.Proofs.YtineejdlpcgnkaaM.R_n HO12_2.out, Go.Proofs.YtineejdlpcgnkaaM.R_n HO12_3.out, Go.Proofs.YtineejdlpcgnkaaM.R_n HO12_4.out] at hcall
      refine goes_ Try.func25 (by kernel_rfl) rfl #[.agg #[.int .i64 t350, .int .i64 t351, .int .i64 t352, .slice A11_0 n11_0 c11_0, .int .i64 t356, .slice A11_1 n11_1 c11_1, .slice A11_2 n11_2 c11_2, .slice A11_3 n11_3 c11_3, .int .i64 t366, .slice A11_4 n11_4 c11_4], .agg #[.int .i64 t370, .int .i64 t371, .int .i64 t372, .slice A12_0 n12_0 c12_0, .int .i64 t376, .slice A12_1 n12_1 c12_1, .slice A12_2 n12_2 c12_2, .slice A12_3 n12_3 c12_3, .int .i64 t386, .slice A12_4 n12_4 c12_4]] (by rfl) rfl rfl (by (try simp only [List.map_toArray, List.map_cons, List.map_nil]); first | done | rfl) ?_
      refine hcall.mono ?_
      rintro e W13 ⟨rfl, hb⟩
      refine ⟨_, rfl, ?_⟩
      clear hcall
      have Z13 := Aside0.mk hb.size
      have h_ := Kd.R_below HO11_0.out hb
      clear HO11_0
      have HO11_0 := Aside0.mk h_
      clear h_
      have h_ := Kd.R_below HO11_1.out hb
      clear HO11_1
      have HO11_1 := Aside0.mk h_
      clear h_
      have h_ := Kd.R_below HO11_2.out hb
      clear HO11_2
      have HO11_2 := Aside0.mk h_
      clear h_
      have h_ := Kd.R_below HO11_3.out hb
      clear HO11_3
      have HO11_3 := Aside0.mk h_
      clear h_
      have h_ := Kd.R_below HO11_4.out hb
      clear HO11_4
      have HO11_4 := Aside0.mk h_
      clear h_
      have h_ := Kd.R_below HO12_0.out hb
      clear HO12_0
      have HO12_0 := Aside0.mk h_
      clear h_
      have h_ := Kd.R_below HO12_1.out hb
      clear HO12_1
      have HO12_1 := Aside0.mk h_
      clear h_
      have h_ := Kd.R_below HO12_2.out hb
      clear HO12_2
      have HO12_2 := Aside0.mk h_
      clear h_
      have h_ := Kd.R_below HO12_3.out hb
      clear HO12_3
      have HO12_3 := Aside0.mk h_
      clear h_
      have h_ := Kd.R_below HO12_4.out hb
      clear HO12_4
      have HO12_4 := Aside0.mk h_
      clear h_
      have h_ := blk_below BK1.out hb
      clear BK1 c_BK1 z_BK1
      have BK1 := Aside0.mk h_
      have c_BK1 := blk_cell h_
      have z_BK1 := blk_frozen h_
      clear h_
      have h_ := blk_below BK2.out hb
      clear BK2 c_BK2 z_BK2
      have BK2 := Aside0.mk h_
      have c_BK2 := blk_cell h_
      have z_BK2 := blk_frozen h_
      clear h_
      have hB_ := below_step HB.out hb
      clear HB hb
      have HB := Aside0.mk hB_
      clear hB_
      refine hK.out _ _ ⟨(blk_cell BK1.out 0).trans rfl, (blk_cell BK1.out 1).trans rfl, (blk_cell BK1.out 2).trans rfl, (blk_cell BK1.out 3).trans rfl, (blk_cell BK1.out 4).trans rfl, (blk_cell BK1.out 5).trans rfl, (blk_cell BK1.out 6).trans rfl, (blk_cell BK1.out 7).trans rfl, (blk_cell BK1.out 8).trans rfl, (blk_cell BK1.out 9).trans rfl, (blk_cell BK2.out 0).trans rfl, (blk_cell BK2.out 1).trans rfl, (blk_cell BK2.out 2).trans rfl, (blk_cell BK2.out 3).trans rfl, (blk_cell BK2.out 4).trans rfl, (blk_cell BK2.out 5).trans rfl, (blk_cell BK2.out 6).trans rfl, (blk_cell BK2.out 7).trans rfl, (blk_cell BK2.out 8).trans rfl, (blk_cell BK2.out 9).trans rfl⟩ (fun hHeld => ?_)
      clear hK K
      refine norm_ (a' := ?_) ?_ ?_
      rotate_left
      · show Act.put _ (some 24) _ = _
        simp only [Act.put, List.setIfInBounds_toArray, List.set_cons_zero, List.set_cons_succ, i64_w, i32_w]
        rfl
      refine pure_ (i := 5) (N := some 6) (v := ?_) (a' := ?_) #[true, true, true, true, true, true] rfl rfl (by kernel_rfl) (fun _ _ _ h => h) (Or.inl ⟨by rfl, ?_⟩) ?_ ?_
      rotate_left
      · intro w'
        go_simp
        with_reducible rfl
      rotate_left
      · simp only [Act.put, List.setIfInBounds_toArray, List.set_cons_zero, List.set_cons_succ, i64_w, i32_w]
        rfl
      refine done_ (by kernel_rfl) ?_
      clear hHeld
      have H := H'.out
      clear H'
      replace H := Option.bind_eq_some_iff.mp H
      obtain ⟨⟨t391, t392, t393, t394, t397, t398, t401, t404, t407, t408⟩, hm, H⟩ := H
      try dsimp only at H
      have H' := Aside0.mk H
      clear H
      have hcall := laws_toPoint.calls k a0_0 a0_1 a0_2 _ _ l0_3 a0_4 _ _ l0_5 _ _ l0_6 _ _ l0_7 a0_8 _ _ l0_9 t391 t392 t393 t394 t397 t398 t401 t404 t407 t408 W13 (Kd.C_below HR0_3.out HB.out) HC0_3.out (Kd.C_below HR0_5.out HB.out) HC0_5.out (Kd.C_below HR0_6.out HB.out) HC0_6.out (Kd.C_below HR0_7.out HB.out) HC0_7.out (Kd.C_below HR0_9.out HB.out) HC0_9.out hm
      clear hm
      go_wp2_with fail
      refine hcall.mono ?_
      rintro e W14 ⟨v395, v399, v402, v405, v409, rfl, ho0, ho1, ho2, ho3, ho4, hb⟩
      clear hcall
      have Z14 := Aside0.mk hb.size
      have h_ := Kd.R_below HO11_0.out hb
      clear HO11_0
      have HO11_0 := Aside0.mk h_
      clear h_
      have h_ := Kd.R_below HO11_1.out hb
      clear HO11_1
      have HO11_1 := Aside0.mk h_
      clear h_
      have h_ := Kd.R_below HO11_2.out hb
      clear HO11_2
      have HO11_2 := Aside0.mk h_
      clear h_
      have h_ := Kd.R_below HO11_3.out hb
      clear HO11_3
      have HO11_3 := Aside0.mk h_
      clear h_
      have h_ := Kd.R_below HO11_4.out hb
      clear HO11_4
      have HO11_4 := Aside0.mk h_
      clear h_
      have h_ := Kd.R_below HO12_0.out hb
      clear HO12_0
      have HO12_0 := Aside0.mk h_
      clear h_
      have h_ := Kd.R_below HO12_1.out hb
      clear HO12_1
      have HO12_1 := Aside0.mk h_
      clear h_
      have h_ := Kd.R_below HO12_2.out hb
      clear HO12_2
      have HO12_2 := Aside0.mk h_
      clear h_
      have h_ := Kd.R_below HO12_3.out hb
      clear HO12_3
      have HO12_3 := Aside0.mk h_
      clear h_
      have h_ := Kd.R_below HO12_4.out hb
      clear HO12_4
      have HO12_4 := Aside0.mk h_
      clear h_
      obtain ⟨A14_0, n14_0, c14_0, rfl, hn_, hr_⟩ := Go.Proofs.YtineejdlpcgnkaaM.R_made ho0 HB.out.size
      clear hn_ ho0
      have HO14_0 := Aside0.mk hr_
      clear hr_
      obtain ⟨A14_1, n14_1, c14_1, rfl, hn_, hr_⟩ := Go.Proofs.YtineejdlpcgnkaaM.R_made ho1 HB.out.size
      clear hn_ ho1
      have HO14_1 := Aside0.mk hr_
      clear hr_
      obtain ⟨A14_2, n14_2, c14_2, rfl, hn_, hr_⟩ := Go.Proofs.YtineejdlpcgnkaaM.R_made ho2 HB.out.size
      clear hn_ ho2
      have HO14_2 := Aside0.mk hr_
      clear hr_
      obtain ⟨A14_3, n14_3, c14_3, rfl, hn_, hr_⟩ := Go.Proofs.YtineejdlpcgnkaaM.R_made ho3 HB.out.size
      clear hn_ ho3
      have HO14_3 := Aside0.mk hr_
      clear hr_
      obtain ⟨A14_4, n14_4, c14_4, rfl, hn_, hr_⟩ := Go.Proofs.YtineejdlpcgnkaaM.R_made ho4 HB.out.size
      clear hn_ ho4
      have HO14_4 := Aside0.mk hr_
      clear hr_
      have h_ := blk_below BK1.out hb
      clear BK1 c_BK1 z_BK1
      have BK1 := Aside0.mk h_
      have c_BK1 := blk_cell h_
      have z_BK1 := blk_frozen h_
      clear h_
      have h_ := blk_below BK2.out hb
      clear BK2 c_BK2 z_BK2
      have BK2 := Aside0.mk h_
      have c_BK2 := blk_cell h_
      have z_BK2 := blk_frozen h_
      clear h_
      have hB_ := below_step HB.out hb
      clear HB hb
      have HB := Aside0.mk hB_
      clear hB_
      have H := H'.out
      clear H'
      have H'' := Aside0.mk H
      clear H
      go_wp2_with (first | ((with_reducible refine gate_dst (N := 7) rfl ?_); refine box_event ?hg (N := 7) ?hd (cs := #[.int .i64 0, .int .i64 0, .int .i64 0, .slice none 0 0, .int .i64 0, .slice none 0 0, .slice none 0 0, .slice none 0 0, .int .i64 0, .slice none 0 0]) (t := 45) ?hr ?_; (case hd => rfl); (case hg => rfl); (case hr => first | (go_simp; done) | (go_simp; rfl)); intro gb15 hg W15 hbox hb; have Z15 := Aside0.mk hb.size; have E15 := Aside0.mk (And.intro hg (blk_lt hbox)); have h_ := Kd.R_below HO11_0.out hb; clear HO11_0; have HO11_0 := Aside0.mk h_; clear h_; have h_ := Kd.R_below HO11_1.out hb; clear HO11_1; have HO11_1 := Aside0.mk h_; clear h_; have h_ := Kd.R_below HO11_2.out hb; clear HO11_2; have HO11_2 := Aside0.mk h_; clear h_; have h_ := Kd.R_below HO11_3.out hb; clear HO11_3; have HO11_3 := Aside0.mk h_; clear h_; have h_ := Kd.R_below HO11_4.out hb; clear HO11_4; have HO11_4 := Aside0.mk h_; clear h_; have h_ := Kd.R_below HO12_0.out hb; clear HO12_0; have HO12_0 := Aside0.mk h_; clear h_; have h_ := Kd.R_below HO12_1.out hb; clear HO12_1; have HO12_1 := Aside0.mk h_; clear h_; have h_ := Kd.R_below HO12_2.out hb; clear HO12_2; have HO12_2 := Aside0.mk h_; clear h_; have h_ := Kd.R_below HO12_3.out hb; clear HO12_3; have HO12_3 := Aside0.mk h_; clear h_; have h_ := Kd.R_below HO12_4.out hb; clear HO12_4; have HO12_4 := Aside0.mk h_; clear h_; have h_ := Kd.R_below HO14_0.out hb; clear HO14_0; have HO14_0 := Aside0.mk h_; clear h_; have h_ := Kd.R_below HO14_1.out hb; clear HO14_1; have HO14_1 := Aside0.mk h_; clear h_; have h_ := Kd.R_below HO14_2.out hb; clear HO14_2; have HO14_2 := Aside0.mk h_; clear h_; have h_ := Kd.R_below HO14_3.out hb; clear HO14_3; have HO14_3 := Aside0.mk h_; clear h_; have h_ := Kd.R_below HO14_4.out hb; clear HO14_4; have HO14_4 := Aside0.mk h_; clear h_; have h_ := blk_below BK1.out hb; clear BK1 c_BK1 z_BK1; have BK1 := Aside0.mk h_; have c_BK1 := blk_cell h_; have z_BK1 := blk_frozen h_; clear h_; have h_ := blk_below BK2.out hb; clear BK2 c_BK2 z_BK2; have BK2 := Aside0.mk h_; have c_BK2 := blk_cell h_; have z_BK2 := blk_frozen h_; clear h_; have BK15 := Aside0.mk hbox; have c_BK15 := blk_cell hbox; have z_BK15 := blk_frozen hbox; have hB_ := below_step HB.out hb; clear HB hb hbox hg; have HB := Aside0.mk hB_; clear hB_) | ((with_reducible refine gate_store (t := 45) (p := 7) rfl ?_); refine store_event (t := 45) (p := 7) (v := ?vo_s16) (w1 := ((((((((((W15.setCell ⟨gb15, 0, none⟩ (.int .i64 t391)).setCell ⟨gb15, 1, none⟩ (.int .i64 t392)).setCell ⟨gb15, 2, none⟩ (.int .i64 t393)).setCell ⟨gb15, 3, none⟩ (.slice A14_0 n14_0 c14_0)).setCell ⟨gb15, 4, none⟩ (.int .i64 t397)).setCell ⟨gb15, 5, none⟩ (.slice A14_1 n14_1 c14_1)).setCell ⟨gb15, 6, none⟩ (.slice A14_2 n14_2 c14_2)).setCell ⟨gb15, 7, none⟩ (.slice A14_3 n14_3 c14_3)).setCell ⟨gb15, 8, none⟩ (.int .i64 t407)).setCell ⟨gb15, 9, none⟩ (.slice A14_4 n14_4 c14_4))) ?hg ?ho ?hn ?hr ?_; (case ho => rfl); (case hg => rfl); (case hn => rfl); (case hr => first | (go_simp; done) | (go_simp; rfl)); intro W16 hw; have hk_ : Kept W15 W16 (fun k_ => k_ = gb15) := (by rw [hw]; exact Kept.setCell (Kept.setCell (Kept.setCell (Kept.setCell (Kept.setCell (Kept.setCell (Kept.setCell (Kept.setCell (Kept.setCell (Kept.setCell (Kept.refl W15 (fun k_ => k_ = gb15)) (.inl rfl) _) (.inl rfl) _) (.inl rfl) _) (.inl rfl) _) (.inl rfl) _) (.inl rfl) _) (.inl rfl) _) (.inl rfl) _) (.inl rfl) _) (.inl rfl) _); have hge_ : w.heap.size ≤ gb15 := (by have := E15.out.1; have := HB.out.size; have := Z1.out; have := Z2.out; have := Z3.out; have := Z5.out; have := Z10.out; have := Z11.out; have := Z12.out; have := Z13.out; have := Z14.out; have := Z15.out; omega); have Z16 := Aside0.mk hk_.1; have h_ := Kd.R_step HO11_0.out (fun k_ h1_ h2_ => hk_.2 k_ h2_ (fun h3_ => by obtain ⟨_, _⟩ := h1_; have := E15.out; have := Z1.out; have := Z2.out; have := Z3.out; have := Z5.out; have := Z10.out; have := Z11.out; have := Z12.out; have := Z13.out; have := Z14.out; have := Z15.out; omega)); clear HO11_0; have HO11_0 := Aside0.mk h_; clear h_; have h_ := Kd.R_step HO11_1.out (fun k_ h1_ h2_ => hk_.2 k_ h2_ (fun h3_ => by obtain ⟨_, _⟩ := h1_; have := E15.out; have := Z1.out; have := Z2.out; have := Z3.out; have := Z5.out; have := Z10.out; have := Z11.out; have := Z12.out; have := Z13.out; have := Z14.out; have := Z15.out; omega)); clear HO11_1; have HO11_1 := Aside0.mk h_; clear h_; have h_ := Kd.R_step HO11_2.out (fun k_ h1_ h2_ => hk_.2 k_ h2_ (fun h3_ => by obtain ⟨_, _⟩ := h1_; have := E15.out; have := Z1.out; have := Z2.out; have := Z3.out; have := Z5.out; have := Z10.out; have := Z11.out; have := Z12.out; have := Z13.out; have := Z14.out; have := Z15.out; omega)); clear HO11_2; have HO11_2 := Aside0.mk h_; clear h_; have h_ := Kd.R_step HO11_3.out (fun k_ h1_ h2_ => hk_.2 k_ h2_ (fun h3_ => by obtain ⟨_, _⟩ := h1_; have := E15.out; have := Z1.out; have := Z2.out; have := Z3.out; have := Z5.out; have := Z10.out; have := Z11.out; have := Z12.out; have := Z13.out; have := Z14.out; have := Z15.out; omega)); clear HO11_3; have HO11_3 := Aside0.mk h_; clear h_; have h_ := Kd.R_step HO11_4.out (fun k_ h1_ h2_ => hk_.2 k_ h2_ (fun h3_ => by obtain ⟨_, _⟩ := h1_; have := E15.out; have := Z1.out; have := Z2.out; have := Z3.out; have := Z5.out; have := Z10.out; have := Z11.out; have := Z12.out; have := Z13.out; have := Z14.out; have := Z15.out; omega)); clear HO11_4; have HO11_4 := Aside0.mk h_; clear h_; have h_ := Kd.R_step HO12_0.out (fun k_ h1_ h2_ => hk_.2 k_ h2_ (fun h3_ => by obtain ⟨_, _⟩ := h1_; have := E15.out; have := Z1.out; have := Z2.out; have := Z3.out; have := Z5.out; have := Z10.out; have := Z11.out; have := Z12.out; have := Z13.out; have := Z14.out; have := Z15.out; omega)); clear HO12_0; have HO12_0 := Aside0.mk h_; clear h_; have h_ := Kd.R_step HO12_1.out (fun k_ h1_ h2_ => hk_.2 k_ h2_ (fun h3_ => by obtain ⟨_, _⟩ := h1_; have := E15.out; have := Z1.out; have := Z2.out; have := Z3.out; have := Z5.out; have := Z10.out; have := Z11.out; have := Z12.out; have := Z13.out; have := Z14.out; have := Z15.out; omega)); clear HO12_1; have HO12_1 := Aside0.mk h_; clear h_; have h_ := Kd.R_step HO12_2.out (fun k_ h1_ h2_ => hk_.2 k_ h2_ (fun h3_ => by obtain ⟨_, _⟩ := h1_; have := E15.out; have := Z1.out; have := Z2.out; have := Z3.out; have := Z5.out; have := Z10.out; have := Z11.out; have := Z12.out; have := Z13.out; have := Z14.out; have := Z15.out; omega)); clear HO12_2; have HO12_2 := Aside0.mk h_; clear h_; have h_ := Kd.R_step HO12_3.out (fun k_ h1_ h2_ => hk_.2 k_ h2_ (fun h3_ => by obtain ⟨_, _⟩ := h1_; have := E15.out; have := Z1.out; have := Z2.out; have := Z3.out; have := Z5.out; have := Z10.out; have := Z11.out; have := Z12.out; have := Z13.out; have := Z14.out; have := Z15.out; omega)); clear HO12_3; have HO12_3 := Aside0.mk h_; clear h_; have h_ := Kd.R_step HO12_4.out (fun k_ h1_ h2_ => hk_.2 k_ h2_ (fun h3_ => by obtain ⟨_, _⟩ := h1_; have := E15.out; have := Z1.out; have := Z2.out; have := Z3.out; have := Z5.out; have := Z10.out; have := Z11.out; have := Z12.out; have := Z13.out; have := Z14.out; have := Z15.out; omega)); clear HO12_4; have HO12_4 := Aside0.mk h_; clear h_; have h_ := Kd.R_step HO14_0.out (fun k_ h1_ h2_ => hk_.2 k_ h2_ (fun h3_ => by obtain ⟨_, _⟩ := h1_; have := E15.out; have := Z1.out; have := Z2.out; have := Z3.out; have := Z5.out; have := Z10.out; have := Z11.out; have := Z12.out; have := Z13.out; have := Z14.out; have := Z15.out; omega)); clear HO14_0; have HO14_0 := Aside0.mk h_; clear h_; have h_ := Kd.R_step HO14_1.out (fun k_ h1_ h2_ => hk_.2 k_ h2_ (fun h3_ => by obtain ⟨_, _⟩ := h1_; have := E15.out; have := Z1.out; have := Z2.out; have := Z3.out; have := Z5.out; have := Z10.out; have := Z11.out; have := Z12.out; have := Z13.out; have := Z14.out; have := Z15.out; omega)); clear HO14_1; have HO14_1 := Aside0.mk h_; clear h_; have h_ := Kd.R_step HO14_2.out (fun k_ h1_ h2_ => hk_.2 k_ h2_ (fun h3_ => by obtain ⟨_, _⟩ := h1_; have := E15.out; have := Z1.out; have := Z2.out; have := Z3.out; have := Z5.out; have := Z10.out; have := Z11.out; have := Z12.out; have := Z13.out; have := Z14.out; have := Z15.out; omega)); clear HO14_2; have HO14_2 := Aside0.mk h_; clear h_; have h_ := Kd.R_step HO14_3.out (fun k_ h1_ h2_ => hk_.2 k_ h2_ (fun h3_ => by obtain ⟨_, _⟩ := h1_; have := E15.out; have := Z1.out; have := Z2.out; have := Z3.out; have := Z5.out; have := Z10.out; have := Z11.out; have := Z12.out; have := Z13.out; have := Z14.out; have := Z15.out; omega)); clear HO14_3; have HO14_3 := Aside0.mk h_; clear h_; have h_ := Kd.R_step HO14_4.out (fun k_ h1_ h2_ => hk_.2 k_ h2_ (fun h3_ => by obtain ⟨_, _⟩ := h1_; have := E15.out; have := Z1.out; have := Z2.out; have := Z3.out; have := Z5.out; have := Z10.out; have := Z11.out; have := Z12.out; have := Z13.out; have := Z14.out; have := Z15.out; omega)); clear HO14_4; have HO14_4 := Aside0.mk h_; clear h_; have h_ := blk_kept BK1.out hk_ (fun hp_ => by have := E1.out; have := E15.out; have := Z1.out; have := Z2.out; have := Z3.out; have := Z5.out; have := Z10.out; have := Z11.out; have := Z12.out; have := Z13.out; have := Z14.out; have := Z15.out; omega); clear BK1 c_BK1 z_BK1; have BK1 := Aside0.mk h_; have c_BK1 := blk_cell h_; have z_BK1 := blk_frozen h_; clear h_; have h_ := blk_kept BK2.out hk_ (fun hp_ => by have := E2.out; have := E15.out; have := Z1.out; have := Z2.out; have := Z3.out; have := Z5.out; have := Z10.out; have := Z11.out; have := Z12.out; have := Z13.out; have := Z14.out; have := Z15.out; omega); clear BK2 c_BK2 z_BK2; have BK2 := Aside0.mk h_; have c_BK2 := blk_cell h_; have z_BK2 := blk_frozen h_; clear h_; have h_ := blk_set (blk_set (blk_set (blk_set (blk_set (blk_set (blk_set (blk_set (blk_set (blk_set (BK15.out) 0 (.int .i64 t391)) 1 (.int .i64 t392)) 2 (.int .i64 t393)) 3 (.slice A14_0 n14_0 c14_0)) 4 (.int .i64 t397)) 5 (.slice A14_1 n14_1 c14_1)) 6 (.slice A14_2 n14_2 c14_2)) 7 (.slice A14_3 n14_3 c14_3)) 8 (.int .i64 t407)) 9 (.slice A14_4 n14_4 c14_4); rw [← hw] at h_; simp only [List.setIfInBounds_toArray, List.set_cons_zero, List.set_cons_succ] at h_; clear BK15 c_BK15 z_BK15; have BK15 := Aside0.mk h_; have c_BK15 := blk_cell h_; have z_BK15 := blk_frozen h_; clear h_; have hB_ : Below w.heap.size w W16 := (by rw [hw]; exact below_set (below_set (below_set (below_set (below_set (below_set (below_set (below_set (below_set (below_set (HB.out) hge_) hge_) hge_) hge_) hge_) hge_) hge_) hge_) hge_) hge_); clear HB hw hk_ hge_; have HB := Aside0.mk hB_; clear hB_))
      have H := H''.out
      clear H''
      replace H := Option.bind_eq_some_iff.mp H
      obtain ⟨⟨t412, t413, t414, t415, t418, t419, t422, t425, t428, t429⟩, hm, H⟩ := H
      try dsimp only at H
      have H' := Aside0.mk H
      clear H
      have hcall := laws_toPoint.calls k a1_0 a1_1 a1_2 _ _ l1_3 a1_4 _ _ l1_5 _ _ l1_6 _ _ l1_7 a1_8 _ _ l1_9 t412 t413 t414 t415 t418 t419 t422 t425 t428 t429 W16 (Kd.C_below HR1_3.out HB.out) HC1_3.out (Kd.C_below HR1_5.out HB.out) HC1_5.out (Kd.C_below HR1_6.out HB.out) HC1_6.out (Kd.C_below HR1_7.out HB.out) HC1_7.out (Kd.C_below HR1_9.out HB.out) HC1_9.out hm
      clear hm
      try go_wp2_with fail
      refine hcall.mono ?_
      rintro e W17 ⟨v416, v420, v423, v426, v430, rfl, ho0, ho1, ho2, ho3, ho4, hb⟩
      clear hcall
      have Z17 := Aside0.mk hb.size
      have h_ := Kd.R_below HO11_0.out hb
      clear HO11_0
      have HO11_0 := Aside0.mk h_
      clear h_
      have h_ := Kd.R_below HO11_1.out hb
      clear HO11_1
      have HO11_1 := Aside0.mk h_
      clear h_
      have h_ := Kd.R_below HO11_2.out hb
      clear HO11_2
      have HO11_2 := Aside0.mk h_
      clear h_
      have h_ := Kd.R_below HO11_3.out hb
      clear HO11_3
      have HO11_3 := Aside0.mk h_
      clear h_
      have h_ := Kd.R_below HO11_4.out hb
      clear HO11_4
      have HO11_4 := Aside0.mk h_
      clear h_
      have h_ := Kd.R_below HO12_0.out hb
      clear HO12_0
      have HO12_0 := Aside0.mk h_
      clear h_
      have h_ := Kd.R_below HO12_1.out hb
      clear HO12_1
      have HO12_1 := Aside0.mk h_
      clear h_
      have h_ := Kd.R_below HO12_2.out hb
      clear HO12_2
      have HO12_2 := Aside0.mk h_
      clear h_
      have h_ := Kd.R_below HO12_3.out hb
      clear HO12_3
      have HO12_3 := Aside0.mk h_
      clear h_
      have h_ := Kd.R_below HO12_4.out hb
      clear HO12_4
      have HO12_4 := Aside0.mk h_
      clear h_
      have h_ := Kd.R_below HO14_0.out hb
      clear HO14_0
      have HO14_0 := Aside0.mk h_
      clear h_
      have h_ := Kd.R_below HO14_1.out hb
      clear HO14_1
      have HO14_1 := Aside0.mk h_
      clear h_
      have h_ := Kd.R_below HO14_2.out hb
      clear HO14_2
      have HO14_2 := Aside0.mk h_
      clear h_
      have h_ := Kd.R_below HO14_3.out hb
      clear HO14_3
      have HO14_3 := Aside0.mk h_
      clear h_
      have h_ := Kd.R_below HO14_4.out hb
      clear HO14_4
      have HO14_4 := Aside0.mk h_
      clear h_
      obtain ⟨A17_0, n17_0, c17_0, rfl, hn_, hr_⟩ := Go.Proofs.YtineejdlpcgnkaaM.R_made ho0 HB.out.size
      clear hn_ ho0
      have HO17_0 := Aside0.mk hr_
      clear hr_
      obtain ⟨A17_1, n17_1, c17_1, rfl, hn_, hr_⟩ := Go.Proofs.YtineejdlpcgnkaaM.R_made ho1 HB.out.size
      clear hn_ ho1
      have HO17_1 := Aside0.mk hr_
      clear hr_
      obtain ⟨A17_2, n17_2, c17_2, rfl, hn_, hr_⟩ := Go.Proofs.YtineejdlpcgnkaaM.R_made ho2 HB.out.size
      clear hn_ ho2
      have HO17_2 := Aside0.mk hr_
      clear hr_
      obtain ⟨A17_3, n17_3, c17_3, rfl, hn_, hr_⟩ := Go.Proofs.YtineejdlpcgnkaaM.R_made ho3 HB.out.size
      clear hn_ ho3
      have HO17_3 := Aside0.mk hr_
      clear hr_
      obtain ⟨A17_4, n17_4, c17_4, rfl, hn_, hr_⟩ := Go.Proofs.YtineejdlpcgnkaaM.R_made ho4 HB.out.size
      clear hn_ ho4
      have HO17_4 := Aside0.mk hr_
      clear hr_
      have h_ := blk_below BK1.out hb
      clear BK1 c_BK1 z_BK1
      have BK1 := Aside0.mk h_
      have c_BK1 := blk_cell h_
      have z_BK1 := blk_frozen h_
      clear h_
      have h_ := blk_below BK2.out hb
      clear BK2 c_BK2 z_BK2
      have BK2 := Aside0.mk h_
      have c_BK2 := blk_cell h_
      have z_BK2 := blk_frozen h_
      clear h_
      have h_ := blk_below BK15.out hb
      clear BK15 c_BK15 z_BK15
      have BK15 := Aside0.mk h_
      have c_BK15 := blk_cell h_
      have z_BK15 := blk_frozen h_
      clear h_
      have hB_ := below_step HB.out hb
      clear HB hb
      have HB := Aside0.mk hB_
      clear hB_
      have H := H'.out
      clear H'
      have H'' := Aside0.mk H
      clear H
      go_wp2_with (first | ((with_reducible refine gate_dst (N := 8) rfl ?_); refine box_event ?hg (N := 8) ?hd (cs := #[.int .i64 0, .int .i64 0, .int .i64 0, .slice none 0 0, .int .i64 0, .slice none 0 0, .slice none 0 0, .slice none 0 0, .int .i64 0, .slice none 0 0]) (t := 45) ?hr ?_; (case hd => rfl); (case hg => rfl); (case hr => first | (go_simp; done) | (go_simp; rfl)); intro gb18 hg W18 hbox hb; have Z18 := Aside0.mk hb.size; have E18 := Aside0.mk (And.intro hg (blk_lt hbox)); have h_ := Kd.R_below HO11_0.out hb; clear HO11_0; have HO11_0 := Aside0.mk h_; clear h_; have h_ := Kd.R_below HO11_1.out hb; clear HO11_1; have HO11_1 := Aside0.mk h_; clear h_; have h_ := Kd.R_below HO11_2.out hb; clear HO11_2; have HO11_2 := Aside0.mk h_; clear h_; have h_ := Kd.R_below HO11_3.out hb; clear HO11_3; have HO11_3 := Aside0.mk h_; clear h_; have h_ := Kd.R_below HO11_4.out hb; clear HO11_4; have HO11_4 := Aside0.mk h_; clear h_; have h_ := Kd.R_below HO12_0.out hb; clear HO12_0; have HO12_0 := Aside0.mk h_; clear h_; have h_ := Kd.R_below HO12_1.out hb; clear HO12_1; have HO12_1 := Aside0.mk h_; clear h_; have h_ := Kd.R_below HO12_2.out hb; clear HO12_2; have HO12_2 := Aside0.mk h_; clear h_; have h_ := Kd.R_below HO12_3.out hb; clear HO12_3; have HO12_3 := Aside0.mk h_; clear h_; have h_ := Kd.R_below HO12_4.out hb; clear HO12_4; have HO12_4 := Aside0.mk h_; clear h_; have h_ := Kd.R_below HO14_0.out hb; clear HO14_0; have HO14_0 := Aside0.mk h_; clear h_; have h_ := Kd.R_below HO14_1.out hb; clear HO14_1; have HO14_1 := Aside0.mk h_; clear h_; have h_ := Kd.R_below HO14_2.out hb; clear HO14_2; have HO14_2 := Aside0.mk h_; clear h_; have h_ := Kd.R_below HO14_3.out hb; clear HO14_3; have HO14_3 := Aside0.mk h_; clear h_; have h_ := Kd.R_below HO14_4.out hb; clear HO14_4; have HO14_4 := Aside0.mk h_; clear h_; have h_ := Kd.R_below HO17_0.out hb; clear HO17_0; have HO17_0 := Aside0.mk h_; clear h_; have h_ := Kd.R_below HO17_1.out hb; clear HO17_1; have HO17_1 := Aside0.mk h_; clear h_; have h_ := Kd.R_below HO17_2.out hb; clear HO17_2; have HO17_2 := Aside0.mk h_; clear h_; have h_ := Kd.R_below HO17_3.out hb; clear HO17_3; have HO17_3 := Aside0.mk h_; clear h_; have h_ := Kd.R_below HO17_4.out hb; clear HO17_4; have HO17_4 := Aside0.mk h_; clear h_; have h_ := blk_below BK1.out hb; clear BK1 c_BK1 z_BK1; have BK1 := Aside0.mk h_; have c_BK1 := blk_cell h_; have z_BK1 := blk_frozen h_; clear h_; have h_ := blk_below BK2.out hb; clear BK2 c_BK2 z_BK2; have BK2 := Aside0.mk h_; have c_BK2 := blk_cell h_; have z_BK2 := blk_frozen h_; clear h_; have h_ := blk_below BK15.out hb; clear BK15 c_BK15 z_BK15; have BK15 := Aside0.mk h_; have c_BK15 := blk_cell h_; have z_BK15 := blk_frozen h_; clear h_; have BK18 := Aside0.mk hbox; have c_BK18 := blk_cell hbox; have z_BK18 := blk_frozen hbox; have hB_ := below_step HB.out hb; clear HB hb hbox hg; have HB := Aside0.mk hB_; clear hB_) | ((with_reducible refine gate_store (t := 45) (p := 8) rfl ?_); refine store_event (t := 45) (p := 8) (v := ?vo_s19) (w1 := ((((((((((W18.setCell ⟨gb18, 0, none⟩ (.int .i64 t412)).setCell ⟨gb18, 1, none⟩ (.int .i64 t413)).setCell ⟨gb18, 2, none⟩ (.int .i64 t414)).setCell ⟨gb18, 3, none⟩ (.slice A17_0 n17_0 c17_0)).setCell ⟨gb18, 4, none⟩ (.int .i64 t418)).setCell ⟨gb18, 5, none⟩ (.slice A17_1 n17_1 c17_1)).setCell ⟨gb18, 6, none⟩ (.slice A17_2 n17_2 c17_2)).setCell ⟨gb18, 7, none⟩ (.slice A17_3 n17_3 c17_3)).setCell ⟨gb18, 8, none⟩ (.int .i64 t428)).setCell ⟨gb18, 9, none⟩ (.slice A17_4 n17_4 c17_4))) ?hg ?ho ?hn ?hr ?_; (case ho => rfl); (case hg => rfl); (case hn => rfl); (case hr => first | (go_simp; done) | (go_simp; rfl)); intro W19 hw; have hk_ : Kept W18 W19 (fun k_ => k_ = gb18) := (by rw [hw]; exact Kept.setCell (Kept.setCell (Kept.setCell (Kept.setCell (Kept.setCell (Kept.setCell (Kept.setCell (Kept.setCell (Kept.setCell (Kept.setCell (Kept.refl W18 (fun k_ => k_ = gb18)) (.inl rfl) _) (.inl rfl) _) (.inl rfl) _) (.inl rfl) _) (.inl rfl) _) (.inl rfl) _) (.inl rfl) _) (.inl rfl) _) (.inl rfl) _) (.inl rfl) _); have hge_ : w.heap.size ≤ gb18 := (by have := E18.out.1; have := HB.out.size; have := Z1.out; have := Z2.out; have := Z3.out; have := Z5.out; have := Z10.out; have := Z11.out; have := Z12.out; have := Z13.out; have := Z14.out; have := Z15.out; have := Z16.out; have := Z17.out; have := Z18.out; omega); have Z19 := Aside0.mk hk_.1; have h_ := Kd.R_step HO11_0.out (fun k_ h1_ h2_ => hk_.2 k_ h2_ (fun h3_ => by obtain ⟨_, _⟩ := h1_; have := E18.out; have := Z1.out; have := Z2.out; have := Z3.out; have := Z5.out; have := Z10.out; have := Z11.out; have := Z12.out; have := Z13.out; have := Z14.out; have := Z15.out; have := Z16.out; have := Z17.out; have := Z18.out; omega)); clear HO11_0; have HO11_0 := Aside0.mk h_; clear h_; have h_ := Kd.R_step HO11_1.out (fun k_ h1_ h2_ => hk_.2 k_ h2_ (fun h3_ => by obtain ⟨_, _⟩ := h1_; have := E18.out; have := Z1.out; have := Z2.out; have := Z3.out; have := Z5.out; have := Z10.out; have := Z11.out; have := Z12.out; have := Z13.out; have := Z14.out; have := Z15.out; have := Z16.out; have := Z17.out; have := Z18.out; omega)); clear HO11_1; have HO11_1 := Aside0.mk h_; clear h_; have h_ := Kd.R_step HO11_2.out (fun k_ h1_ h2_ => hk_.2 k_ h2_ (fun h3_ => by obtain ⟨_, _⟩ := h1_; have := E18.out; have := Z1.out; have := Z2.out; have := Z3.out; have := Z5.out; have := Z10.out; have := Z11.out; have := Z12.out; have := Z13.out; have := Z14.out; have := Z15.out; have := Z16.out; have := Z17.out; have := Z18.out; omega)); clear HO11_2; have HO11_2 := Aside0.mk h_; clear h_; have h_ := Kd.R_step HO11_3.out (fun k_ h1_ h2_ => hk_.2 k_ h2_ (fun h3_ => by obtain ⟨_, _⟩ := h1_; have := E18.out; have := Z1.out; have := Z2.out; have := Z3.out; have := Z5.out; have := Z10.out; have := Z11.out; have := Z12.out; have := Z13.out; have := Z14.out; have := Z15.out; have := Z16.out; have := Z17.out; have := Z18.out; omega)); clear HO11_3; have HO11_3 := Aside0.mk h_; clear h_; have h_ := Kd.R_step HO11_4.out (fun k_ h1_ h2_ => hk_.2 k_ h2_ (fun h3_ => by obtain ⟨_, _⟩ := h1_; have := E18.out; have := Z1.out; have := Z2.out; have := Z3.out; have := Z5.out; have := Z10.out; have := Z11.out; have := Z12.out; have := Z13.out; have := Z14.out; have := Z15.out; have := Z16.out; have := Z17.out; have := Z18.out; omega)); clear HO11_4; have HO11_4 := Aside0.mk h_; clear h_; have h_ := Kd.R_step HO12_0.out (fun k_ h1_ h2_ => hk_.2 k_ h2_ (fun h3_ => by obtain ⟨_, _⟩ := h1_; have := E18.out; have := Z1.out; have := Z2.out; have := Z3.out; have := Z5.out; have := Z10.out; have := Z11.out; have := Z12.out; have := Z13.out; have := Z14.out; have := Z15.out; have := Z16.out; have := Z17.out; have := Z18.out; omega)); clear HO12_0; have HO12_0 := Aside0.mk h_; clear h_; have h_ := Kd.R_step HO12_1.out (fun k_ h1_ h2_ => hk_.2 k_ h2_ (fun h3_ => by obtain ⟨_, _⟩ := h1_; have := E18.out; have := Z1.out; have := Z2.out; have := Z3.out; have := Z5.out; have := Z10.out; have := Z11.out; have := Z12.out; have := Z13.out; have := Z14.out; have := Z15.out; have := Z16.out; have := Z17.out; have := Z18.out; omega)); clear HO12_1; have HO12_1 := Aside0.mk h_; clear h_; have h_ := Kd.R_step HO12_2.out (fun k_ h1_ h2_ => hk_.2 k_ h2_ (fun h3_ => by obtain ⟨_, _⟩ := h1_; have := E18.out; have := Z1.out; have := Z2.out; have := Z3.out; have := Z5.out; have := Z10.out; have := Z11.out; have := Z12.out; have := Z13.out; have := Z14.out; have := Z15.out; have := Z16.out; have := Z17.out; have := Z18.out; omega)); clear HO12_2; have HO12_2 := Aside0.mk h_; clear h_; have h_ := Kd.R_step HO12_3.out (fun k_ h1_ h2_ => hk_.2 k_ h2_ (fun h3_ => by obtain ⟨_, _⟩ := h1_; have := E18.out; have := Z1.out; have := Z2.out; have := Z3.out; have := Z5.out; have := Z10.out; have := Z11.out; have := Z12.out; have := Z13.out; have := Z14.out; have := Z15.out; have := Z16.out; have := Z17.out; have := Z18.out; omega)); clear HO12_3; have HO12_3 := Aside0.mk h_; clear h_; have h_ := Kd.R_step HO12_4.out (fun k_ h1_ h2_ => hk_.2 k_ h2_ (fun h3_ => by obtain ⟨_, _⟩ := h1_; have := E18.out; have := Z1.out; have := Z2.out; have := Z3.out; have := Z5.out; have := Z10.out; have := Z11.out; have := Z12.out; have := Z13.out; have := Z14.out; have := Z15.out; have := Z16.out; have := Z17.out; have := Z18.out; omega)); clear HO12_4; have HO12_4 := Aside0.mk h_; clear h_; have h_ := Kd.R_step HO14_0.out (fun k_ h1_ h2_ => hk_.2 k_ h2_ (fun h3_ => by obtain ⟨_, _⟩ := h1_; have := E18.out; have := Z1.out; have := Z2.out; have := Z3.out; have := Z5.out; have := Z10.out; have := Z11.out; have := Z12.out; have := Z13.out; have := Z14.out; have := Z15.out; have := Z16.out; have := Z17.out; have := Z18.out; omega)); clear HO14_0; have HO14_0 := Aside0.mk h_; clear h_; have h_ := Kd.R_step HO14_1.out (fun k_ h1_ h2_ => hk_.2 k_ h2_ (fun h3_ => by obtain ⟨_, _⟩ := h1_; have := E18.out; have := Z1.out; have := Z2.out; have := Z3.out; have := Z5.out; have := Z10.out; have := Z11.out; have := Z12.out; have := Z13.out; have := Z14.out; have := Z15.out; have := Z16.out; have := Z17.out; have := Z18.out; omega)); clear HO14_1; have HO14_1 := Aside0.mk h_; clear h_; have h_ := Kd.R_step HO14_2.out (fun k_ h1_ h2_ => hk_.2 k_ h2_ (fun h3_ => by obtain ⟨_, _⟩ := h1_; have := E18.out; have := Z1.out; have := Z2.out; have := Z3.out; have := Z5.out; have := Z10.out; have := Z11.out; have := Z12.out; have := Z13.out; have := Z14.out; have := Z15.out; have := Z16.out; have := Z17.out; have := Z18.out; omega)); clear HO14_2; have HO14_2 := Aside0.mk h_; clear h_; have h_ := Kd.R_step HO14_3.out (fun k_ h1_ h2_ => hk_.2 k_ h2_ (fun h3_ => by obtain ⟨_, _⟩ := h1_; have := E18.out; have := Z1.out; have := Z2.out; have := Z3.out; have := Z5.out; have := Z10.out; have := Z11.out; have := Z12.out; have := Z13.out; have := Z14.out; have := Z15.out; have := Z16.out; have := Z17.out; have := Z18.out; omega)); clear HO14_3; have HO14_3 := Aside0.mk h_; clear h_; have h_ := Kd.R_step HO14_4.out (fun k_ h1_ h2_ => hk_.2 k_ h2_ (fun h3_ => by obtain ⟨_, _⟩ := h1_; have := E18.out; have := Z1.out; have := Z2.out; have := Z3.out; have := Z5.out; have := Z10.out; have := Z11.out; have := Z12.out; have := Z13.out; have := Z14.out; have := Z15.out; have := Z16.out; have := Z17.out; have := Z18.out; omega)); clear HO14_4; have HO14_4 := Aside0.mk h_; clear h_; have h_ := Kd.R_step HO17_0.out (fun k_ h1_ h2_ => hk_.2 k_ h2_ (fun h3_ => by obtain ⟨_, _⟩ := h1_; have := E18.out; have := Z1.out; have := Z2.out; have := Z3.out; have := Z5.out; have := Z10.out; have := Z11.out; have := Z12.out; have := Z13.out; have := Z14.out; have := Z15.out; have := Z16.out; have := Z17.out; have := Z18.out; omega)); clear HO17_0; have HO17_0 := Aside0.mk h_; clear h_; have h_ := Kd.R_step HO17_1.out (fun k_ h1_ h2_ => hk_.2 k_ h2_ (fun h3_ => by obtain ⟨_, _⟩ := h1_; have := E18.out; have := Z1.out; have := Z2.out; have := Z3.out; have := Z5.out; have := Z10.out; have := Z11.out; have := Z12.out; have := Z13.out; have := Z14.out; have := Z15.out; have := Z16.out; have := Z17.out; have := Z18.out; omega)); clear HO17_1; have HO17_1 := Aside0.mk h_; clear h_; have h_ := Kd.R_step HO17_2.out (fun k_ h1_ h2_ => hk_.2 k_ h2_ (fun h3_ => by obtain ⟨_, _⟩ := h1_; have := E18.out; have := Z1.out; have := Z2.out; have := Z3.out; have := Z5.out; have := Z10.out; have := Z11.out; have := Z12.out; have := Z13.out; have := Z14.out; have := Z15.out; have := Z16.out; have := Z17.out; have := Z18.out; omega)); clear HO17_2; have HO17_2 := Aside0.mk h_; clear h_; have h_ := Kd.R_step HO17_3.out (fun k_ h1_ h2_ => hk_.2 k_ h2_ (fun h3_ => by obtain ⟨_, _⟩ := h1_; have := E18.out; have := Z1.out; have := Z2.out; have := Z3.out; have := Z5.out; have := Z10.out; have := Z11.out; have := Z12.out; have := Z13.out; have := Z14.out; have := Z15.out; have := Z16.out; have := Z17.out; have := Z18.out; omega)); clear HO17_3; have HO17_3 := Aside0.mk h_; clear h_; have h_ := Kd.R_step HO17_4.out (fun k_ h1_ h2_ => hk_.2 k_ h2_ (fun h3_ => by obtain ⟨_, _⟩ := h1_; have := E18.out; have := Z1.out; have := Z2.out; have := Z3.out; have := Z5.out; have := Z10.out; have := Z11.out; have := Z12.out; have := Z13.out; have := Z14.out; have := Z15.out; have := Z16.out; have := Z17.out; have := Z18.out; omega)); clear HO17_4; have HO17_4 := Aside0.mk h_; clear h_; have h_ := blk_kept BK1.out hk_ (fun hp_ => by have := E1.out; have := E18.out; have := Z1.out; have := Z2.out; have := Z3.out; have := Z5.out; have := Z10.out; have := Z11.out; have := Z12.out; have := Z13.out; have := Z14.out; have := Z15.out; have := Z16.out; have := Z17.out; have := Z18.out; omega); clear BK1 c_BK1 z_BK1; have BK1 := Aside0.mk h_; have c_BK1 := blk_cell h_; have z_BK1 := blk_frozen h_; clear h_; have h_ := blk_kept BK2.out hk_ (fun hp_ => by have := E2.out; have := E18.out; have := Z1.out; have := Z2.out; have := Z3.out; have := Z5.out; have := Z10.out; have := Z11.out; have := Z12.out; have := Z13.out; have := Z14.out; have := Z15.out; have := Z16.out; have := Z17.out; have := Z18.out; omega); clear BK2 c_BK2 z_BK2; have BK2 := Aside0.mk h_; have c_BK2 := blk_cell h_; have z_BK2 := blk_frozen h_; clear h_; have h_ := blk_kept BK15.out hk_ (fun hp_ => by have := E15.out; have := E18.out; have := Z1.out; have := Z2.out; have := Z3.out; have := Z5.out; have := Z10.out; have := Z11.out; have := Z12.out; have := Z13.out; have := Z14.out; have := Z15.out; have := Z16.out; have := Z17.out; have := Z18.out; omega); clear BK15 c_BK15 z_BK15; have BK15 := Aside0.mk h_; have c_BK15 := blk_cell h_; have z_BK15 := blk_frozen h_; clear h_; have h_ := blk_set (blk_set (blk_set (blk_set (blk_set (blk_set (blk_set (blk_set (blk_set (blk_set (BK18.out) 0 (.int .i64 t412)) 1 (.int .i64 t413)) 2 (.int .i64 t414)) 3 (.slice A17_0 n17_0 c17_0)) 4 (.int .i64 t418)) 5 (.slice A17_1 n17_1 c17_1)) 6 (.slice A17_2 n17_2 c17_2)) 7 (.slice A17_3 n17_3 c17_3)) 8 (.int .i64 t428)) 9 (.slice A17_4 n17_4 c17_4); rw [← hw] at h_; simp only [List.setIfInBounds_toArray, List.set_cons_zero, List.set_cons_succ] at h_; clear BK18 c_BK18 z_BK18; have BK18 := Aside0.mk h_; have c_BK18 := blk_cell h_; have z_BK18 := blk_frozen h_; clear h_; have hB_ : Below w.heap.size w W19 := (by rw [hw]; exact below_set (below_set (below_set (below_set (below_set (below_set (below_set (below_set (below_set (below_set (HB.out) hge_) hge_) hge_) hge_) hge_) hge_) hge_) hge_) hge_) hge_); clear HB hw hk_ hge_; have HB := Aside0.mk hB_; clear hB_))
      have H := H''.out
      clear H''
      replace H := Option.bind_eq_some_iff.mp H
      obtain ⟨t433, hm, H⟩ := H
      try dsimp only at H
      have H' := Aside0.mk H
      clear H
      have hcall := impl_EqualPoints.calls k t391 t392 t393 _ _ t394 t397 _ _ t398 _ _ t401 _ _ t404 t407 _ _ t408 t412 t413 t414 _ _ t415 t418 _ _ t419 _ _ t422 _ _ t425 t428 _ _ t429 t433 W19 (Go.Proofs.YtineejdlpcgnkaaM.R_C HO14_0.out) (Go.Proofs.YtineejdlpcgnkaaM.R_len HO14_0.out) (Go.Proofs.YtineejdlpcgnkaaM.R_C HO14_1.out) (Go.Proofs.YtineejdlpcgnkaaM.R_len HO14_1.out) (Go.Proofs.YtineejdlpcgnkaaM.R_C HO14_2.out) (Go.Proofs.YtineejdlpcgnkaaM.R_len HO14_2.out) (Go.Proofs.YtineejdlpcgnkaaM.R_C HO14_3.out) (Go.Proofs.YtineejdlpcgnkaaM.R_len HO14_3.out) (Go.Proofs.YtineejdlpcgnkaaM.R_C HO14_4.out) (Go.Proofs.YtineejdlpcgnkaaM.R_len HO14_4.out) (Go.Proofs.YtineejdlpcgnkaaM.R_C HO17_0.out) (Go.Proofs.YtineejdlpcgnkaaM.R_len HO17_0.out) (Go.Proofs.YtineejdlpcgnkaaM.R_C HO17_1.out) (Go.Proofs.YtineejdlpcgnkaaM.R_len HO17_1.out) (Go.Proofs.YtineejdlpcgnkaaM.R_C HO17_2.out) (Go.Proofs.YtineejdlpcgnkaaM.R_len HO17_2.out) (Go.Proofs.YtineejdlpcgnkaaM.R_C HO17_3.out) (Go.Proofs.YtineejdlpcgnkaaM.R_len HO17_3.out) (Go.Proofs.YtineejdlpcgnkaaM.R_C HO17_4.out) (Go.Proofs.YtineejdlpcgnkaaM.R_len HO17_4.out) hm
      rw [Go.Proofs.YtineejdlpcgnkaaM.R_n HO14_0.out, Go.Proofs.YtineejdlpcgnkaaM.R_n HO14_1.out, Go.Proofs.YtineejdlpcgnkaaM.R_n HO14_2.out, Go.Proofs.YtineejdlpcgnkaaM.R_n HO14_3.out, Go.Proofs.YtineejdlpcgnkaaM.R_n HO14_4.out, Go.Proofs.YtineejdlpcgnkaaM.R_n HO17_0.out, Go.Proofs.YtineejdlpcgnkaaM.R_n HO17_1.out, Go.Proofs.YtineejdlpcgnkaaM.R_n HO17_2.out, Go.Proofs.YtineejdlpcgnkaaM.R_n HO17_3.out, Go.Proofs.YtineejdlpcgnkaaM.R_n HO17_4.out] at hcall
      clear hm
      try go_wp2_with fail
      refine hcall.mono ?_
      rintro e W20 ⟨rfl, hb⟩
      clear hcall
      have Z20 := Aside0.mk hb.size
      have h_ := Kd.R_below HO11_0.out hb
      clear HO11_0
      have HO11_0 := Aside0.mk h_
      clear h_
      have h_ := Kd.R_below HO11_1.out hb
      clear HO11_1
      have HO11_1 := Aside0.mk h_
      clear h_
      have h_ := Kd.R_below HO11_2.out hb
      clear HO11_2
      have HO11_2 := Aside0.mk h_
      clear h_
      have h_ := Kd.R_below HO11_3.out hb
      clear HO11_3
      have HO11_3 := Aside0.mk h_
      clear h_
      have h_ := Kd.R_below HO11_4.out hb
      clear HO11_4
      have HO11_4 := Aside0.mk h_
      clear h_
      have h_ := Kd.R_below HO12_0.out hb
      clear HO12_0
      have HO12_0 := Aside0.mk h_
      clear h_
      have h_ := Kd.R_below HO12_1.out hb
      clear HO12_1
      have HO12_1 := Aside0.mk h_
      clear h_
      have h_ := Kd.R_below HO12_2.out hb
      clear HO12_2
      have HO12_2 := Aside0.mk h_
      clear h_
      have h_ := Kd.R_below HO12_3.out hb
      clear HO12_3
      have HO12_3 := Aside0.mk h_
      clear h_
      have h_ := Kd.R_below HO12_4.out hb
      clear HO12_4
      have HO12_4 := Aside0.mk h_
      clear h_
      have h_ := Kd.R_below HO14_0.out hb
      clear HO14_0
      have HO14_0 := Aside0.mk h_
      clear h_
      have h_ := Kd.R_below HO14_1.out hb
      clear HO14_1
      have HO14_1 := Aside0.mk h_
      clear h_
      have h_ := Kd.R_below HO14_2.out hb
      clear HO14_2
      have HO14_2 := Aside0.mk h_
      clear h_
      have h_ := Kd.R_below HO14_3.out hb
      clear HO14_3
      have HO14_3 := Aside0.mk h_
      clear h_
      have h_ := Kd.R_below HO14_4.out hb
      clear HO14_4
      have HO14_4 := Aside0.mk h_
      clear h_
      have h_ := Kd.R_below HO17_0.out hb
      clear HO17_0
      have HO17_0 := Aside0.mk h_
      clear h_
      have h_ := Kd.R_below HO17_1.out hb
      clear HO17_1
      have HO17_1 := Aside0.mk h_
      clear h_
      have h_ := Kd.R_below HO17_2.out hb
      clear HO17_2
      have HO17_2 := Aside0.mk h_
      clear h_
      have h_ := Kd.R_below HO17_3.out hb
      clear HO17_3
      have HO17_3 := Aside0.mk h_
      clear h_
      have h_ := Kd.R_below HO17_4.out hb
      clear HO17_4
      have HO17_4 := Aside0.mk h_
      clear h_
      have h_ := blk_below BK1.out hb
      clear BK1 c_BK1 z_BK1
      have BK1 := Aside0.mk h_
      have c_BK1 := blk_cell h_
      have z_BK1 := blk_frozen h_
      clear h_
      have h_ := blk_below BK2.out hb
      clear BK2 c_BK2 z_BK2
      have BK2 := Aside0.mk h_
      have c_BK2 := blk_cell h_
      have z_BK2 := blk_frozen h_
      clear h_
      have h_ := blk_below BK15.out hb
      clear BK15 c_BK15 z_BK15
      have BK15 := Aside0.mk h_
      have c_BK15 := blk_cell h_
      have z_BK15 := blk_frozen h_
      clear h_
      have h_ := blk_below BK18.out hb
      clear BK18 c_BK18 z_BK18
      have BK18 := Aside0.mk h_
      have c_BK18 := blk_cell h_
      have z_BK18 := blk_frozen h_
      clear h_
      have hB_ := below_step HB.out hb
      clear HB hb
      have HB := Aside0.mk hB_
      clear hB_
      have H := H'.out
      clear H'
      by_cases c21 : (t433 != t390) = true
      · rw [if_pos c21] at H
        have c21_1 : (t433 != t390) = true := by revert c21; cases t433 <;> cases t390 <;> decide
        have c21_2 : (!t433 == t390) = true := by revert c21; cases t433 <;> cases t390 <;> decide
        clear c21
        obtain rfl := Option.some.inj H
        clear H
        go_wp2
        go_ret
        exact ⟨rfl, HB.out⟩
      · rw [if_neg c21] at H
        have c21_1 : (t433 != t390) = false := by revert c21; cases t433 <;> cases t390 <;> decide
        have c21_2 : (!t433 == t390) = false := by revert c21; cases t433 <;> cases t390 <;> decide
        clear c21
        replace H := Option.bind_eq_some_iff.mp H
        obtain ⟨⟨t434, t435, t436, t437, t440, t441, t444, t447, t450, t451⟩, hm, H⟩ := H
        try dsimp only at H
        have HM22 := Aside0.mk hm
        clear hm
        replace H := Option.bind_eq_some_iff.mp H
        obtain ⟨t454, hm, H⟩ := H
        try dsimp only at H
        have HM23 := Aside0.mk hm
        clear hm
        have H' := Aside0.mk H
        clear H
        try go_wp2
        have h_ := Kd.R_drew HO11_0.out
        clear HO11_0
        have HO11_0 := Aside0.mk h_
        clear h_
        have h_ := Kd.R_drew HO11_1.out
        clear HO11_1
        have HO11_1 := Aside0.mk h_
        clear h_
        have h_ := Kd.R_drew HO11_2.out
        clear HO11_2
        have HO11_2 := Aside0.mk h_
        clear h_
        have h_ := Kd.R_drew HO11_3.out
        clear HO11_3
        have HO11_3 := Aside0.mk h_
        clear h_
        have h_ := Kd.R_drew HO11_4.out
        clear HO11_4
        have HO11_4 := Aside0.mk h_
        clear h_
        have h_ := Kd.R_drew HO12_0.out
        clear HO12_0
        have HO12_0 := Aside0.mk h_
        clear h_
        have h_ := Kd.R_drew HO12_1.out
        clear HO12_1
        have HO12_1 := Aside0.mk h_
        clear h_
        have h_ := Kd.R_drew HO12_2.out
        clear HO12_2
        have HO12_2 := Aside0.mk h_
        clear h_
        have h_ := Kd.R_drew HO12_3.out
        clear HO12_3
        have HO12_3 := Aside0.mk h_
        clear h_
        have h_ := Kd.R_drew HO12_4.out
        clear HO12_4
        have HO12_4 := Aside0.mk h_
        clear h_
        have h_ := Kd.R_drew HO14_0.out
        clear HO14_0
        have HO14_0 := Aside0.mk h_
        clear h_
        have h_ := Kd.R_drew HO14_1.out
        clear HO14_1
        have HO14_1 := Aside0.mk h_
        clear h_
        have h_ := Kd.R_drew HO14_2.out
        clear HO14_2
        have HO14_2 := Aside0.mk h_
        clear h_
        have h_ := Kd.R_drew HO14_3.out
        clear HO14_3
        have HO14_3 := Aside0.mk h_
        clear h_
        have h_ := Kd.R_drew HO14_4.out
        clear HO14_4
        have HO14_4 := Aside0.mk h_
        clear h_
        have h_ := Kd.R_drew HO17_0.out
        clear HO17_0
        have HO17_0 := Aside0.mk h_
        clear h_
        have h_ := Kd.R_drew HO17_1.out
        clear HO17_1
        have HO17_1 := Aside0.mk h_
        clear h_
        have h_ := Kd.R_drew HO17_2.out
        clear HO17_2
        have HO17_2 := Aside0.mk h_
        clear h_
        have h_ := Kd.R_drew HO17_3.out
        clear HO17_3
        have HO17_3 := Aside0.mk h_
        clear h_
        have h_ := Kd.R_drew HO17_4.out
        clear HO17_4
        have HO17_4 := Aside0.mk h_
        clear h_
        have h_ := blk_drew BK1.out
        clear BK1 c_BK1 z_BK1
        have BK1 := Aside0.mk h_
        clear h_
        have h_ := blk_drew BK2.out
        clear BK2 c_BK2 z_BK2
        have BK2 := Aside0.mk h_
        clear h_
        have h_ := blk_drew BK15.out
        clear BK15 c_BK15 z_BK15
        have BK15 := Aside0.mk h_
        clear h_
        have h_ := blk_drew BK18.out
        clear BK18 c_BK18 z_BK18
        have BK18 := Aside0.mk h_
        clear h_
        have hB_ := below_drew1 HB.out
        clear HB
        have HB := Aside0.mk hB_
        clear hB_
        have Z24 : Aside0 (W20.heap.size ≤ W20.drew.heap.size) := ⟨Nat.le_refl _⟩
        refine start_ (n := 5) (S := fun w' => w'.cell? ⟨gb1, 0, none⟩ = some (.int .i64 a0_0) ∧ w'.cell? ⟨gb1, 1, none⟩ = some (.int .i64 a0_1) ∧ w'.cell? ⟨gb1, 2, none⟩ = some (.int .i64 a0_2) ∧ w'.cell? ⟨gb1, 3, none⟩ = some (.slice A0_3 l0_3.length c0_3) ∧ w'.cell? ⟨gb1, 4, none⟩ = some (.int .i64 a0_4) ∧ w'.cell? ⟨gb1, 5, none⟩ = some (.slice A0_5 l0_5.length c0_5) ∧ w'.cell? ⟨gb1, 6, none⟩ = some (.slice A0_6 l0_6.length c0_6) ∧ w'.cell? ⟨gb1, 7, none⟩ = some (.slice A0_7 l0_7.length c0_7) ∧ w'.cell? ⟨gb1, 8, none⟩ = some (.int .i64 a0_8) ∧ w'.cell? ⟨gb1, 9, none⟩ = some (.slice A0_9 l0_9.length c0_9) ∧ w'.cell? ⟨gb15, 0, none⟩ = some (.int .i64 t391) ∧ w'.cell? ⟨gb15, 1, none⟩ = some (.int .i64 t392) ∧ w'.cell? ⟨gb15, 2, none⟩ = some (.int .i64 t393) ∧ w'.cell? ⟨gb15, 3, none⟩ = some (.slice A14_0 n14_0 c14_0) ∧ w'.cell? ⟨gb15, 4, none⟩ = some (.int .i64 t397) ∧ w'.cell? ⟨gb15, 5, none⟩ = some (.slice A14_1 n14_1 c14_1) ∧ w'.cell? ⟨gb15, 6, none⟩ = some (.slice A14_2 n14_2 c14_2) ∧ w'.cell? ⟨gb15, 7, none⟩ = some (.slice A14_3 n14_3 c14_3) ∧ w'.cell? ⟨gb15, 8, none⟩ = some (.int .i64 t407) ∧ w'.cell? ⟨gb15, 9, none⟩ = some (.slice A14_4 n14_4 c14_4)) (ds := []) #[false, false, false, false, false] (by kernel_rfl) rfl rfl ⟨(blk_cell BK1.out 0).trans rfl, (blk_cell BK1.out 1).trans rfl, (blk_cell BK1.out 2).trans rfl, (blk_cell BK1.out 3).trans rfl, (blk_cell BK1.out 4).trans rfl, (blk_cell BK1.out 5).trans rfl, (blk_cell BK1.out 6).trans rfl, (blk_cell BK1.out 7).trans rfl, (blk_cell BK1.out 8).trans rfl, (blk_cell BK1.out 9).trans rfl, (blk_cell BK15.out 0).trans rfl, (blk_cell BK15.out 1).trans rfl, (blk_cell BK15.out 2).trans rfl, (blk_cell BK15.out 3).trans rfl, (blk_cell BK15.out 4).trans rfl, (blk_cell BK15.out 5).trans rfl, (blk_cell BK15.out 6).trans rfl, (blk_cell BK15.out 7).trans rfl, (blk_cell BK15.out 8).trans rfl, (blk_cell BK15.out 9).trans rfl⟩ (fun hHeld => ?_)
        generalize W20.drew = W24 at Z24 HB BK1 BK2 BK15 BK18 HO11_0 HO11_1 HO11_2 HO11_3 HO11_4 HO12_0 HO12_1 HO12_2 HO12_3 HO12_4 HO14_0 HO14_1 HO14_2 HO14_3 HO14_4 HO17_0 HO17_1 HO17_2 HO17_3 HO17_4 hHeld ⊢
        have c_BK1 := blk_cell BK1.out
        have z_BK1 := blk_frozen BK1.out
        have c_BK2 := blk_cell BK2.out
        have z_BK2 := blk_frozen BK2.out
        have c_BK15 := blk_cell BK15.out
        have z_BK15 := blk_frozen BK15.out
        have c_BK18 := blk_cell BK18.out
        have z_BK18 := blk_frozen BK18.out
        refine take_ (i := 0) (N := some 35) (v := ?_) (a' := ?_) #[true, false, false, false, false] rfl rfl (by kernel_rfl) (fun _ _ _ h => h) (Or.inl ⟨by rfl, ?_⟩) hHeld ?_ ?_
        rotate_left
        · rintro w' ⟨s0, s1, s2, s3, s4, s5, s6, s7, s8, s9, s10, s11, s12, s13, s14, s15, s16, s17, s18, s19⟩
          go_simp
          with_reducible rfl
        rotate_left
        · simp only [Act.put, List.setIfInBounds_toArray, List.set_cons_zero, List.set_cons_succ, i64_w, i32_w]
          rfl
        refine take_ (i := 1) (N := some 36) (v := ?_) (a' := ?_) #[true, true, false, false, false] rfl rfl (by kernel_rfl) (fun _ _ _ h => h) (Or.inl ⟨by rfl, ?_⟩) hHeld ?_ ?_
        rotate_left
        · rintro w' ⟨s0, s1, s2, s3, s4, s5, s6, s7, s8, s9, s10, s11, s12, s13, s14, s15, s16, s17, s18, s19⟩
          go_simp
          with_reducible rfl
        rotate_left
        · simp only [Act.put, List.setIfInBounds_toArray, List.set_cons_zero, List.set_cons_succ, i64_w, i32_w]
          rfl
        refine one_ (i := 2) (N := some 37) #[true, true, true, false, false] rfl rfl (by kernel_rfl) (by decide) (fun K hK => ?_)
        have hcall := laws_toPoint.calls k a0_0 a0_1 a0_2 _ _ l0_3 a0_4 _ _ l0_5 _ _ l0_6 _ _ l0_7 a0_8 _ _ l0_9 t434 t435 t436 t437 t440 t441 t444 t447 t450 t451 W24 (Kd.C_below HR0_3.out HB.out) HC0_3.out (Kd.C_below HR0_5.out HB.out) HC0_5.out (Kd.C_below HR0_6.out HB.out) HC0_6.out (Kd.C_below HR0_7.out HB.out) HC0_7.out (Kd.C_below HR0_9.out HB.out) HC0_9.out HM22.out
        refine goes_ Try.func13 (by kernel_rfl) rfl #[.agg #[.int .i64 a0_0, .int .i64 a0_1, .int .i64 a0_2, .slice A0_3 l0_3.length c0_3, .int .i64 a0_4, .slice A0_5 l0_5.length c0_5, .slice A0_6 l0_6.length c0_6, .slice A0_7 l0_7.length c0_7, .int .i64 a0_8, .slice A0_9 l0_9.length c0_9]] (by rfl) rfl rfl (by (try simp only [List.map_toArray, List.map_cons, List.map_nil]); first | done | rfl) ?_
        refine hcall.mono ?_
        rintro e W25 ⟨v438, v442, v445, v448, v452, rfl, ho0, ho1, ho2, ho3, ho4, hb⟩
        refine ⟨_, rfl, ?_⟩
        clear hcall
        have Z25 := Aside0.mk hb.size
        have h_ := Kd.R_below HO11_0.out hb
        clear HO11_0
        have HO11_0 := Aside0.mk h_
        clear h_
        have h_ := Kd.R_below HO11_1.out hb
        clear HO11_1
        have HO11_1 := Aside0.mk h_
        clear h_
        have h_ := Kd.R_below HO11_2.out hb
        clear HO11_2
        have HO11_2 := Aside0.mk h_
        clear h_
        have h_ := Kd.R_below HO11_3.out hb
        clear HO11_3
        have HO11_3 := Aside0.mk h_
        clear h_
        have h_ := Kd.R_below HO11_4.out hb
        clear HO11_4
        have HO11_4 := Aside0.mk h_
        clear h_
        have h_ := Kd.R_below HO12_0.out hb
        clear HO12_0
        have HO12_0 := Aside0.mk h_
        clear h_
        have h_ := Kd.R_below HO12_1.out hb
        clear HO12_1
        have HO12_1 := Aside0.mk h_
        clear h_
        have h_ := Kd.R_below HO12_2.out hb
        clear HO12_2
        have HO12_2 := Aside0.mk h_
        clear h_
        have h_ := Kd.R_below HO12_3.out hb
        clear HO12_3
        have HO12_3 := Aside0.mk h_
        clear h_
        have h_ := Kd.R_below HO12_4.out hb
        clear HO12_4
        have HO12_4 := Aside0.mk h_
        clear h_
        have h_ := Kd.R_below HO14_0.out hb
        clear HO14_0
        have HO14_0 := Aside0.mk h_
        clear h_
        have h_ := Kd.R_below HO14_1.out hb
        clear HO14_1
        have HO14_1 := Aside0.mk h_
        clear h_
        have h_ := Kd.R_below HO14_2.out hb
        clear HO14_2
        have HO14_2 := Aside0.mk h_
        clear h_
        have h_ := Kd.R_below HO14_3.out hb
        clear HO14_3
        have HO14_3 := Aside0.mk h_
        clear h_
        have h_ := Kd.R_below HO14_4.out hb
        clear HO14_4
        have HO14_4 := Aside0.mk h_
        clear h_
        have h_ := Kd.R_below HO17_0.out hb
        clear HO17_0
        have HO17_0 := Aside0.mk h_
        clear h_
        have h_ := Kd.R_below HO17_1.out hb
        clear HO17_1
        have HO17_1 := Aside0.mk h_
        clear h_
        have h_ := Kd.R_below HO17_2.out hb
        clear HO17_2
        have HO17_2 := Aside0.mk h_
        clear h_
        have h_ := Kd.R_below HO17_3.out hb
        clear HO17_3
        have HO17_3 := Aside0.mk h_
        clear h_
        have h_ := Kd.R_below HO17_4.out hb
        clear HO17_4
        have HO17_4 := Aside0.mk h_
        clear h_
        obtain ⟨A25_0, n25_0, c25_0, rfl, hn_, hr_⟩ := Go.Proofs.YtineejdlpcgnkaaM.R_made ho0 HB.out.size
        clear hn_ ho0
        have HO25_0 := Aside0.mk hr_
        clear hr_
        obtain ⟨A25_1, n25_1, c25_1, rfl, hn_, hr_⟩ := Go.Proofs.YtineejdlpcgnkaaM.R_made ho1 HB.out.size
        clear hn_ ho1
        have HO25_1 := Aside0.mk hr_
        clear hr_
        obtain ⟨A25_2, n25_2, c25_2, rfl, hn_, hr_⟩ := Go.Proofs.YtineejdlpcgnkaaM.R_made ho2 HB.out.size
        clear hn_ ho2
        have HO25_2 := Aside0.mk hr_
        clear hr_
        obtain ⟨A25_3, n25_3, c25_3, rfl, hn_, hr_⟩ := Go.Proofs.YtineejdlpcgnkaaM.R_made ho3 HB.out.size
        clear hn_ ho3
        have HO25_3 := Aside0.mk hr_
        clear hr_
        obtain ⟨A25_4, n25_4, c25_4, rfl, hn_, hr_⟩ := Go.Proofs.YtineejdlpcgnkaaM.R_made ho4 HB.out.size
        clear hn_ ho4
        have HO25_4 := Aside0.mk hr_
        clear hr_
        have h_ := blk_below BK1.out hb
        clear BK1 c_BK1 z_BK1
        have BK1 := Aside0.mk h_
        have c_BK1 := blk_cell h_
        have z_BK1 := blk_frozen h_
        clear h_
        have h_ := blk_below BK2.out hb
        clear BK2 c_BK2 z_BK2
        have BK2 := Aside0.mk h_
        have c_BK2 := blk_cell h_
        have z_BK2 := blk_frozen h_
        clear h_
        have h_ := blk_below BK15.out hb
        clear BK15 c_BK15 z_BK15
        have BK15 := Aside0.mk h_
        have c_BK15 := blk_cell h_
        have z_BK15 := blk_frozen h_
        clear h_
        have h_ := blk_below BK18.out hb
        clear BK18 c_BK18 z_BK18
        have BK18 := Aside0.mk h_
        have c_BK18 := blk_cell h_
        have z_BK18 := blk_frozen h_
        clear h_
        have hB_ := below_step HB.out hb
        clear HB hb
        have HB := Aside0.mk hB_
        clear hB_
        refine hK.out _ _ ⟨(blk_cell BK1.out 0).trans rfl, (blk_cell BK1.out 1).trans rfl, (blk_cell BK1.out 2).trans rfl, (blk_cell BK1.out 3).trans rfl, (blk_cell BK1.out 4).trans rfl, (blk_cell BK1.out 5).trans rfl, (blk_cell BK1.out 6).trans rfl, (blk_cell BK1.out 7).trans rfl, (blk_cell BK1.out 8).trans rfl, (blk_cell BK1.out 9).trans rfl, (blk_cell BK15.out 0).trans rfl, (blk_cell BK15.out 1).trans rfl, (blk_cell BK15.out 2).trans rfl, (blk_cell BK15.out 3).trans rfl, (blk_cell BK15.out 4).trans rfl, (blk_cell BK15.out 5).trans rfl, (blk_cell BK15.out 6).trans rfl, (blk_cell BK15.out 7).trans rfl, (blk_cell BK15.out 8).trans rfl, (blk_cell BK15.out 9).trans rfl⟩ (fun hHeld => ?_)
        clear hK K
        refine norm_ (a' := ?_) ?_ ?_
        rotate_left
        · show Act.put _ (some 37) _ = _
          simp only [Act.put, List.setIfInBounds_toArray, List.set_cons_zero, List.set_cons_succ, i64_w, i32_w]
          rfl
        refine one_ (i := 3) (N := some 38) #[true, true, true, true, false] rfl rfl (by kernel_rfl) (by decide) (fun K hK => ?_)
        have hcall := laws_eqPoint.calls k t391 t392 t393 _ _ t394 t397 _ _ t398 _ _ t401 _ _ t404 t407 _ _ t408 t434 t435 t436 _ _ t437 t440 _ _ t441 _ _ t444 _ _ t447 t450 _ _ t451 t454 W25 (Go.Proofs.YtineejdlpcgnkaaM.R_C HO14_0.out) (Go.Proofs.YtineejdlpcgnkaaM.R_len HO14_0.out) (Go.Proofs.YtineejdlpcgnkaaM.R_C HO14_1.out) (Go.Proofs.YtineejdlpcgnkaaM.R_len HO14_1.out) (Go.Proofs.YtineejdlpcgnkaaM.R_C HO14_2.out) (Go.Proofs.YtineejdlpcgnkaaM.R_len HO14_2.out) (Go.Proofs.YtineejdlpcgnkaaM.R_C HO14_3.out) (Go.Proofs.YtineejdlpcgnkaaM.R_len HO14_3.out) (Go.Proofs.YtineejdlpcgnkaaM.R_C HO14_4.out) (Go.Proofs.YtineejdlpcgnkaaM.R_len HO14_4.out) (Go.Proofs.YtineejdlpcgnkaaM.R_C HO25_0.out) (Go.Proofs.YtineejdlpcgnkaaM.R_len HO25_0.out) (Go.Proofs.YtineejdlpcgnkaaM.R_C HO25_1.out) (Go.Proofs.YtineejdlpcgnkaaM.R_len HO25_1.out) (Go.Proofs.YtineejdlpcgnkaaM.R_C HO25_2.out) (Go.Proofs.YtineejdlpcgnkaaM.R_len HO25_2.out) (Go.Proofs.YtineejdlpcgnkaaM.R_C HO25_3.out) (Go.Proofs.YtineejdlpcgnkaaM.R_len HO25_3.out) (Go.Proofs.YtineejdlpcgnkaaM.R_C HO25_4.out) (Go.Proofs.YtineejdlpcgnkaaM.R_len HO25_4.out) HM23.out
        rw [Go.Proofs.YtineejdlpcgnkaaM.R_n HO14_0.out, Go.Proofs.YtineejdlpcgnkaaM.R_n HO14_1.out, Go.Proofs.YtineejdlpcgnkaaM.R_n HO14_2.out, Go.Proofs.YtineejdlpcgnkaaM.R_n HO14_3.out, Go.Proofs.YtineejdlpcgnkaaM.R_n HO14_4.out, Go.Proofs.YtineejdlpcgnkaaM.R_n HO25_0.out, Go.Proofs.YtineejdlpcgnkaaM.R_n HO25_1.out, Go.Proofs.YtineejdlpcgnkaaM.R_n HO25_2.out, Go.Proofs.YtineejdlpcgnkaaM.R_n HO25_3.out, Go.Proofs.YtineejdlpcgnkaaM.R_n HO25_4.out] at hcall
        refine goes_ Try.func15 (by kernel_rfl) rfl #[.agg #[.int .i64 t391, .int .i64 t392, .int .i64 t393, .slice A14_0 n14_0 c14_0, .int .i64 t397, .slice A14_1 n14_1 c14_1, .slice A14_2 n14_2 c14_2, .slice A14_3 n14_3 c14_3, .int .i64 t407, .slice A14_4 n14_4 c14_4], .agg #[.int .i64 t434, .int .i64 t435, .int .i64 t436, .slice A25_0 n25_0 c25_0, .int .i64 t440, .slice A25_1 n25_1 c25_1, .slice A25_2 n25_2 c25_2, .slice A25_3 n25_3 c25_3, .int .i64 t450, .slice A25_4 n25_4 c25_4]] (by rfl) rfl rfl (by (try simp only [List.map_toArray, List.map_cons, List.map_nil]); first | done | rfl) ?_
        refine hcall.mono ?_
        rintro e W26 ⟨rfl, hb⟩
        refine ⟨_, rfl, ?_⟩
        clear hcall
        have Z26 := Aside0.mk hb.size
        have h_ := Kd.R_below HO11_0.out hb
        clear HO11_0
        have HO11_0 := Aside0.mk h_
        clear h_
        have h_ := Kd.R_below HO11_1.out hb
        clear HO11_1
        have HO11_1 := Aside0.mk h_
        clear h_
        have h_ := Kd.R_below HO11_2.out hb
        clear HO11_2
        have HO11_2 := Aside0.mk h_
        clear h_
        have h_ := Kd.R_below HO11_3.out hb
        clear HO11_3
        have HO11_3 := Aside0.mk h_
        clear h_
        have h_ := Kd.R_below HO11_4.out hb
        clear HO11_4
        have HO11_4 := Aside0.mk h_
        clear h_
        have h_ := Kd.R_below HO12_0.out hb
        clear HO12_0
        have HO12_0 := Aside0.mk h_
        clear h_
        have h_ := Kd.R_below HO12_1.out hb
        clear HO12_1
        have HO12_1 := Aside0.mk h_
        clear h_
        have h_ := Kd.R_below HO12_2.out hb
        clear HO12_2
        have HO12_2 := Aside0.mk h_
        clear h_
        have h_ := Kd.R_below HO12_3.out hb
        clear HO12_3
        have HO12_3 := Aside0.mk h_
        clear h_
        have h_ := Kd.R_below HO12_4.out hb
        clear HO12_4
        have HO12_4 := Aside0.mk h_
        clear h_
        have h_ := Kd.R_below HO14_0.out hb
        clear HO14_0
        have HO14_0 := Aside0.mk h_
        clear h_
        have h_ := Kd.R_below HO14_1.out hb
        clear HO14_1
        have HO14_1 := Aside0.mk h_
        clear h_
        have h_ := Kd.R_below HO14_2.out hb
        clear HO14_2
        have HO14_2 := Aside0.mk h_
        clear h_
        have h_ := Kd.R_below HO14_3.out hb
        clear HO14_3
        have HO14_3 := Aside0.mk h_
        clear h_
        have h_ := Kd.R_below HO14_4.out hb
        clear HO14_4
        have HO14_4 := Aside0.mk h_
        clear h_
        have h_ := Kd.R_below HO17_0.out hb
        clear HO17_0
        have HO17_0 := Aside0.mk h_
        clear h_
        have h_ := Kd.R_below HO17_1.out hb
        clear HO17_1
        have HO17_1 := Aside0.mk h_
        clear h_
        have h_ := Kd.R_below HO17_2.out hb
        clear HO17_2
        have HO17_2 := Aside0.mk h_
        clear h_
        have h_ := Kd.R_below HO17_3.out hb
        clear HO17_3
        have HO17_3 := Aside0.mk h_
        clear h_
        have h_ := Kd.R_below HO17_4.out hb
        clear HO17_4
        have HO17_4 := Aside0.mk h_
        clear h_
        have h_ := Kd.R_below HO25_0.out hb
        clear HO25_0
        have HO25_0 := Aside0.mk h_
        clear h_
        have h_ := Kd.R_below HO25_1.out hb
        clear HO25_1
        have HO25_1 := Aside0.mk h_
        clear h_
        have h_ := Kd.R_below HO25_2.out hb
        clear HO25_2
        have HO25_2 := Aside0.mk h_
        clear h_
        have h_ := Kd.R_below HO25_3.out hb
        clear HO25_3
        have HO25_3 := Aside0.mk h_
        clear h_
        have h_ := Kd.R_below HO25_4.out hb
        clear HO25_4
        have HO25_4 := Aside0.mk h_
        clear h_
        have h_ := blk_below BK1.out hb
        clear BK1 c_BK1 z_BK1
        have BK1 := Aside0.mk h_
        have c_BK1 := blk_cell h_
        have z_BK1 := blk_frozen h_
        clear h_
        have h_ := blk_below BK2.out hb
        clear BK2 c_BK2 z_BK2
        have BK2 := Aside0.mk h_
        have c_BK2 := blk_cell h_
        have z_BK2 := blk_frozen h_
        clear h_
        have h_ := blk_below BK15.out hb
        clear BK15 c_BK15 z_BK15
        have BK15 := Aside0.mk h_
        have c_BK15 := blk_cell h_
        have z_BK15 := blk_frozen h_
        clear h_
        have h_ := blk_below BK18.out hb
        clear BK18 c_BK18 z_BK18
        have BK18 := Aside0.mk h_
        have c_BK18 := blk_cell h_
        have z_BK18 := blk_frozen h_
        clear h_
        have hB_ := below_step HB.out hb
        clear HB hb
        have HB := Aside0.mk hB_
        clear hB_
        refine hK.out _ _ ⟨(blk_cell BK1.out 0).trans rfl, (blk_cell BK1.out 1).trans rfl, (blk_cell BK1.out 2).trans rfl, (blk_cell BK1.out 3).trans rfl, (blk_cell BK1.out 4).trans rfl, (blk_cell BK1.out 5).trans rfl, (blk_cell BK1.out 6).trans rfl, (blk_cell BK1.out 7).trans rfl, (blk_cell BK1.out 8).trans rfl, (blk_cell BK1.out 9).trans rfl, (blk_cell BK15.out 0).trans rfl, (blk_cell BK15.out 1).trans rfl, (blk_cell BK15.out 2).trans rfl, (blk_cell BK15.out 3).trans rfl, (blk_cell BK15.out 4).trans rfl, (blk_cell BK15.out 5).trans rfl, (blk_cell BK15.out 6).trans rfl, (blk_cell BK15.out 7).trans rfl, (blk_cell BK15.out 8).trans rfl, (blk_cell BK15.out 9).trans rfl⟩ (fun hHeld => ?_)
        clear hK K
        refine norm_ (a' := ?_) ?_ ?_
        rotate_left
        · show Act.put _ (some 38) _ = _
          simp only [Act.put, List.setIfInBounds_toArray, List.set_cons_zero, List.set_cons_succ, i64_w, i32_w]
          rfl
        refine pure_ (i := 4) (N := some 39) (v := ?_) (a' := ?_) #[true, true, true, true, true] rfl rfl (by kernel_rfl) (fun _ _ _ h => h) (Or.inl ⟨by rfl, ?_⟩) ?_ ?_
        rotate_left
        · intro w'
          go_simp
          with_reducible rfl
        rotate_left
        · simp only [Act.put, List.setIfInBounds_toArray, List.set_cons_zero, List.set_cons_succ, i64_w, i32_w]
          rfl
        refine done_ (by kernel_rfl) ?_
        clear hHeld
        have H := H'.out
        clear H'
        by_cases c27 : t454 = true
        · rw [if_pos c27] at H
          subst c27
          replace H := Option.bind_eq_some_iff.mp H
          obtain ⟨⟨t455, t456, t457, t458, t461, t462, t465, t468, t471, t472⟩, hm, H⟩ := H
          try dsimp only at H
          have HM28 := Aside0.mk hm
          clear hm
          replace H := Option.bind_eq_some_iff.mp H
          obtain ⟨t475, hm, H⟩ := H
          try dsimp only at H
          have HM29 := Aside0.mk hm
          clear hm
          have H' := Aside0.mk H
          clear H
          try go_wp2
          have h_ := Kd.R_drew HO11_0.out
          clear HO11_0
          have HO11_0 := Aside0.mk h_
          clear h_
          have h_ := Kd.R_drew HO11_1.out
          clear HO11_1
          have HO11_1 := Aside0.mk h_
          clear h_
          have h_ := Kd.R_drew HO11_2.out
          clear HO11_2
          have HO11_2 := Aside0.mk h_
          clear h_
          have h_ := Kd.R_drew HO11_3.out
          clear HO11_3
          have HO11_3 := Aside0.mk h_
          clear h_
          have h_ := Kd.R_drew HO11_4.out
          clear HO11_4
          have HO11_4 := Aside0.mk h_
          clear h_
          have h_ := Kd.R_drew HO12_0.out
          clear HO12_0
          have HO12_0 := Aside0.mk h_
          clear h_
          have h_ := Kd.R_drew HO12_1.out
          clear HO12_1
          have HO12_1 := Aside0.mk h_
          clear h_
          have h_ := Kd.R_drew HO12_2.out
          clear HO12_2
          have HO12_2 := Aside0.mk h_
          clear h_
          have h_ := Kd.R_drew HO12_3.out
          clear HO12_3
          have HO12_3 := Aside0.mk h_
          clear h_
          have h_ := Kd.R_drew HO12_4.out
          clear HO12_4
          have HO12_4 := Aside0.mk h_
          clear h_
          have h_ := Kd.R_drew HO14_0.out
          clear HO14_0
          have HO14_0 := Aside0.mk h_
          clear h_
          have h_ := Kd.R_drew HO14_1.out
          clear HO14_1
          have HO14_1 := Aside0.mk h_
          clear h_
          have h_ := Kd.R_drew HO14_2.out
          clear HO14_2
          have HO14_2 := Aside0.mk h_
          clear h_
          have h_ := Kd.R_drew HO14_3.out
          clear HO14_3
          have HO14_3 := Aside0.mk h_
          clear h_
          have h_ := Kd.R_drew HO14_4.out
          clear HO14_4
          have HO14_4 := Aside0.mk h_
          clear h_
          have h_ := Kd.R_drew HO17_0.out
          clear HO17_0
          have HO17_0 := Aside0.mk h_
          clear h_
          have h_ := Kd.R_drew HO17_1.out
          clear HO17_1
          have HO17_1 := Aside0.mk h_
          clear h_
          have h_ := Kd.R_drew HO17_2.out
          clear HO17_2
          have HO17_2 := Aside0.mk h_
          clear h_
          have h_ := Kd.R_drew HO17_3.out
          clear HO17_3
          have HO17_3 := Aside0.mk h_
          clear h_
          have h_ := Kd.R_drew HO17_4.out
          clear HO17_4
          have HO17_4 := Aside0.mk h_
          clear h_
          have h_ := Kd.R_drew HO25_0.out
          clear HO25_0
          have HO25_0 := Aside0.mk h_
          clear h_
          have h_ := Kd.R_drew HO25_1.out
          clear HO25_1
          have HO25_1 := Aside0.mk h_
          clear h_
          have h_ := Kd.R_drew HO25_2.out
          clear HO25_2
          have HO25_2 := Aside0.mk h_
          clear h_
          have h_ := Kd.R_drew HO25_3.out
          clear HO25_3
          have HO25_3 := Aside0.mk h_
          clear h_
          have h_ := Kd.R_drew HO25_4.out
          clear HO25_4
          have HO25_4 := Aside0.mk h_
          clear h_
          have h_ := blk_drew BK1.out
          clear BK1 c_BK1 z_BK1
          have BK1 := Aside0.mk h_
          clear h_
          have h_ := blk_drew BK2.out
          clear BK2 c_BK2 z_BK2
          have BK2 := Aside0.mk h_
          clear h_
          have h_ := blk_drew BK15.out
          clear BK15 c_BK15 z_BK15
          have BK15 := Aside0.mk h_
          clear h_
          have h_ := blk_drew BK18.out
          clear BK18 c_BK18 z_BK18
          have BK18 := Aside0.mk h_
          clear h_
          have hB_ := below_drew1 HB.out
          clear HB
          have HB := Aside0.mk hB_
          clear hB_
          have Z30 : Aside0 (W26.heap.size ≤ W26.drew.heap.size) := ⟨Nat.le_refl _⟩
          refine start_ (n := 5) (S := fun w' => w'.cell? ⟨gb2, 0, none⟩ = some (.int .i64 a1_0) ∧ w'.cell? ⟨gb2, 1, none⟩ = some (.int .i64 a1_1) ∧ w'.cell? ⟨gb2, 2, none⟩ = some (.int .i64 a1_2) ∧ w'.cell? ⟨gb2, 3, none⟩ = some (.slice A1_3 l1_3.length c1_3) ∧ w'.cell? ⟨gb2, 4, none⟩ = some (.int .i64 a1_4) ∧ w'.cell? ⟨gb2, 5, none⟩ = some (.slice A1_5 l1_5.length c1_5) ∧ w'.cell? ⟨gb2, 6, none⟩ = some (.slice A1_6 l1_6.length c1_6) ∧ w'.cell? ⟨gb2, 7, none⟩ = some (.slice A1_7 l1_7.length c1_7) ∧ w'.cell? ⟨gb2, 8, none⟩ = some (.int .i64 a1_8) ∧ w'.cell? ⟨gb2, 9, none⟩ = some (.slice A1_9 l1_9.length c1_9) ∧ w'.cell? ⟨gb18, 0, none⟩ = some (.int .i64 t412) ∧ w'.cell? ⟨gb18, 1, none⟩ = some (.int .i64 t413) ∧ w'.cell? ⟨gb18, 2, none⟩ = some (.int .i64 t414) ∧ w'.cell? ⟨gb18, 3, none⟩ = some (.slice A17_0 n17_0 c17_0) ∧ w'.cell? ⟨gb18, 4, none⟩ = some (.int .i64 t418) ∧ w'.cell? ⟨gb18, 5, none⟩ = some (.slice A17_1 n17_1 c17_1) ∧ w'.cell? ⟨gb18, 6, none⟩ = some (.slice A17_2 n17_2 c17_2) ∧ w'.cell? ⟨gb18, 7, none⟩ = some (.slice A17_3 n17_3 c17_3) ∧ w'.cell? ⟨gb18, 8, none⟩ = some (.int .i64 t428) ∧ w'.cell? ⟨gb18, 9, none⟩ = some (.slice A17_4 n17_4 c17_4)) (ds := []) #[false, false, false, false, false] (by kernel_rfl) rfl rfl ⟨(blk_cell BK2.out 0).trans rfl, (blk_cell BK2.out 1).trans rfl, (blk_cell BK2.out 2).trans rfl, (blk_cell BK2.out 3).trans rfl, (blk_cell BK2.out 4).trans rfl, (blk_cell BK2.out 5).trans rfl, (blk_cell BK2.out 6).trans rfl, (blk_cell BK2.out 7).trans rfl, (blk_cell BK2.out 8).trans rfl, (blk_cell BK2.out 9).trans rfl, (blk_cell BK18.out 0).trans rfl, (blk_cell BK18.out 1).trans rfl, (blk_cell BK18.out 2).trans rfl, (blk_cell BK18.out 3).trans rfl, (blk_cell BK18.out 4).trans rfl, (blk_cell BK18.out 5).trans rfl, (blk_cell BK18.out 6).trans rfl, (blk_cell BK18.out 7).trans rfl, (blk_cell BK18.out 8).trans rfl, (blk_cell BK18.out 9).trans rfl⟩ (fun hHeld => ?_)
          generalize W26.drew = W30 at Z30 HB BK1 BK2 BK15 BK18 HO11_0 HO11_1 HO11_2 HO11_3 HO11_4 HO12_0 HO12_1 HO12_2 HO12_3 HO12_4 HO14_0 HO14_1 HO14_2 HO14_3 HO14_4 HO17_0 HO17_1 HO17_2 HO17_3 HO17_4 HO25_0 HO25_1 HO25_2 HO25_3 HO25_4 hHeld ⊢
          have c_BK1 := blk_cell BK1.out
          have z_BK1 := blk_frozen BK1.out
          have c_BK2 := blk_cell BK2.out
          have z_BK2 := blk_frozen BK2.out
          have c_BK15 := blk_cell BK15.out
          have z_BK15 := blk_frozen BK15.out
          have c_BK18 := blk_cell BK18.out
          have z_BK18 := blk_frozen BK18.out
          refine take_ (i := 0) (N := some 40) (v := ?_) (a' := ?_) #[true, false, false, false, false] rfl rfl (by kernel_rfl) (fun _ _ _ h => h) (Or.inl ⟨by rfl, ?_⟩) hHeld ?_ ?_
          rotate_left
          · rintro w' ⟨s0, s1, s2, s3, s4, s5, s6, s7, s8, s9, s10, s11, s12, s13, s14, s15, s16, s17, s18, s19⟩
            go_simp
            with_reducible rfl
          rotate_left
          · simp only [Act.put, List.setIfInBounds_toArray, List.set_cons_zero, List.set_cons_succ, i64_w, i32_w]
            rfl
          refine take_ (i := 1) (N := some 41) (v := ?_) (a' := ?_) #[true, true, false, false, false] rfl rfl (by kernel_rfl) (fun _ _ _ h => h) (Or.inl ⟨by rfl, ?_⟩) hHeld ?_ ?_
          rotate_left
          · rintro w' ⟨s0, s1, s2, s3, s4, s5, s6, s7, s8, s9, s10, s11, s12, s13, s14, s15, s16, s17, s18, s19⟩
            go_simp
            with_reducible rfl
          rotate_left
          · simp only [Act.put, List.setIfInBounds_toArray, List.set_cons_zero, List.set_cons_succ, i64_w, i32_w]
            rfl
          refine one_ (i := 2) (N := some 42) #[true, true, true, false, false] rfl rfl (by kernel_rfl) (by decide) (fun K hK => ?_)
          have hcall := laws_toPoint.calls k a1_0 a1_1 a1_2 _ _ l1_3 a1_4 _ _ l1_5 _ _ l1_6 _ _ l1_7 a1_8 _ _ l1_9 t455 t456 t457 t458 t461 t462 t465 t468 t471 t472 W30 (Kd.C_below HR1_3.out HB.out) HC1_3.out (Kd.C_below HR1_5.out HB.out) HC1_5.out (Kd.C_below HR1_6.out HB.out) HC1_6.out (Kd.C_below HR1_7.out HB.out) HC1_7.out (Kd.C_below HR1_9.out HB.out) HC1_9.out HM28.out
          refine goes_ Try.func13 (by kernel_rfl) rfl #[.agg #[.int .i64 a1_0, .int .i64 a1_1, .int .i64 a1_2, .slice A1_3 l1_3.length c1_3, .int .i64 a1_4, .slice A1_5 l1_5.length c1_5, .slice A1_6 l1_6.length c1_6, .slice A1_7 l1_7.length c1_7, .int .i64 a1_8, .slice A1_9 l1_9.length c1_9]] (by rfl) rfl rfl (by (try simp only [List.map_toArray, List.map_cons, List.map_nil]); first | done | rfl) ?_
          refine hcall.mono ?_
          rintro e W31 ⟨v459, v463, v466, v469, v473, rfl, ho0, ho1, ho2, ho3, ho4, hb⟩
          refine ⟨_, rfl, ?_⟩
          clear hcall
          have Z31 := Aside0.mk hb.size
          have h_ := Kd.R_below HO11_0.out hb
          clear HO11_0
          have HO11_0 := Aside0.mk h_
          clear h_
          have h_ := Kd.R_below HO11_1.out hb
          clear HO11_1
          have HO11_1 := Aside0.mk h_
          clear h_
          have h_ := Kd.R_below HO11_2.out hb
          clear HO11_2
          have HO11_2 := Aside0.mk h_
          clear h_
          have h_ := Kd.R_below HO11_3.out hb
          clear HO11_3
          have HO11_3 := Aside0.mk h_
          clear h_
          have h_ := Kd.R_below HO11_4.out hb
          clear HO11_4
          have HO11_4 := Aside0.mk h_
          clear h_
          have h_ := Kd.R_below HO12_0.out hb
          clear HO12_0
          have HO12_0 := Aside0.mk h_
          clear h_
          have h_ := Kd.R_below HO12_1.out hb
          clear HO12_1
          have HO12_1 := Aside0.mk h_
          clear h_
          have h_ := Kd.R_below HO12_2.out hb
          clear HO12_2
          have HO12_2 := Aside0.mk h_
          clear h_
          have h_ := Kd.R_below HO12_3.out hb
          clear HO12_3
          have HO12_3 := Aside0.mk h_
          clear h_
          have h_ := Kd.R_below HO12_4.out hb
          clear HO12_4
          have HO12_4 := Aside0.mk h_
          clear h_
          have h_ := Kd.R_below HO14_0.out hb
          clear HO14_0
          have HO14_0 := Aside0.mk h_
          clear h_
          have h_ := Kd.R_below HO14_1.out hb
          clear HO14_1
          have HO14_1 := Aside0.mk h_
          clear h_
          have h_ := Kd.R_below HO14_2.out hb
          clear HO14_2
          have HO14_2 := Aside0.mk h_
          clear h_
          have h_ := Kd.R_below HO14_3.out hb
          clear HO14_3
          have HO14_3 := Aside0.mk h_
          clear h_
          have h_ := Kd.R_below HO14_4.out hb
          clear HO14_4
          have HO14_4 := Aside0.mk h_
          clear h_
          have h_ := Kd.R_below HO17_0.out hb
          clear HO17_0
          have HO17_0 := Aside0.mk h_
          clear h_
          have h_ := Kd.R_below HO17_1.out hb
          clear HO17_1
          have HO17_1 := Aside0.mk h_
          clear h_
          have h_ := Kd.R_below HO17_2.out hb
          clear HO17_2
          have HO17_2 := Aside0.mk h_
          clear h_
          have h_ := Kd.R_below HO17_3.out hb
          clear HO17_3
          have HO17_3 := Aside0.mk h_
          clear h_
          have h_ := Kd.R_below HO17_4.out hb
          clear HO17_4
          have HO17_4 := Aside0.mk h_
          clear h_
          have h_ := Kd.R_below HO25_0.out hb
          clear HO25_0
          have HO25_0 := Aside0.mk h_
          clear h_
          have h_ := Kd.R_below HO25_1.out hb
          clear HO25_1
          have HO25_1 := Aside0.mk h_
          clear h_
          have h_ := Kd.R_below HO25_2.out hb
          clear HO25_2
          have HO25_2 := Aside0.mk h_
          clear h_
          have h_ := Kd.R_below HO25_3.out hb
          clear HO25_3
          have HO25_3 := Aside0.mk h_
          clear h_
          have h_ := Kd.R_below HO25_4.out hb
          clear HO25_4
          have HO25_4 := Aside0.mk h_
          clear h_
          obtain ⟨A31_0, n31_0, c31_0, rfl, hn_, hr_⟩ := Go.Proofs.YtineejdlpcgnkaaM.R_made ho0 HB.out.size
          clear hn_ ho0
          have HO31_0 := Aside0.mk hr_
          clear hr_
          obtain ⟨A31_1, n31_1, c31_1, rfl, hn_, hr_⟩ := Go.Proofs.YtineejdlpcgnkaaM.R_made ho1 HB.out.size
          clear hn_ ho1
          have HO31_1 := Aside0.mk hr_
          clear hr_
          obtain ⟨A31_2, n31_2, c31_2, rfl, hn_, hr_⟩ := Go.Proofs.YtineejdlpcgnkaaM.R_made ho2 HB.out.size
          clear hn_ ho2
          have HO31_2 := Aside0.mk hr_
          clear hr_
          obtain ⟨A31_3, n31_3, c31_3, rfl, hn_, hr_⟩ := Go.Proofs.YtineejdlpcgnkaaM.R_made ho3 HB.out.size
          clear hn_ ho3
          have HO31_3 := Aside0.mk hr_
          clear hr_
          obtain ⟨A31_4, n31_4, c31_4, rfl, hn_, hr_⟩ := Go.Proofs.YtineejdlpcgnkaaM.R_made ho4 HB.out.size
          clear hn_ ho4
          have HO31_4 := Aside0.mk hr_
          clear hr_
          have h_ := blk_below BK1.out hb
          clear BK1 c_BK1 z_BK1
          have BK1 := Aside0.mk h_
          have c_BK1 := blk_cell h_
          have z_BK1 := blk_frozen h_
          clear h_
          have h_ := blk_below BK2.out hb
          clear BK2 c_BK2 z_BK2
          have BK2 := Aside0.mk h_
          have c_BK2 := blk_cell h_
          have z_BK2 := blk_frozen h_
          clear h_
          have h_ := blk_below BK15.out hb
          clear BK15 c_BK15 z_BK15
          have BK15 := Aside0.mk h_
          have c_BK15 := blk_cell h_
          have z_BK15 := blk_frozen h_
          clear h_
          have h_ := blk_below BK18.out hb
          clear BK18 c_BK18 z_BK18
          have BK18 := Aside0.mk h_
          have c_BK18 := blk_cell h_
          have z_BK18 := blk_frozen h_
          clear h_
          have hB_ := below_step HB.out hb
          clear HB hb
          have HB := Aside0.mk hB_
          clear hB_
          refine hK.out _ _ ⟨(blk_cell BK2.out 0).trans rfl, (blk_cell BK2.out 1).trans rfl, (blk_cell BK2.out 2).trans rfl, (blk_cell BK2.out 3).trans rfl, (blk_cell BK2.out 4).trans rfl, (blk_cell BK2.out 5).trans rfl, (blk_cell BK2.out 6).trans rfl, (blk_cell BK2.out 7).trans rfl, (blk_cell BK2.out 8).trans rfl, (blk_cell BK2.out 9).trans rfl, (blk_cell BK18.out 0).trans rfl, (blk_cell BK18.out 1).trans rfl, (blk_cell BK18.out 2).trans rfl, (blk_cell BK18.out 3).trans rfl, (blk_cell BK18.out 4).trans rfl, (blk_cell BK18.out 5).trans rfl, (blk_cell BK18.out 6).trans rfl, (blk_cell BK18.out 7).trans rfl, (blk_cell BK18.out 8).trans rfl, (blk_cell BK18.out 9).trans rfl⟩ (fun hHeld => ?_)
          clear hK K
          refine norm_ (a' := ?_) ?_ ?_
          rotate_left
          · show Act.put _ (some 42) _ = _
            simp only [Act.put, List.setIfInBounds_toArray, List.set_cons_zero, List.set_cons_succ, i64_w, i32_w]
            rfl
          refine one_ (i := 3) (N := some 43) #[true, true, true, true, false] rfl rfl (by kernel_rfl) (by decide) (fun K hK => ?_)
          have hcall := laws_eqPoint.calls k t412 t413 t414 _ _ t415 t418 _ _ t419 _ _ t422 _ _ t425 t428 _ _ t429 t455 t456 t457 _ _ t458 t461 _ _ t462 _ _ t465 _ _ t468 t471 _ _ t472 t475 W31 (Go.Proofs.YtineejdlpcgnkaaM.R_C HO17_0.out) (Go.Proofs.YtineejdlpcgnkaaM.R_len HO17_0.out) (Go.Proofs.YtineejdlpcgnkaaM.R_C HO17_1.out) (Go.Proofs.YtineejdlpcgnkaaM.R_len HO17_1.out) (Go.Proofs.YtineejdlpcgnkaaM.R_C HO17_2.out) (Go.Proofs.YtineejdlpcgnkaaM.R_len HO17_2.out) (Go.Proofs.YtineejdlpcgnkaaM.R_C HO17_3.out) (Go.Proofs.YtineejdlpcgnkaaM.R_len HO17_3.out) (Go.Proofs.YtineejdlpcgnkaaM.R_C HO17_4.out) (Go.Proofs.YtineejdlpcgnkaaM.R_len HO17_4.out) (Go.Proofs.YtineejdlpcgnkaaM.R_C HO31_0.out) (Go.Proofs.YtineejdlpcgnkaaM.R_len HO31_0.out) (Go.Proofs.YtineejdlpcgnkaaM.R_C HO31_1.out) (Go.Proofs.YtineejdlpcgnkaaM.R_len HO31_1.out) (Go.Proofs.YtineejdlpcgnkaaM.R_C HO31_2.out) (Go.Proofs.YtineejdlpcgnkaaM.R_len HO31_2.out) (Go.Proofs.YtineejdlpcgnkaaM.R_C HO31_3.out) (Go.Proofs.YtineejdlpcgnkaaM.R_len HO31_3.out) (Go.Proofs.YtineejdlpcgnkaaM.R_C HO31_4.out) (Go.Proofs.YtineejdlpcgnkaaM.R_len HO31_4.out) HM29.out
          rw [Go.Proofs.YtineejdlpcgnkaaM.R_n HO17_0.out, Go.Proofs.YtineejdlpcgnkaaM.R_n HO17_1.out, Go.Proofs.YtineejdlpcgnkaaM.R_n HO17_2.out, Go.Proofs.YtineejdlpcgnkaaM.R_n HO17_3.out, Go.Proofs.YtineejdlpcgnkaaM.R_n HO17_4.out, Go.Proofs.YtineejdlpcgnkaaM.R_n HO31_0.out, Go.Proofs.YtineejdlpcgnkaaM.R_n HO31_1.out, Go.Proofs.YtineejdlpcgnkaaM.R_n HO31_2.out, Go.Proofs.YtineejdlpcgnkaaM.R_n HO31_3.out, Go.Proofs.YtineejdlpcgnkaaM.R_n HO31_4.out] at hcall
          refine goes_ Try.func15 (by kernel_rfl) rfl #[.agg #[.int .i64 t412, .int .i64 t413, .int .i64 t414, .slice A17_0 n17_0 c17_0, .int .i64 t418, .slice A17_1 n17_1 c17_1, .slice A17_2 n17_2 c17_2, .slice A17_3 n17_3 c17_3, .int .i64 t428, .slice A17_4 n17_4 c17_4], .agg #[.int .i64 t455, .int .i64 t456, .int .i64 t457, .slice A31_0 n31_0 c31_0, .int .i64 t461, .slice A31_1 n31_1 c31_1, .slice A31_2 n31_2 c31_2, .slice A31_3 n31_3 c31_3, .int .i64 t471, .slice A31_4 n31_4 c31_4]] (by rfl) rfl rfl (by (try simp only [List.map_toArray, List.map_cons, List.map_nil]); first | done | rfl) ?_
          refine hcall.mono ?_
          rintro e W32 ⟨rfl, hb⟩
          refine ⟨_, rfl, ?_⟩
          clear hcall
          have Z32 := Aside0.mk hb.size
          have h_ := Kd.R_below HO11_0.out hb
          clear HO11_0
          have HO11_0 := Aside0.mk h_
          clear h_
          have h_ := Kd.R_below HO11_1.out hb
          clear HO11_1
          have HO11_1 := Aside0.mk h_
          clear h_
          have h_ := Kd.R_below HO11_2.out hb
          clear HO11_2
          have HO11_2 := Aside0.mk h_
          clear h_
          have h_ := Kd.R_below HO11_3.out hb
          clear HO11_3
          have HO11_3 := Aside0.mk h_
          clear h_
          have h_ := Kd.R_below HO11_4.out hb
          clear HO11_4
          have HO11_4 := Aside0.mk h_
          clear h_
          have h_ := Kd.R_below HO12_0.out hb
          clear HO12_0
          have HO12_0 := Aside0.mk h_
          clear h_
          have h_ := Kd.R_below HO12_1.out hb
          clear HO12_1
          have HO12_1 := Aside0.mk h_
          clear h_
          have h_ := Kd.R_below HO12_2.out hb
          clear HO12_2
          have HO12_2 := Aside0.mk h_
          clear h_
          have h_ := Kd.R_below HO12_3.out hb
          clear HO12_3
          have HO12_3 := Aside0.mk h_
          clear h_
          have h_ := Kd.R_below HO12_4.out hb
          clear HO12_4
          have HO12_4 := Aside0.mk h_
          clear h_
          have h_ := Kd.R_below HO14_0.out hb
          clear HO14_0
          have HO14_0 := Aside0.mk h_
          clear h_
          have h_ := Kd.R_below HO14_1.out hb
          clear HO14_1
          have HO14_1 := Aside0.mk h_
          clear h_
          have h_ := Kd.R_below HO14_2.out hb
          clear HO14_2
          have HO14_2 := Aside0.mk h_
          clear h_
          have h_ := Kd.R_below HO14_3.out hb
          clear HO14_3
          have HO14_3 := Aside0.mk h_
          clear h_
          have h_ := Kd.R_below HO14_4.out hb
          clear HO14_4
          have HO14_4 := Aside0.mk h_
          clear h_
          have h_ := Kd.R_below HO17_0.out hb
          clear HO17_0
          have HO17_0 := Aside0.mk h_
          clear h_
          have h_ := Kd.R_below HO17_1.out hb
          clear HO17_1
          have HO17_1 := Aside0.mk h_
          clear h_
          have h_ := Kd.R_below HO17_2.out hb
          clear HO17_2
          have HO17_2 := Aside0.mk h_
          clear h_
          have h_ := Kd.R_below HO17_3.out hb
          clear HO17_3
          have HO17_3 := Aside0.mk h_
          clear h_
          have h_ := Kd.R_below HO17_4.out hb
          clear HO17_4
          have HO17_4 := Aside0.mk h_
          clear h_
          have h_ := Kd.R_below HO25_0.out hb
          clear HO25_0
          have HO25_0 := Aside0.mk h_
          clear h_
          have h_ := Kd.R_below HO25_1.out hb
          clear HO25_1
          have HO25_1 := Aside0.mk h_
          clear h_
          have h_ := Kd.R_below HO25_2.out hb
          clear HO25_2
          have HO25_2 := Aside0.mk h_
          clear h_
          have h_ := Kd.R_below HO25_3.out hb
          clear HO25_3
          have HO25_3 := Aside0.mk h_
          clear h_
          have h_ := Kd.R_below HO25_4.out hb
          clear HO25_4
          have HO25_4 := Aside0.mk h_
          clear h_
          have h_ := Kd.R_below HO31_0.out hb
          clear HO31_0
          have HO31_0 := Aside0.mk h_
          clear h_
          have h_ := Kd.R_below HO31_1.out hb
          clear HO31_1
          have HO31_1 := Aside0.mk h_
          clear h_
          have h_ := Kd.R_below HO31_2.out hb
          clear HO31_2
          have HO31_2 := Aside0.mk h_
          clear h_
          have h_ := Kd.R_below HO31_3.out hb
          clear HO31_3
          have HO31_3 := Aside0.mk h_
          clear h_
          have h_ := Kd.R_below HO31_4.out hb
          clear HO31_4
          have HO31_4 := Aside0.mk h_
          clear h_
          have h_ := blk_below BK1.out hb
          clear BK1 c_BK1 z_BK1
          have BK1 := Aside0.mk h_
          have c_BK1 := blk_cell h_
          have z_BK1 := blk_frozen h_
          clear h_
          have h_ := blk_below BK2.out hb
          clear BK2 c_BK2 z_BK2
          have BK2 := Aside0.mk h_
          have c_BK2 := blk_cell h_
          have z_BK2 := blk_frozen h_
          clear h_
          have h_ := blk_below BK15.out hb
          clear BK15 c_BK15 z_BK15
          have BK15 := Aside0.mk h_
          have c_BK15 := blk_cell h_
          have z_BK15 := blk_frozen h_
          clear h_
          have h_ := blk_below BK18.out hb
          clear BK18 c_BK18 z_BK18
          have BK18 := Aside0.mk h_
          have c_BK18 := blk_cell h_
          have z_BK18 := blk_frozen h_
          clear h_
          have hB_ := below_step HB.out hb
          clear HB hb
          have HB := Aside0.mk hB_
          clear hB_
          refine hK.out _ _ ⟨(blk_cell BK2.out 0).trans rfl, (blk_cell BK2.out 1).trans rfl, (blk_cell BK2.out 2).trans rfl, (blk_cell BK2.out 3).trans rfl, (blk_cell BK2.out 4).trans rfl, (blk_cell BK2.out 5).trans rfl, (blk_cell BK2.out 6).trans rfl, (blk_cell BK2.out 7).trans rfl, (blk_cell BK2.out 8).trans rfl, (blk_cell BK2.out 9).trans rfl, (blk_cell BK18.out 0).trans rfl, (blk_cell BK18.out 1).trans rfl, (blk_cell BK18.out 2).trans rfl, (blk_cell BK18.out 3).trans rfl, (blk_cell BK18.out 4).trans rfl, (blk_cell BK18.out 5).trans rfl, (blk_cell BK18.out 6).trans rfl, (blk_cell BK18.out 7).trans rfl, (blk_cell BK18.out 8).trans rfl, (blk_cell BK18.out 9).trans rfl⟩ (fun hHeld => ?_)
          clear hK K
          refine norm_ (a' := ?_) ?_ ?_
          rotate_left
          · show Act.put _ (some 43) _ = _
            simp only [Act.put, List.setIfInBounds_toArray, List.set_cons_zero, List.set_cons_succ, i64_w, i32_w]
            rfl
          refine pure_ (i := 4) (N := some 44) (v := ?_) (a' := ?_) #[true, true, true, true, true] rfl rfl (by kernel_rfl) (fun _ _ _ h => h) (Or.inl ⟨by rfl, ?_⟩) ?_ ?_
          rotate_left
          · intro w'
            go_simp
            with_reducible rfl
          rotate_left
          · simp only [Act.put, List.setIfInBounds_toArray, List.set_cons_zero, List.set_cons_succ, i64_w, i32_w]
            rfl
          refine done_ (by kernel_rfl) ?_
          clear hHeld
          have H := H'.out
          clear H'
          by_cases c33 : t475 = true
          · rw [if_pos c33] at H
            subst c33
            obtain rfl := Option.some.inj H
            clear H
            go_wp2
            go_ret
            exact ⟨rfl, HB.out⟩
          · rw [if_neg c33] at H
            replace c33 : t475 = false := by simpa using c33
            subst c33
            obtain rfl := Option.some.inj H
            clear H
            go_wp2
            go_ret
            exact ⟨rfl, HB.out⟩
        · rw [if_neg c27] at H
          replace c27 : t454 = false := by simpa using c27
          subst c27
          obtain rfl := Option.some.inj H
          clear H
          go_wp2
          go_ret
          exact ⟨rfl, HB.out⟩

section
open Go.Proofs.YtineejdlpcgnkaaO
def g164 (x : S164) : Prop := (Lit.int .i64 x.f0).wf = true ∧ (Lit.int .i64 x.f1).wf = true
theorem opens164 (n : Nat) : Opens Try.prog 164 k164 g164 n :=
  opens_imp (opens_iso (fun x : S164 => (x.f0, x.f1)) (fun x => (⟨x.1, x.2⟩ : S164)) (fun _ => rfl) (opens_struct Try.underlying164 (by kernel_rfl) fun m _ => (fields_cons rfl (by kernel_rfl) (opens_int Try.underlying3 m) (fields_one rfl (by kernel_rfl) (opens_int Try.underlying3 m))))) (fun _ h => h)
def GF183 (G : S183 → Prop) (x : S183) : Prop := (Lit.int .i64 x.f0).wf = true ∧ (Lit.int .i64 x.f1).wf = true ∧ (Lit.int .i64 x.f2).wf = true ∧ (x.f3.length ≤ maxLen ∧ ∀ y_ ∈ x.f3, G y_)
def g183 (x : S183) : Prop := ∃ k, Nat.rec (motive := fun _ => S183 → Prop) (fun _ => False) (fun _ G => GF183 G) k x
theorem gmono183 {G G' : S183 → Prop} (h : ∀ x, G x → G' x) (x : S183) (hx : GF183 G x) : GF183 G' x := by
  unfold GF183 at hx ⊢
  obtain ⟨h0, h1, h2, h3⟩ := hx
  exact ⟨h0, h1, h2, ⟨h3.1, fun y hy => h y (h3.2 y hy)⟩⟩
theorem opens183 (n : Nat) : Opens Try.prog 183 k183 g183 n :=
  opens_fix F183 4 [183] sz183 (Kd.upto_E sub183) GF183 (fun n d G hsz h => opens_imp (opens_iso (fun x : S183 => (x.f0, x.f1, x.f2, x.f3)) (fun x => (⟨x.1, x.2.1, x.2.2.1, x.2.2.2⟩ : S183)) (fun _ => rfl) (opens_struct Try.underlying183 (by first | (rw [show (Kd.pair _ _).sz = _ from rfl]; kernel_rfl) | kernel_rfl) fun m hm => have hd : Try.prog.cellsOf 183 = d.sz := (by rw [hsz]; kernel_rfl); (fields_cons rfl (by kernel_rfl) (opens_int Try.underlying3 m) (fields_cons rfl (by kernel_rfl) (opens_int Try.underlying3 m) (fields_cons rfl (by kernel_rfl) (opens_int Try.underlying3 m) (fields_one rfl (by kernel_rfl) (opens_slice Try.underlying181 hd fun m' hm' => h m' (Nat.lt_trans hm' hm)))))))) (fun _ h => h)) (fun e h => mono183.K _ _ e h) (fun h => gmono183 h) n
def g185 (x : S185) : Prop := (Lit.int .i64 x.f0).wf = true ∧ (Lit.int .i64 x.f1).wf = true ∧ (Lit.int .i64 x.f2).wf = true ∧ g183 x.f3
theorem opens185 (n : Nat) : Opens Try.prog 185 k185 g185 n :=
  opens_imp (opens_iso (fun x : S185 => (x.f0, x.f1, x.f2, x.f3)) (fun x => (⟨x.1, x.2.1, x.2.2.1, x.2.2.2⟩ : S185)) (fun _ => rfl) (opens_struct Try.underlying185 (by kernel_rfl) fun m _ => (fields_cons rfl (by kernel_rfl) (opens_int Try.underlying3 m) (fields_cons rfl (by kernel_rfl) (opens_int Try.underlying3 m) (fields_cons rfl (by kernel_rfl) (opens_int Try.underlying3 m) (fields_one rfl (by kernel_rfl) (opens183 m))))))) (fun _ h => h)
def g25 (x : S25) : Prop := (Lit.int .i64 x.f0).wf = true ∧ (x.f1.length ≤ maxLen ∧ ∀ y_ ∈ x.f1, g185 y_)
theorem opens25 (n : Nat) : Opens Try.prog 25 k25 g25 n :=
  opens_imp (opens_iso (fun x : S25 => (x.f0, x.f1)) (fun x => (⟨x.1, x.2⟩ : S25)) (fun _ => rfl) (opens_struct Try.underlying25 (by kernel_rfl) fun m _ => (fields_cons rfl (by kernel_rfl) (opens_int Try.underlying3 m) (fields_one rfl (by kernel_rfl) (opens_slice Try.underlying23 (by kernel_rfl) fun m _ => (opens185 m)))))) (fun _ h => h)
def g27 (x : S27) : Prop := (Lit.int .i64 x.f0).wf = true ∧ (Lit.int .i64 x.f1).wf = true ∧ (x.f2.length ≤ maxLen ∧ ∀ y_ ∈ x.f2, g164 y_) ∧ g25 x.f3
theorem opens27 (n : Nat) : Opens Try.prog 27 k27 g27 n :=
  opens_imp (opens_iso (fun x : S27 => (x.f0, x.f1, x.f2, x.f3)) (fun x => (⟨x.1, x.2.1, x.2.2.1, x.2.2.2⟩ : S27)) (fun _ => rfl) (opens_struct Try.underlying27 (by kernel_rfl) fun m _ => (fields_cons rfl (by kernel_rfl) (opens_int Try.underlying3 m) (fields_cons rfl (by kernel_rfl) (opens_int Try.underlying3 m) (fields_cons rfl (by kernel_rfl) (opens_slice Try.underlying22 (by kernel_rfl) fun m _ => (opens164 m)) (fields_one rfl (by kernel_rfl) (opens25 m))))))) (fun _ h => h)
def g134 (x : S134) : Prop := (Lit.int .i64 x.f0).wf = true ∧ (Lit.int .i64 x.f1).wf = true ∧ (Lit.int .i64 x.f2).wf = true ∧ (Lit.int .i64 x.f3).wf = true ∧ (Lit.int .i64 x.f4).wf = true ∧ (Lit.int .i64 x.f5).wf = true
theorem opens134 (n : Nat) : Opens Try.prog 134 k134 g134 n :=
  opens_imp (opens_iso (fun x : S134 => (x.f0, x.f1, x.f2, x.f3, x.f4, x.f5)) (fun x => (⟨x.1, x.2.1, x.2.2.1, x.2.2.2.1, x.2.2.2.2.1, x.2.2.2.2.2⟩ : S134)) (fun _ => rfl) (opens_struct Try.underlying134 (by kernel_rfl) fun m _ => (fields_cons rfl (by kernel_rfl) (opens_int Try.underlying3 m) (fields_cons rfl (by kernel_rfl) (opens_int Try.underlying3 m) (fields_cons rfl (by kernel_rfl) (opens_int Try.underlying3 m) (fields_cons rfl (by kernel_rfl) (opens_int Try.underlying3 m) (fields_cons rfl (by kernel_rfl) (opens_int Try.underlying3 m) (fields_one rfl (by kernel_rfl) (opens_int Try.underlying3 m))))))))) (fun _ h => h)
def g136 (x : S136) : Prop := (Lit.int .i64 x.f0).wf = true ∧ (Lit.int .i64 x.f1).wf = true
theorem opens136 (n : Nat) : Opens Try.prog 136 k136 g136 n :=
  opens_imp (opens_iso (fun x : S136 => (x.f0, x.f1)) (fun x => (⟨x.1, x.2⟩ : S136)) (fun _ => rfl) (opens_struct Try.underlying136 (by kernel_rfl) fun m _ => (fields_cons rfl (by kernel_rfl) (opens_int Try.underlying3 m) (fields_one rfl (by kernel_rfl) (opens_int Try.underlying3 m))))) (fun _ h => h)
def g138 (x : S138) : Prop := (Lit.int .i64 x.f0).wf = true ∧ (Lit.int .i64 x.f1).wf = true ∧ (Lit.int .i64 x.f2).wf = true ∧ (Lit.int .i64 x.f3).wf = true ∧ (Lit.int .i64 x.f4).wf = true ∧ (Lit.int .i64 x.f5).wf = true
theorem opens138 (n : Nat) : Opens Try.prog 138 k138 g138 n :=
  opens_imp (opens_iso (fun x : S138 => (x.f0, x.f1, x.f2, x.f3, x.f4, x.f5)) (fun x => (⟨x.1, x.2.1, x.2.2.1, x.2.2.2.1, x.2.2.2.2.1, x.2.2.2.2.2⟩ : S138)) (fun _ => rfl) (opens_struct Try.underlying138 (by kernel_rfl) fun m _ => (fields_cons rfl (by kernel_rfl) (opens_int Try.underlying3 m) (fields_cons rfl (by kernel_rfl) (opens_int Try.underlying3 m) (fields_cons rfl (by kernel_rfl) (opens_int Try.underlying3 m) (fields_cons rfl (by kernel_rfl) (opens_int Try.underlying3 m) (fields_cons rfl (by kernel_rfl) (opens_int Try.underlying3 m) (fields_one rfl (by kernel_rfl) (opens_int Try.underlying3 m))))))))) (fun _ h => h)
def g140 (x : S140) : Prop := g138 x.f0 ∧ (Lit.int .i64 x.f1).wf = true ∧ (Lit.int .i64 x.f2).wf = true
theorem opens140 (n : Nat) : Opens Try.prog 140 k140 g140 n :=
  opens_imp (opens_iso (fun x : S140 => (x.f0, x.f1, x.f2)) (fun x => (⟨x.1, x.2.1, x.2.2⟩ : S140)) (fun _ => rfl) (opens_struct Try.underlying140 (by kernel_rfl) fun m _ => (fields_cons rfl (by kernel_rfl) (opens138 m) (fields_cons rfl (by kernel_rfl) (opens_int Try.underlying3 m) (fields_one rfl (by kernel_rfl) (opens_int Try.underlying3 m)))))) (fun _ h => h)
def g32 (x : S32) : Prop := (Lit.int .i64 x.f0).wf = true ∧ g27 x.f1 ∧ (x.f2.length ≤ maxLen ∧ ∀ y_ ∈ x.f2, g134 y_) ∧ (x.f3.length ≤ maxLen ∧ ∀ y_ ∈ x.f3, g136 y_) ∧ (Lit.int .i64 x.f4).wf = true ∧ (x.f5.length ≤ maxLen ∧ ∀ y_ ∈ x.f5, g140 y_)
theorem opens32 (n : Nat) : Opens Try.prog 32 k32 g32 n :=
  opens_imp (opens_iso (fun x : S32 => (x.f0, x.f1, x.f2, x.f3, x.f4, x.f5)) (fun x => (⟨x.1, x.2.1, x.2.2.1, x.2.2.2.1, x.2.2.2.2.1, x.2.2.2.2.2⟩ : S32)) (fun _ => rfl) (opens_struct Try.underlying32 (by kernel_rfl) fun m _ => (fields_cons rfl (by kernel_rfl) (opens_int Try.underlying3 m) (fields_cons rfl (by kernel_rfl) (opens27 m) (fields_cons rfl (by kernel_rfl) (opens_slice Try.underlying28 (by kernel_rfl) fun m _ => (opens134 m)) (fields_cons rfl (by kernel_rfl) (opens_slice Try.underlying29 (by kernel_rfl) fun m _ => (opens136 m)) (fields_cons rfl (by kernel_rfl) (opens_int Try.underlying3 m) (fields_one rfl (by kernel_rfl) (opens_slice Try.underlying30 (by kernel_rfl) fun m _ => (opens140 m)))))))))) (fun _ h => h)
end
/-- What is left to show of laws_FnExactEqualPoints: over numbers and lists alone. -/
def laws_FnExactEqualPoints.Pure : Prop := ∀ (x0 : S32) (x1 : S32), g32 x0 → g32 x1 → ∃ k, laws_FnExactEqualPoints.f k x0.f0 x0.f1.f0 x0.f1.f1 x0.f1.f2 x0.f1.f3.f0 x0.f1.f3.f1 x0.f2 x0.f3 x0.f4 x0.f5 x1.f0 x1.f1.f0 x1.f1.f1 x1.f1.f2 x1.f1.f3.f0 x1.f1.f3.f1 x1.f2 x1.f3 x1.f4 x1.f5 = some true

end Go.Proofs.Ytineejdlpcgnkaa.QFnExactEqualPoints
