/- The machine side of FnExactEqualCenters: what each function that it reaches computes, and that the machine's call gives just that. -/
import Derived.Test.YtineejdlpcgnkaaQFnExactEqualCentersx0
import Derived.Test.YtineejdlpcgnkaaQFnExactEqualCentersx9
import Derived.Test.YtineejdlpcgnkaaQFnExactEqualCentersx11
import Derived.Test.YtineejdlpcgnkaaQFnExactEqualCentersx13
import Derived.Test.YtineejdlpcgnkaaQFnExactEqualCentersx15
import Derived.Test.YtineejdlpcgnkaaQFnExactEqualCentersx17
namespace Go.Proofs.Ytineejdlpcgnkaa.QFnExactEqualCenters
open Go.RowKit Go.Proofs.YtineejdlpcgnkaaW.PrintWords Go.Proofs.YtineejdlpcgnkaaW.PrintLast Go.Proofs.YtineejdlpcgnkaaW.PrintMore
attribute [local go_sem] max2_int min2_int max_two min_two max_three min_three max_four min_four   -- for this text's walks alone
set_option linter.unusedVariables false
set_option linter.unusedSimpArgs false

/-! ### laws_FnExactEqualCenters: function 8 -/
def laws_FnExactEqualCenters.f (k : Nat) (l0_0 : List (S154)) (l0_1 : List (S27)) (l0_2 : List (S134)) (l0_3 : List (S136)) (a0_4 : Int) (l0_5 : List (S158)) (l1_0 : List (S154)) (l1_1 : List (S27)) (l1_2 : List (S134)) (l1_3 : List (S136)) (a1_4 : Int) (l1_5 : List (S158)) : Option (Bool) := (laws_szCenter.f k l0_0 l0_1 l0_2 l0_3 a0_4 l0_5 1048576).bind fun t396 => (if t396 < 0 then (some true) else ((laws_szCenter.f k l1_0 l1_1 l1_2 l1_3 a1_4 l1_5 t396).bind fun t397 => (if t397 < 0 then (some true) else ((laws_toCenter.f k l0_0 l0_1 l0_2 l0_3 a0_4 l0_5).bind fun bt398 => ((laws_toCenter.f k l1_0 l1_1 l1_2 l1_3 a1_4 l1_5).bind fun bt414 => ((spec_EqualCenters.f k bt398.1 bt398.2.1 bt398.2.2.1 bt398.2.2.2.1 bt398.2.2.2.2.1 bt398.2.2.2.2.2 bt414.1 bt414.2.1 bt414.2.2.1 bt414.2.2.2.1 bt414.2.2.2.2.1 bt414.2.2.2.2.2).bind fun t430 => ((laws_toCenter.f k l0_0 l0_1 l0_2 l0_3 a0_4 l0_5).bind fun bt431 => ((laws_toCenter.f k l1_0 l1_1 l1_2 l1_3 a1_4 l1_5).bind fun bt448 => ((impl_EqualCenters.f k bt431.1 bt431.2.1 bt431.2.2.1 bt431.2.2.2.1 bt431.2.2.2.2.1 bt431.2.2.2.2.2 bt448.1 bt448.2.1 bt448.2.2.1 bt448.2.2.2.1 bt448.2.2.2.2.1 bt448.2.2.2.2.2).bind fun t465 => (if (t465 != t430) = true then (some false) else ((laws_toCenter.f k l0_0 l0_1 l0_2 l0_3 a0_4 l0_5).bind fun bt466 => ((laws_eqCenter.f k bt431.1 bt431.2.1 bt431.2.2.1 bt431.2.2.2.1 bt431.2.2.2.2.1 bt431.2.2.2.2.2 bt466.1 bt466.2.1 bt466.2.2.1 bt466.2.2.2.1 bt466.2.2.2.2.1 bt466.2.2.2.2.2).bind fun t482 => (if t482 = true then ((laws_toCenter.f k l1_0 l1_1 l1_2 l1_3 a1_4 l1_5).bind fun bt483 => ((laws_eqCenter.f k bt448.1 bt448.2.1 bt448.2.2.1 bt448.2.2.2.1 bt448.2.2.2.2.1 bt448.2.2.2.2.2 bt483.1 bt483.2.1 bt483.2.2.1 bt483.2.2.2.1 bt483.2.2.2.2.1 bt483.2.2.2.2.2).bind fun t499 => (if t499 = true then (some true) else (some false)))) else (some false))))))))))))))
set_option maxHeartbeats 8000000 in
set_option maxRecDepth 100000 in
theorem laws_FnExactEqualCenters.calls (k : Nat) (A0_0 : Option Addr) (c0_0 : Nat) (l0_0 : List (S154)) (A0_1 : Option Addr) (c0_1 : Nat) (l0_1 : List (S27)) (A0_2 : Option Addr) (c0_2 : Nat) (l0_2 : List (S134)) (A0_3 : Option Addr) (c0_3 : Nat) (l0_3 : List (S136)) (a0_4 : Int) (A0_5 : Option Addr) (c0_5 : Nat) (l0_5 : List (S158)) (A1_0 : Option Addr) (c1_0 : Nat) (l1_0 : List (S154)) (A1_1 : Option Addr) (c1_1 : Nat) (l1_1 : List (S27)) (A1_2 : Option Addr) (c1_2 : Nat) (l1_2 : List (S134)) (A1_3 : Option Addr) (c1_3 : Nat) (l1_3 : List (S136)) (a1_4 : Int) (A1_5 : Option Addr) (c1_5 : Nat) (l1_5 : List (S158)) (r : Bool) (w : World) (hr0_0 : Kd.C k154 w A0_0 l0_0.length l0_0) (hc0_0 : l0_0.length ≤ c0_0) (hr0_1 : Kd.C k27 w A0_1 l0_1.length l0_1) (hc0_1 : l0_1.length ≤ c0_1) (hr0_2 : Kd.C k134 w A0_2 l0_2.length l0_2) (hc0_2 : l0_2.length ≤ c0_2) (hr0_3 : Kd.C k136 w A0_3 l0_3.length l0_3) (hc0_3 : l0_3.length ≤ c0_3) (hr0_5 : Kd.C k158 w A0_5 l0_5.length l0_5) (hc0_5 : l0_5.length ≤ c0_5) (hr1_0 : Kd.C k154 w A1_0 l1_0.length l1_0) (hc1_0 : l1_0.length ≤ c1_0) (hr1_1 : Kd.C k27 w A1_1 l1_1.length l1_1) (hc1_1 : l1_1.length ≤ c1_1) (hr1_2 : Kd.C k134 w A1_2 l1_2.length l1_2) (hc1_2 : l1_2.length ≤ c1_2) (hr1_3 : Kd.C k136 w A1_3 l1_3.length l1_3) (hc1_3 : l1_3.length ≤ c1_3) (hr1_5 : Kd.C k158 w A1_5 l1_5.length l1_5) (hc1_5 : l1_5.length ≤ c1_5) (h : laws_FnExactEqualCenters.f k l0_0 l0_1 l0_2 l0_3 a0_4 l0_5 l1_0 l1_1 l1_2 l1_3 a1_4 l1_5 = some r) :
    Calls Try.prog 8 #[.agg #[.slice A0_0 l0_0.length c0_0, .slice A0_1 l0_1.length c0_1, .slice A0_2 l0_2.length c0_2, .slice A0_3 l0_3.length c0_3, .int .i64 a0_4, .slice A0_5 l0_5.length c0_5], .agg #[.slice A1_0 l1_0.length c1_0, .slice A1_1 l1_1.length c1_1, .slice A1_2 l1_2.length c1_2, .slice A1_3 l1_3.length c1_3, .int .i64 a1_4, .slice A1_5 l1_5.length c1_5]] w fun e w' => e = .returned (.bool r) ∧ Below w.heap.size w w' := by
  have HR0_0 := Aside0.mk hr0_0
  have HC0_0 := Aside0.mk hc0_0
  clear hr0_0 hc0_0
  have HR0_1 := Aside0.mk hr0_1
  have HC0_1 := Aside0.mk hc0_1
  clear hr0_1 hc0_1
  have HR0_2 := Aside0.mk hr0_2
  have HC0_2 := Aside0.mk hc0_2
  clear hr0_2 hc0_2
  have HR0_3 := Aside0.mk hr0_3
  have HC0_3 := Aside0.mk hc0_3
  clear hr0_3 hc0_3
  have HR0_5 := Aside0.mk hr0_5
  have HC0_5 := Aside0.mk hc0_5
  clear hr0_5 hc0_5
  have HR1_0 := Aside0.mk hr1_0
  have HC1_0 := Aside0.mk hc1_0
  clear hr1_0 hc1_0
  have HR1_1 := Aside0.mk hr1_1
  have HC1_1 := Aside0.mk hc1_1
  clear hr1_1 hc1_1
  have HR1_2 := Aside0.mk hr1_2
  have HC1_2 := Aside0.mk hc1_2
  clear hr1_2 hc1_2
  have HR1_3 := Aside0.mk hr1_3
  have HC1_3 := Aside0.mk hc1_3
  clear hr1_3 hc1_3
  have HR1_5 := Aside0.mk hr1_5
  have HC1_5 := Aside0.mk hc1_5
  clear hr1_5 hc1_5
  have HB := Aside0.mk (Below.refl w.heap.size w)
  have H := h
  clear h
  unfold laws_FnExactEqualCenters.f at H
  have hu64 := Try.underlying64
  have hu73 := Try.underlying73
  go_enter Try.func8, Try.ntmps8
  have H'' := Aside0.mk H
  clear H
  go_wp2_with (first | ((with_reducible refine gate_dst (N := 2) rfl ?_); refine box_event ?hg (N := 2) ?hd (cs := #[.slice A0_0 l0_0.length c0_0, .slice A0_1 l0_1.length c0_1, .slice A0_2 l0_2.length c0_2, .slice A0_3 l0_3.length c0_3, .int .i64 a0_4, .slice A0_5 l0_5.length c0_5]) (t := 73) ?hr ?_; (case hd => rfl); (case hg => rfl); (case hr => first | (go_simp; done) | (go_simp; rfl)); intro gb1 hg W1 hbox hb; have Z1 := Aside0.mk hb.size; have E1 := Aside0.mk (And.intro hg (blk_lt hbox)); have BK1 := Aside0.mk hbox; have c_BK1 := blk_cell hbox; have z_BK1 := blk_frozen hbox; have hB_ := below_step HB.out hb; clear HB hb hbox hg; have HB := Aside0.mk hB_; clear hB_) | ((with_reducible refine gate_dst (N := 3) rfl ?_); refine box_event ?hg (N := 3) ?hd (cs := #[.slice A1_0 l1_0.length c1_0, .slice A1_1 l1_1.length c1_1, .slice A1_2 l1_2.length c1_2, .slice A1_3 l1_3.length c1_3, .int .i64 a1_4, .slice A1_5 l1_5.length c1_5]) (t := 73) ?hr ?_; (case hd => rfl); (case hg => rfl); (case hr => first | (go_simp; done) | (go_simp; rfl)); intro gb2 hg W2 hbox hb; have Z2 := Aside0.mk hb.size; have E2 := Aside0.mk (And.intro hg (blk_lt hbox)); have h_ := blk_below BK1.out hb; clear BK1 c_BK1 z_BK1; have BK1 := Aside0.mk h_; have c_BK1 := blk_cell h_; have z_BK1 := blk_frozen h_; clear h_; have BK2 := Aside0.mk hbox; have c_BK2 := blk_cell hbox; have z_BK2 := blk_frozen hbox; have hB_ := below_step HB.out hb; clear HB hb hbox hg; have HB := Aside0.mk hB_; clear hB_))
  have H := H''.out
  clear H''
  replace H := Option.bind_eq_some_iff.mp H
  obtain ⟨t396, hm, H⟩ := H
  try dsimp only at H
  have H' := Aside0.mk H
  clear H
  have hcall := laws_szCenter.calls k _ _ l0_0 _ _ l0_1 _ _ l0_2 _ _ l0_3 a0_4 _ _ l0_5 1048576 t396 W2 (Kd.C_below HR0_0.out HB.out) HC0_0.out (Kd.C_below HR0_1.out HB.out) HC0_1.out (Kd.C_below HR0_2.out HB.out) HC0_2.out (Kd.C_below HR0_3.out HB.out) HC0_3.out (Kd.C_below HR0_5.out HB.out) HC0_5.out hm
  clear hm
  try go_wp2_with fail
  refine hcall.mono ?_
  rintro e W3 ⟨rfl, hb⟩
  clear hcall
  have Z3 := Aside0.mk hb.size
  have h_ := blk_below BK1.out hb
  clear BK1 c_BK1 z_BK1
  have BK1 := Aside0.mk h_
  have c_BK1 := blk_cell h_
  have z_BK1 := blk_frozen h_
  clear h_
  have h_ := blk_below BK2.out hb
  clear BK2 c_BK2 z_BK2
  have BK2 := Aside0.mk h_
  have c_BK2 := blk_cell h_
  have z_BK2 := blk_frozen h_
  clear h_
  have hB_ := below_step HB.out hb
  clear HB hb
  have HB := Aside0.mk hB_
  clear hB_
  have H := H'.out
  clear H'
  by_cases c4 : t396 < 0
  · rw [if_pos c4] at H
    have c4_0 : decide (t396 < 0) = true := decide_eq_true c4
    clear c4
    obtain rfl := Option.some.inj H
    clear H
    go_wp2
    go_ret
    exact ⟨rfl, HB.out⟩
  · rw [if_neg c4] at H
    have c4_0 : decide (t396 < 0) = false := decide_eq_false c4
    clear c4
    replace H := Option.bind_eq_some_iff.mp H
    obtain ⟨t397, hm, H⟩ := H
    try dsimp only at H
    have H' := Aside0.mk H
    clear H
    have hcall := laws_szCenter.calls k _ _ l1_0 _ _ l1_1 _ _ l1_2 _ _ l1_3 a1_4 _ _ l1_5 t396 t397 W3 (Kd.C_below HR1_0.out HB.out) HC1_0.out (Kd.C_below HR1_1.out HB.out) HC1_1.out (Kd.C_below HR1_2.out HB.out) HC1_2.out (Kd.C_below HR1_3.out HB.out) HC1_3.out (Kd.C_below HR1_5.out HB.out) HC1_5.out hm
    clear hm
    go_wp2_with fail
    refine hcall.mono ?_
    rintro e W5 ⟨rfl, hb⟩
    clear hcall
    have Z5 := Aside0.mk hb.size
    have h_ := blk_below BK1.out hb
    clear BK1 c_BK1 z_BK1
    have BK1 := Aside0.mk h_
    have c_BK1 := blk_cell h_
    have z_BK1 := blk_frozen h_
    clear h_
    have h_ := blk_below BK2.out hb
    clear BK2 c_BK2 z_BK2
    have BK2 := Aside0.mk h_
    have c_BK2 := blk_cell h_
    have z_BK2 := blk_frozen h_
    clear h_
    have hB_ := below_step HB.out hb
    clear HB hb
    have HB := Aside0.mk hB_
    clear hB_
    have H := H'.out
    clear H'
    by_cases c6 : t397 < 0
    · rw [if_pos c6] at H
      have c6_0 : decide (t397 < 0) = true := decide_eq_true c6
      clear c6
      obtain rfl := Option.some.inj H
      clear H
      go_wp2
      go_ret
      exact ⟨rfl, HB.out⟩
    · rw [if_neg c6] at H
      have c6_0 : decide (t397 < 0) = false := decide_eq_false c6
      clear c6
      replace H := Option.bind_eq_some_iff.mp H
      obtain ⟨⟨t398, t401, t404, t407, t410, t411⟩, hm, H⟩ := H
      try dsimp only at H
      have HM7 := Aside0.mk hm
      clear hm
      replace H := Option.bind_eq_some_iff.mp H
      obtain ⟨⟨t414, t417, t420, t423, t426, t427⟩, hm, H⟩ := H
      try dsimp only at H
      have HM8 := Aside0.mk hm
      clear hm
      replace H := Option.bind_eq_some_iff.mp H
      obtain ⟨t430, hm, H⟩ := H
      try dsimp only at H
      have HM9 := Aside0.mk hm
      clear hm
      have H' := Aside0.mk H
      clear H
      try go_wp2
      have h_ := blk_drew BK1.out
      clear BK1 c_BK1 z_BK1
      have BK1 := Aside0.mk h_
      clear h_
      have h_ := blk_drew BK2.out
      clear BK2 c_BK2 z_BK2
      have BK2 := Aside0.mk h_
      clear h_
      have hB_ := below_drew1 HB.out
      clear HB
      have HB := Aside0.mk hB_
      clear hB_
      have Z10 : Aside0 (W5.heap.size ≤ W5.drew.heap.size) := ⟨Nat.le_refl _⟩
      refine start_ (n := 6) (S := fun w' => w'.cell? ⟨gb1, 0, none⟩ = some (.slice A0_0 l0_0.length c0_0) ∧ w'.cell? ⟨gb1, 1, none⟩ = some (.slice A0_1 l0_1.length c0_1) ∧ w'.cell? ⟨gb1, 2, none⟩ = some (.slice A0_2 l0_2.length c0_2) ∧ w'.cell? ⟨gb1, 3, none⟩ = some (.slice A0_3 l0_3.length c0_3) ∧ w'.cell? ⟨gb1, 4, none⟩ = some (.int .i64 a0_4) ∧ w'.cell? ⟨gb1, 5, none⟩ = some (.slice A0_5 l0_5.length c0_5) ∧ w'.cell? ⟨gb2, 0, none⟩ = some (.slice A1_0 l1_0.length c1_0) ∧ w'.cell? ⟨gb2, 1, none⟩ = some (.slice A1_1 l1_1.length c1_1) ∧ w'.cell? ⟨gb2, 2, none⟩ = some (.slice A1_2 l1_2.length c1_2) ∧ w'.cell? ⟨gb2, 3, none⟩ = some (.slice A1_3 l1_3.length c1_3) ∧ w'.cell? ⟨gb2, 4, none⟩ = some (.int .i64 a1_4) ∧ w'.cell? ⟨gb2, 5, none⟩ = some (.slice A1_5 l1_5.length c1_5)) (ds := []) #[false, false, false, false, false, false] (by kernel_rfl) rfl rfl ⟨(blk_cell BK1.out 0).trans rfl, (blk_cell BK1.out 1).trans rfl, (blk_cell BK1.out 2).trans rfl, (blk_cell BK1.out 3).trans rfl, (blk_cell BK1.out 4).trans rfl, (blk_cell BK1.out 5).trans rfl, (blk_cell BK2.out 0).trans rfl, (blk_cell BK2.out 1).trans rfl, (blk_cell BK2.out 2).trans rfl, (blk_cell BK2.out 3).trans rfl, (blk_cell BK2.out 4).trans rfl, (blk_cell BK2.out 5).trans rfl⟩ (fun hHeld => ?_)
      generalize W5.drew = W10 at Z10 HB BK1 BK2 hHeld ⊢
      have c_BK1 := blk_cell BK1.out
      have z_BK1 := blk_frozen BK1.out
      have c_BK2 := blk_cell BK2.out
      have z_BK2 := blk_frozen BK2.out
      refine take_ (i := 0) (N := some 20) (v := ?_) (a' := ?_) #[true, false, false, false, false, false] rfl rfl (by kernel_rfl) (fun _ _ _ h => h) (Or.inl ⟨by rfl, ?_⟩) hHeld ?_ ?_
      rotate_left
      · rintro w' ⟨s0, s1, s2, s3, s4, s5, s6, s7, s8, s9, s10, s11⟩
        go_simp
        with_reducible rfl
      rotate_left
      · simp only [Act.put, List.setIfInBounds_toArray, List.set_cons_zero, List.set_cons_succ, i64_w, i32_w]
        rfl
      refine take_ (i := 2) (N := some 22) (v := ?_) (a' := ?_) #[true, false, true, false, false, false] rfl rfl (by kernel_rfl) (fun _ _ _ h => h) (Or.inl ⟨by rfl, ?_⟩) hHeld ?_ ?_
      rotate_left
      · rintro w' ⟨s0, s1, s2, s3, s4, s5, s6, s7, s8, s9, s10, s11⟩
        go_simp
        with_reducible rfl
      rotate_left
      · simp only [Act.put, List.setIfInBounds_toArray, List.set_cons_zero, List.set_cons_succ, i64_w, i32_w]
        rfl
      refine one_ (i := 1) (N := some 21) #[true, true, true, false, false, false] rfl rfl (by kernel_rfl) (by decide) (fun K hK => ?_)
      have hcall := laws_toCenter.calls k _ _ l0_0 _ _ l0_1 _ _ l0_2 _ _ l0_3 a0_4 _ _ l0_5 t398 t401 t404 t407 t410 t411 W10 (Kd.C_below HR0_0.out HB.out) HC0_0.out (Kd.C_below HR0_1.out HB.out) HC0_1.out (Kd.C_below HR0_2.out HB.out) HC0_2.out (Kd.C_below HR0_3.out HB.out) HC0_3.out (Kd.C_below HR0_5.out HB.out) HC0_5.out HM7.out
      refine goes_ Try.func34 (by kernel_rfl) rfl #[.agg #[.slice A0_0 l0_0.length c0_0, .slice A0_1 l0_1.length c0_1, .slice A0_2 l0_2.length c0_2, .slice A0_3 l0_3.length c0_3, .int .i64 a0_4, .slice A0_5 l0_5.length c0_5]] (by rfl) rfl rfl (by (try simp only [List.map_toArray, List.map_cons, List.map_nil]); first | done | rfl) ?_
      refine hcall.mono ?_
      rintro e W11 ⟨v399, v402, v405, v408, v412, rfl, ho0, ho1, ho2, ho3, ho4, hb⟩
      refine ⟨_, rfl, ?_⟩
      clear hcall
      have Z11 := Aside0.mk hb.size
      obtain ⟨A11_0, n11_0, c11_0, rfl, hn_, hr_⟩ := Go.Proofs.YtineejdlpcgnkaaM.S_made ho0 HB.out.size
      clear hn_ ho0
      have HO11_0 := Aside0.mk hr_
      clear hr_
      obtain ⟨A11_1, n11_1, c11_1, rfl, hn_, hr_⟩ := Go.Proofs.YtineejdlpcgnkaaM.R_made ho1 HB.out.size
      clear hn_ ho1
      have HO11_1 := Aside0.mk hr_
      clear hr_
      obtain ⟨A11_2, n11_2, c11_2, rfl, hn_, hr_⟩ := Go.Proofs.YtineejdlpcgnkaaM.R_made ho2 HB.out.size
      clear hn_ ho2
      have HO11_2 := Aside0.mk hr_
      clear hr_
      obtain ⟨A11_3, n11_3, c11_3, rfl, hn_, hr_⟩ := Go.Proofs.YtineejdlpcgnkaaM.R_made ho3 HB.out.size
      clear hn_ ho3
      have HO11_3 := Aside0.mk hr_
      clear hr_
      obtain ⟨A11_4, n11_4, c11_4, rfl, hn_, hr_⟩ := Go.Proofs.YtineejdlpcgnkaaM.R_made ho4 HB.out.size
      clear hn_ ho4
      have HO11_4 := Aside0.mk hr_
      clear hr_
      have h_ := blk_below BK1.out hb
      clear BK1 c_BK1 z_BK1
      have BK1 := Aside0.mk h_
      have c_BK1 := blk_cell h_
      have z_BK1 := blk_frozen h_
      clear h_
      have h_ := blk_below BK2.out hb
      clear BK2 c_BK2 z_BK2
      have BK2 := Aside0.mk h_
      have c_BK2 := blk_cell h_
      have z_BK2 := blk_frozen h_
      clear h_
      have hB_ := below_step HB.out hb
      clear HB hb
      have HB := Aside0.mk hB_
      clear hB_
      refine hK.out _ _ ⟨(blk_cell BK1.out 0).trans rfl, (blk_cell BK1.out 1).trans rfl, (blk_cell BK1.out 2).trans rfl, (blk_cell BK1.out 3).trans rfl, (blk_cell BK1.out 4).trans rfl, (blk_cell BK1.out 5).trans rfl, (blk_cell BK2.out 0).trans rfl, (blk_cell BK2.out 1).trans rfl, (blk_cell BK2.out 2).trans rfl, (blk_cell BK2.out 3).trans rfl, (blk_cell BK2.out 4).trans rfl, (blk_cell BK2.out 5).trans rfl⟩ (fun hHeld => ?_)
      clear hK K
      refine norm_ (a' := ?_) ?_ ?_
      rotate_left
      · show Act.put _ (some 21) _ = _
        simp only [Act.put, List.setIfInBounds_toArray, List.set_cons_zero, List.set_cons_succ, i64_w, i32_w]
        rfl
      refine one_ (i := 3) (N := some 23) #[true, true, true, true, false, false] rfl rfl (by kernel_rfl) (by decide) (fun K hK => ?_)
      have hcall := laws_toCenter.calls k _ _ l1_0 _ _ l1_1 _ _ l1_2 _ _ l1_3 a1_4 _ _ l1_5 t414 t417 t420 t423 t426 t427 W11 (Kd.C_below HR1_0.out HB.out) HC1_0.out (Kd.C_below HR1_1.out HB.out) HC1_1.out (Kd.C_below HR1_2.out HB.out) HC1_2.out (Kd.C_below HR1_3.out HB.out) HC1_3.out (Kd.C_below HR1_5.out HB.out) HC1_5.out HM8.out
      refine goes_ Try.func34 (by kernel_rfl) rfl #[.agg #[.slice A1_0 l1_0.length c1_0, .slice A1_1 l1_1.length c1_1, .slice A1_2 l1_2.length c1_2, .slice A1_3 l1_3.length c1_3, .int .i64 a1_4, .slice A1_5 l1_5.length c1_5]] (by rfl) rfl rfl (by (try simp only [List.map_toArray, List.map_cons, List.map_nil]); first | done | rfl) ?_
      refine hcall.mono ?_
      rintro e W12 ⟨v415, v418, v421, v424, v428, rfl, ho0, ho1, ho2, ho3, ho4, hb⟩
      refine ⟨_, rfl, ?_⟩
      clear hcall
      have Z12 := Aside0.mk hb.size
      have h_ := Kd.S_below HO11_0.out hb
      clear HO11_0
      have HO11_0 := Aside0.mk h_
      clear h_
      have h_ := Kd.R_below HO11_1.out hb
      clear HO11_1
      have HO11_1 := Aside0.mk h_
      clear h_
      have h_ := Kd.R_below HO11_2.out hb
      clear HO11_2
      have HO11_2 := Aside0.mk h_
      clear h_
      have h_ := Kd.R_below HO11_3.out hb
      clear HO11_3
      have HO11_3 := Aside0.mk h_
      clear h_
      have h_ := Kd.R_below HO11_4.out hb
      clear HO11_4
      have HO11_4 := Aside0.mk h_
      clear h_
      obtain ⟨A12_0, n12_0, c12_0, rfl, hn_, hr_⟩ := Go.Proofs.YtineejdlpcgnkaaM.S_made ho0 HB.out.size
      clear hn_ ho0
      have HO12_0 := Aside0.mk hr_
      clear hr_
      obtain ⟨A12_1, n12_1, c12_1, rfl, hn_, hr_⟩ := Go.Proofs.YtineejdlpcgnkaaM.R_made ho1 HB.out.size
      clear hn_ ho1
      have HO12_1 := Aside0.mk hr_
      clear hr_
      obtain ⟨A12_2, n12_2, c12_2, rfl, hn_, hr_⟩ := Go.Proofs.YtineejdlpcgnkaaM.R_made ho2 HB.out.size
      clear hn_ ho2
      have HO12_2 := Aside0.mk hr_
      clear hr_
      obtain ⟨A12_3, n12_3, c12_3, rfl, hn_, hr_⟩ := Go.Proofs.YtineejdlpcgnkaaM.R_made ho3 HB.out.size
      clear hn_ ho3
      have HO12_3 := Aside0.mk hr_
      clear hr_
      obtain ⟨A12_4, n12_4, c12_4, rfl, hn_, hr_⟩ := Go.Proofs.YtineejdlpcgnkaaM.R_made ho4 HB.out.size
      clear hn_ ho4
      have HO12_4 := Aside0.mk hr_
      clear hr_
      have h_ := blk_below BK1.out hb
      clear BK1 c_BK1 z_BK1
      have BK1 := Aside0.mk h_
      have c_BK1 := blk_cell h_
      have z_BK1 := blk_frozen h_
      clear h_
      have h_ := blk_below BK2.out hb
      clear BK2 c_BK2 z_BK2
      have BK2 := Aside0.mk h_
      have c_BK2 := blk_cell h_
      have z_BK2 := blk_frozen h_
      clear h_
      have hB_ := below_step HB.out hb
      clear HB hb
      have HB := Aside0.mk hB_
      clear hB_
      refine hK.out _ _ ⟨(blk_cell BK1.out 0).trans rfl, (blk_cell BK1.out 1).trans rfl, (blk_cell BK1.out 2).trans rfl, (blk_cell BK1.out 3).trans rfl, (blk_cell BK1.out 4).trans rfl, (blk_cell BK1.out 5).trans rfl, (blk_cell BK2.out 0).trans rfl, (blk_cell BK2.out 1).trans rfl, (blk_cell BK2.out 2).trans rfl, (blk_cell BK2.out 3).trans rfl, (blk_cell BK2.out 4).trans rfl, (blk_cell BK2.out 5).trans rfl⟩ (fun hHeld => ?_)
      clear hK K
      refine norm_ (a' := ?_) ?_ ?_
      rotate_left
      · show Act.put _ (some 23) _ = _
        simp only [Act.put, List.setIfInBounds_toArray, List.set_cons_zero, List.set_cons_succ, i64_w, i32_w]
        rfl
      refine one_ (i := 4) (N := some 24) #[true, true, true, true, true, false] rfl rfl (by kernel_rfl) (by decide) (fun K hK => ?_)
      have hcall := spec_EqualCenters.calls k _ _ t398 _ _ t401 _ _ t404 _ _ t407 t410 _ _ t411 _ _ t414 _ _ t417 _ _ t420 _ _ t423 t426 _ _ t427 t430 W12 (Go.Proofs.YtineejdlpcgnkaaM.S_C HO11_0.out) (Go.Proofs.YtineejdlpcgnkaaM.S_len HO11_0.out) (Go.Proofs.YtineejdlpcgnkaaM.R_C HO11_1.out) (Go.Proofs.YtineejdlpcgnkaaM.R_len HO11_1.out) (Go.Proofs.YtineejdlpcgnkaaM.R_C HO11_2.out) (Go.Proofs.YtineejdlpcgnkaaM.R_len HO11_2.out) (Go.Proofs.YtineejdlpcgnkaaM.R_C HO11_3.out) (Go.Proofs.YtineejdlpcgnkaaM.R_len HO11_3.out) (Go.Proofs.YtineejdlpcgnkaaM.R_C HO11_4.out) (Go.Proofs.YtineejdlpcgnkaaM.R_len HO11_4.out) (Go.Proofs.YtineejdlpcgnkaaM.S_C HO12_0.out) (Go.Proofs.YtineejdlpcgnkaaM.S_len HO12_0.out) (Go.Proofs.YtineejdlpcgnkaaM.R_C HO12_1.out) (Go.Proofs.YtineejdlpcgnkaaM.R_len HO12_1.out) (Go.Proofs.YtineejdlpcgnkaaM.R_C HO12_2.out) (Go.Proofs.YtineejdlpcgnkaaM.R_len HO12_2.out) (Go.Proofs.YtineejdlpcgnkaaM.R_C HO12_3.out) (Go.Proofs.YtineejdlpcgnkaaM.R_len HO12_3.out) (Go.Proofs.YtineejdlpcgnkaaM.R_C HO12_4.out) (Go.Proofs.YtineejdlpcgnkaaM.R_len HO12_4.out) HM9.out
      rw [Go.Proofs.YtineejdlpcgnkaaM.S_n HO11_0.out, Go.Proofs.YtineejdlpcgnkaaM.R_n HO11_1.out, Go.Proofs.YtineejdlpcgnkaaM.R_n HO11_2.out, Go.Proofs.YtineejdlpcgnkaaM.R_n HO11_3.out, Go.Proofs.YtineejdlpcgnkaaM.R_n HO11_4.out, Go.Proofs.YtineejdlpcgnkaaM.S_n HO12_0.out, Go.Proofs.YtineejdlpcgnkaaM.R_n HO12_1.out, Go.Proofs.YtineejdlpcgnkaaM.R_n HO12_2.out, Go.Proofs.YtineejdlpcgnkaaM.R_n HO12_3.out, Go.Proofs.YtineejdlpcgnkaaM.R_n HO12_4.out] at hcall
      refine goes_ Try.func33 (by kernel_rfl) rfl #[.agg #[.slice A11_0 n11_0 c11_0, .slice A11_1 n11_1 c11_1, .slice A11_2 n11_2 c11_2, .slice A11_3 n11_3 c11_3, .int .i64 t410, .slice A11_4 n11_4 c11_4], .agg #[.slice A12_0 n12_0 c12_0, .slice A12_1 n12_1 c12_1, .slice A12_2 n12_2 c12_2, .slice A12_3 n12_3 c12_3, .int .i64 t426, .slice A12_4 n12_4 c12_4]] (by rfl) rfl rfl (by (try simp only [List.map_toArray, List.map_cons, List.map_nil]); first | done | rfl) ?_
      refine hcall.mono ?_
      rintro e W13 ⟨rfl, hb⟩
      refine ⟨_, rfl, ?_⟩
      clear hcall
      have Z13 := Aside0.mk hb.size
      have h_ := Kd.S_below HO11_0.out hb
      clear HO11_0
      have HO11_0 := Aside0.mk h_
      clear h_
      have h_ := Kd.R_below HO11_1.out hb
      clear HO11_1
      have HO11_1 := Aside0.mk h_
      clear h_
      have h_ := Kd.R_below HO11_2.out hb
      clear HO11_2
      have HO11_2 := Aside0.mk h_
      clear h_
      have h_ := Kd.R_below HO11_3.out hb
      clear HO11_3
      have HO11_3 := Aside0.mk h_
      clear h_
      have h_ := Kd.R_below HO11_4.out hb
      clear HO11_4
      have HO11_4 := Aside0.mk h_
      clear h_
      have h_ := Kd.S_below HO12_0.out hb
      clear HO12_0
      have HO12_0 := Aside0.mk h_
      clear h_
      have h_ := Kd.R_below HO12_1.out hb
      clear HO12_1
      have HO12_1 := Aside0.mk h_
      clear h_
      have h_ := Kd.R_below HO12_2.out hb
      clear HO12_2
      have HO12_2 := Aside0.mk h_
      clear h_
      have h_ := Kd.R_below HO12_3.out hb
      clear HO12_3
      have HO12_3 := Aside0.mk h_
      clear h_
      have h_ := Kd.R_below HO12_4.out hb
      clear HO12_4
      have HO12_4 := Aside0.mk h_
      clear h_
      have h_ := blk_below BK1.out hb
      clear BK1 c_BK1 z_BK1
      have BK1 := Aside0.mk h_
      have c_BK1 := blk_cell h_
      have z_BK1 := blk_frozen h_
      clear h_
      have h_ := blk_below BK2.out hb
      clear BK2 c_BK2 z_BK2
      have BK2 := Aside0.mk h_
      have c_BK2 := blk_cell h_
      have z_BK2 := blk_frozen h_
      clear h_
      have hB_ := below_step HB.out hb
      clear HB hb
      have HB := Aside0.mk hB_
      clear hB_
      refine hK.out _ _ ⟨(blk_cell BK1.out 0).trans rfl, (blk_cell BK1.out 1).trans rfl, (blk_cell BK1.out 2).trans rfl, (blk_cell BK1.out 3).trans rfl, (blk_cell BK1.out 4).trans rfl, (blk_cell BK1.out 5).trans rfl, (blk_cell BK2.out 0).trans rfl, (blk_cell BK2.out 1).trans rfl, (blk_cell BK2.out 2).trans rfl, (blk_cell BK2.out 3).trans rfl, (blk_cell BK2.out 4).trans rfl, (blk_cell BK2.out 5).trans rfl⟩ (fun hHeld => ?_)
      clear hK K
      refine norm_ (a' := ?_) ?_ ?_
      rotate_left
      · show Act.put _ (some 24) _ = _
        simp only [Act.put, List.setIfInBounds_toArray, List.set_cons_zero, List.set_cons_succ, i64_w, i32_w]
        rfl
      refine pure_ (i := 5) (N := some 6) (v := ?_) (a' := ?_) #[true, true, true, true, true, true] rfl rfl (by kernel_rfl) (fun _ _ _ h => h) (Or.inl ⟨by rfl, ?_⟩) ?_ ?_
      rotate_left
      · intro w'
        go_simp
        with_reducible rfl
      rotate_left
      · simp only [Act.put, List.setIfInBounds_toArray, List.set_cons_zero, List.set_cons_succ, i64_w, i32_w]
        rfl
      refine done_ (by kernel_rfl) ?_
      clear hHeld
      have H := H'.out
      clear H'
      replace H := Option.bind_eq_some_iff.mp H
      obtain ⟨⟨t431, t434, t437, t440, t443, t444⟩, hm, H⟩ := H
      try dsimp only at H
      have H' := Aside0.mk H
      clear H
      have hcall := laws_toCenter.calls k _ _ l0_0 _ _ l0_1 _ _ l0_2 _ _ l0_3 a0_4 _ _ l0_5 t431 t434 t437 t440 t443 t444 W13 (Kd.C_below HR0_0.out HB.out) HC0_0.out (Kd.C_below HR0_1.out HB.out) HC0_1.out (Kd.C_below HR0_2.out HB.out) HC0_2.out (Kd.C_below HR0_3.out HB.out) HC0_3.out (Kd.C_below HR0_5.out HB.out) HC0_5.out hm
      clear hm
      go_wp2_with fail
      refine hcall.mono ?_
      rintro e W14 ⟨v432, v435, v438, v441, v445, rfl, ho0, ho1, ho2, ho3, ho4, hb⟩
      clear hcall
      have Z14 := Aside0.mk hb.size
      have h_ := Kd.S_below HO11_0.out hb
      clear HO11_0
      have HO11_0 := Aside0.mk h_
      clear h_
      have h_ := Kd.R_below HO11_1.out hb
      clear HO11_1
      have HO11_1 := Aside0.mk h_
      clear h_
      have h_ := Kd.R_below HO11_2.out hb
      clear HO11_2
      have HO11_2 := Aside0.mk h_
      clear h_
      have h_ := Kd.R_below HO11_3.out hb
      clear HO11_3
      have HO11_3 := Aside0.mk h_
      clear h_
      have h_ := Kd.R_below HO11_4.out hb
      clear HO11_4
      have HO11_4 := Aside0.mk h_
      clear h_
      have h_ := Kd.S_below HO12_0.out hb
      clear HO12_0
      have HO12_0 := Aside0.mk h_
      clear h_
      have h_ := Kd.R_below HO12_1.out hb
      clear HO12_1
      have HO12_1 := Aside0.mk h_
      clear h_
      have h_ := Kd.R_below HO12_2.out hb
      clear HO12_2
      have HO12_2 := Aside0.mk h_
      clear h_
      have h_ := Kd.R_below HO12_3.out hb
      clear HO12_3
      have HO12_3 := Aside0.mk h_
      clear h_
      have h_ := Kd.R_below HO12_4.out hb
      clear HO12_4
      have HO12_4 := Aside0.mk h_
      clear h_
      obtain ⟨A14_0, n14_0, c14_0, rfl, hn_, hr_⟩ := Go.Proofs.YtineejdlpcgnkaaM.S_made ho0 HB.out.size
      clear hn_ ho0
      have HO14_0 := Aside0.mk hr_
      clear hr_
      obtain ⟨A14_1, n14_1, c14_1, rfl, hn_, hr_⟩ := Go.Proofs.YtineejdlpcgnkaaM.R_made ho1 HB.out.size
      clear hn_ ho1
      have HO14_1 := Aside0.mk hr_
      clear hr_
      obtain ⟨A14_2, n14_2, c14_2, rfl, hn_, hr_⟩ := Go.Proofs.YtineejdlpcgnkaaM.R_made ho2 HB.out.size
      clear hn_ ho2
      have HO14_2 := Aside0.mk hr_
      clear hr_
      obtain ⟨A14_3, n14_3, c14_3, rfl, hn_, hr_⟩ := Go.Proofs.YtineejdlpcgnkaaM.R_made ho3 HB.out.size
      clear hn_ ho3
      have HO14_3 := Aside0.mk hr_
      clear hr_
      obtain ⟨A14_4, n14_4, c14_4, rfl, hn_, hr_⟩ := Go.Proofs.YtineejdlpcgnkaaM.R_made ho4 HB.out.size
      clear hn_ ho4
      have HO14_4 := Aside0.mk hr_
      clear hr_
      have h_ := blk_below BK1.out hb
      clear BK1 c_BK1 z_BK1
      have BK1 := Aside0.mk h_
      have c_BK1 := blk_cell h_
      have z_BK1 := blk_frozen h_
      clear h_
      have h_ := blk_below BK2.out hb
      clear BK2 c_BK2 z_BK2
      have BK2 := Aside0.mk h_
      have c_BK2 := blk_cell h_
      have z_BK2 := blk_frozen h_
      clear h_
      have hB_ := below_step HB.out hb
      clear HB hb
      have HB := Aside0.mk hB_
      clear hB_
      have H := H'.out
      clear H'
      have H'' := Aside0.mk H
      clear H
      go_wp2_with (first | ((with_reducible refine gate_dst (N := 7) rfl ?_); refine box_event ?hg (N := 7) ?hd (cs := #[.slice none 0 0, .slice none 0 0, .slice none 0 0, .slice none 0 0, .int .i64 0, .slice none 0 0]) (t := 64) ?hr ?_; (case hd => rfl); (case hg => rfl); (case hr => first | (go_simp; done) | (go_simp; rfl)); intro gb15 hg W15 hbox hb; have Z15 := Aside0.mk hb.size; have E15 := Aside0.mk (And.intro hg (blk_lt hbox)); have h_ := Kd.S_below HO11_0.out hb; clear HO11_0; have HO11_0 := Aside0.mk h_; clear h_; have h_ := Kd.R_below HO11_1.out hb; clear HO11_1; have HO11_1 := Aside0.mk h_; clear h_; have h_ := Kd.R_below HO11_2.out hb; clear HO11_2; have HO11_2 := Aside0.mk h_; clear h_; have h_ := Kd.R_below HO11_3.out hb; clear HO11_3; have HO11_3 := Aside0.mk h_; clear h_; have h_ := Kd.R_below HO11_4.out hb; clear HO11_4; have HO11_4 := Aside0.mk h_; clear h_; have h_ := Kd.S_below HO12_0.out hb; clear HO12_0; have HO12_0 := Aside0.mk h_; clear h_; have h_ := Kd.R_below HO12_1.out hb; clear HO12_1; have HO12_1 := Aside0.mk h_; clear h_; have h_ := Kd.R_below HO12_2.out hb; clear HO12_2; have HO12_2 := Aside0.mk h_; clear h_; have h_ := Kd.R_below HO12_3.out hb; clear HO12_3; have HO12_3 := Aside0.mk h_; clear h_; have h_ := Kd.R_below HO12_4.out hb; clear HO12_4; have HO12_4 := Aside0.mk h_; clear h_; have h_ := Kd.S_below HO14_0.out hb; clear HO14_0; have HO14_0 := Aside0.mk h_; clear h_; have h_ := Kd.R_below HO14_1.out hb; clear HO14_1; have HO14_1 := Aside0.mk h_; clear h_; have h_ := Kd.R_below HO14_2.out hb; clear HO14_2; have HO14_2 := Aside0.mk h_; clear h_; have h_ := Kd.R_below HO14_3.out hb; clear HO14_3; have HO14_3 := Aside0.mk h_; clear h_; have h_ := Kd.R_below HO14_4.out hb; clear HO14_4; have HO14_4 := Aside0.mk h_; clear h_; have h_ := blk_below BK1.out hb; clear BK1 c_BK1 z_BK1; have BK1 := Aside0.mk h_; have c_BK1 := blk_cell h_; have z_BK1 := blk_frozen h_; clear h_; have h_ := blk_below BK2.out hb; clear BK2 c_BK2 z_BK2; have BK2 := Aside0.mk h_; have c_BK2 := blk_cell h_; have z_BK2 := blk_frozen h_; clear h_; have BK15 := Aside0.mk hbox; have c_BK15 := blk_cell hbox; have z_BK15 := blk_frozen hbox; have hB_ := below_step HB.out hb; clear HB hb hbox hg; have HB := Aside0.mk hB_; clear hB_) | ((with_reducible refine gate_store (t := 64) (p := 7) rfl ?_); refine store_event (t := 64) (p := 7) (v := ?vo_s16) (w1 := ((((((W15.setCell ⟨gb15, 0, none⟩ (.slice A14_0 n14_0 c14_0)).setCell ⟨gb15, 1, none⟩ (.slice A14_1 n14_1 c14_1)).setCell ⟨gb15, 2, none⟩ (.slice A14_2 n14_2 c14_2)).setCell ⟨gb15, 3, none⟩ (.slice A14_3 n14_3 c14_3)).setCell ⟨gb15, 4, none⟩ (.int .i64 t443)).setCell ⟨gb15, 5, none⟩ (.slice A14_4 n14_4 c14_4))) ?hg ?ho ?hn ?hr ?_; (case ho => rfl); (case hg => rfl); (case hn => rfl); (case hr => first | (go_simp; done) | (go_simp; rfl)); intro W16 hw; have hk_ : Kept W15 W16 (fun k_ => k_ = gb15) := (by rw [hw]; exact Kept.setCell (Kept.setCell (Kept.setCell (Kept.setCell (Kept.setCell (Kept.setCell (Kept.refl W15 (fun k_ => k_ = gb15)) (.inl rfl) _) (.inl rfl) _) (.inl rfl) _) (.inl rfl) _) (.inl rfl) _) (.inl rfl) _); have hge_ : w.heap.size ≤ gb15 := (by have := E15.out.1; have := HB.out.size; have := Z1.out; have := Z2.out; have := Z3.out; have := Z5.out; have := Z10.out; have := Z11.out; have := Z12.out; have := Z13.out; have := Z14.out; have := Z15.out; omega); have Z16 := Aside0.mk hk_.1; have h_ := Kd.S_step HO11_0.out (fun k_ h1_ h2_ => hk_.2 k_ h2_ (fun h3_ => by obtain ⟨_, _⟩ := h1_; have := E15.out; have := Z1.out; have := Z2.out; have := Z3.out; have := Z5.out; have := Z10.out; have := Z11.out; have := Z12.out; have := Z13.out; have := Z14.out; have := Z15.out; omega)); clear HO11_0; have HO11_0 := Aside0.mk h_; clear h_; have h_ := Kd.R_step HO11_1.out (fun k_ h1_ h2_ => hk_.2 k_ h2_ (fun h3_ => by obtain ⟨_, _⟩ := h1_; have := E15.out; have := Z1.out; have := Z2.out; have := Z3.out; have := Z5.out; have := Z10.out; have := Z11.out; have := Z12.out; have := Z13.out; have := Z14.out; have := Z15.out; omega)); clear HO11_1; have HO11_1 := Aside0.mk h_; clear h_; have h_ := Kd.R_step HO11_2.out (fun k_ h1_ h2_ => hk_.2 k_ h2_ (fun h3_ => by obtain ⟨_, _⟩ := h1_; have := E15.out; have := Z1.out; have := Z2.out; have := Z3.out; have := Z5.out; have := Z10.out; have := Z11.out; have := Z12.out; have := Z13.out; have := Z14.out; have := Z15.out; omega)); clear HO11_2; have HO11_2 := Aside0.mk h_; clear h_; have h_ := Kd.R_step HO11_3.out (fun k_ h1_ h2_ => hk_.2 k_ h2_ (fun h3_ => by obtain ⟨_, _⟩ := h1_; have := E15.out; have := Z1.out; have := Z2.out; have := Z3.out; have := Z5.out; have := Z10.out; have := Z11.out; have := Z12.out; have := Z13.out; have := Z14.out; have := Z15.out; omega)); clear HO11_3; have HO11_3 := Aside0.mk h_; clear h_; have h_ := Kd.R_step HO11_4.out (fun k_ h1_ h2_ => hk_.2 k_ h2_ (fun h3_ => by obtain ⟨_, _⟩ := h1_; have := E15.out; have := Z1.out; have := Z2.out; have := Z3.out; have := Z5.out; have := Z10.out; have := Z11.out; have := Z12.out; have := Z13.out; have := Z14.out; have := Z15.out; omega)); clear HO11_4; have HO11_4 := Aside0.mk h_; clear h_; have h_ := Kd.S_step HO12_0.out (fun k_ h1_ h2_ => hk_.2 k_ h2_ (fun h3_ => by obtain ⟨_, _⟩ := h1_; have := E15.out; have := Z1.out; have := Z2.out; have := Z3.out; have := Z5.out; have := Z10.out; have := Z11.out; have := Z12.out; have := Z13.out; have := Z14.out; have := Z15.out; omega)); clear HO12_0; have HO12_0 := Aside0.mk h_; clear h_; have h_ := Kd.R_step HO12_1.out (fun k_ h1_ h2_ => hk_.2 k_ h2_ (fun h3_ => by obtain ⟨_, _⟩ := h1_; have := E15.out; have := Z1.out; have := Z2.out; have := Z3.out; have := Z5.out; have := Z10.out; have := Z11.out; have := Z12.out; have := Z13.out; have := Z14.out; have := Z15.out; omega)); clear HO12_1; have HO12_1 := Aside0.mk h_; clear h_; have h_ := Kd.R_step HO12_2.out (fun k_ h1_ h2_ => hk_.2 k_ h2_ (fun h3_ => by obtain ⟨_, _⟩ := h1_; have := E15.out; have := Z1.out; have := Z2.out; have := Z3.out; have := Z5.out; have := Z10.out; have := Z11.out; have := Z12.out; have := Z13.out; have := Z14.out; have := Z15.out; omega)); clear HO12_2; have HO12_2 := Aside0.mk h_; clear h_; have h_ := Kd.R_step HO12_3.out (fun k_ h1_ h2_ => hk_.2 k_ h2_ (fun h3_ => by obtain ⟨_, _⟩ := h1_; have := E15.out; have := Z1.out; have := Z2.out; have := Z3.out; have := Z5.out; have := Z10.out; have := Z11.out; have := Z12.out; have := Z13.out; have := Z14.out; have := Z15.out; omega)); clear HO12_3; have HO12_3 := Aside0.mk h_; clear h_; have h_ := Kd.R_step HO12_4.out (fun k_ h1_ h2_ => hk_.2 k_ h2_ (fun h3_ => by obtain ⟨_, _⟩ := h1_; have := E15.out; have := Z1.out; have := Z2.out; have := Z3.out; have := Z5.out; have := Z10.out; have := Z11.out; have := Z12.out; have := Z13.out; have := Z14.out; have := Z15.out; omega)); clear HO12_4; have HO12_4 := Aside0.mk h_; clear h_; have h_ := Kd.S_step HO14_0.out (fun k_ h1_ h2_ => hk_.2 k_ h2_ (fun h3_ => by obtain ⟨_, _⟩ := h1_; have := E15.out; have := Z1.out; have := Z2.out; have := Z3.out; have := Z5.out; have := Z10.out; have := Z11.out; have := Z12.out; have := Z13.out; have := Z14.out; have := Z15.out; omega)); clear HO14_0; have HO14_0 := Aside0.mk h_; clear h_; have h_ := Kd.R_step HO14_1.out (fun k_ h1_ h2_ => hk_.2 k_ h2_ (fun h3_ => by obtain ⟨_, _⟩ := h1_; have := E15.out; have := Z1.out; have := Z2.out; have := Z3.out; have := Z5.out; have := Z10.out; have := Z11.out; have := Z12.out; have := Z13.out; have := Z14.out; have := Z15.out; omega)); clear HO14_1; have HO14_1 := Aside0.mk h_; clear h_; have h_ := Kd.R_step HO14_2.out (fun k_ h1_ h2_ => hk_.2 k_ h2_ (fun h3_ => by obtain ⟨_, _⟩ := h1_; have := E15.out; have := Z1.out; have := Z2.out; have := Z3.out; have := Z5.out; have := Z10.out; have := Z11.out; have := Z12.out; have := Z13.out; have := Z14.out; have := Z15.out; omega)); clear HO14_2; have HO14_2 := Aside0.mk h_; clear h_; have h_ := Kd.R_step HO14_3.out (fun k_ h1_ h2_ => hk_.2 k_ h2_ (fun h3_ => by obtain ⟨_, _⟩ := h1_; have := E15.out; have := Z1.out; have := Z2.out; have := Z3.out; have := Z5.out; have := Z10.out; have := Z11.out; have := Z12.out; have := Z13.out; have := Z14.out; have := Z15.out; omega)); clear HO14_3; have HO14_3 := Aside0.mk h_; clear h_; have h_ := Kd.R_step HO14_4.out (fun k_ h1_ h2_ => hk_.2 k_ h2_ (fun h3_ => by obtain ⟨_, _⟩ := h1_; have := E15.out; have := Z1.out; have := Z2.out; have := Z3.out; have := Z5.out; have := Z10.out; have := Z11.out; have := Z12.out; have := Z13.out; have := Z14.out; have := Z15.out; omega)); clear HO14_4; have HO14_4 := Aside0.mk h_; clear h_; have h_ := blk_kept BK1.out hk_ (fun hp_ => by have := E1.out; have := E15.out; have := Z1.out; have := Z2.out; have := Z3.out; have := Z5.out; have := Z10.out; have := Z11.out; have := Z12.out; have := Z13.out; have := Z14.out; have := Z15.out; omega); clear BK1 c_BK1 z_BK1; have BK1 := Aside0.mk h_; have c_BK1 := blk_cell h_; have z_BK1 := blk_frozen h_; clear h_; have h_ := blk_kept BK2.out hk_ (fun hp_ => by have := E2.out; have := E15.out; have := Z1.out; have := Z2.out; have := Z3.out; have := Z5.out; have := Z10.out; have := Z11.out; have := Z12.out; have := Z13.out; have := Z14.out; have := Z15.out; omega); clear BK2 c_BK2 z_BK2; have BK2 := Aside0.mk h_; have c_BK2 := blk_cell h_; have z_BK2 := blk_frozen h_; clear h_; have h_ := blk_set (blk_set (blk_set (blk_set (blk_set (blk_set (BK15.out) 0 (.slice A14_0 n14_0 c14_0)) 1 (.slice A14_1 n14_1 c14_1)) 2 (.slice A14_2 n14_2 c14_2)) 3 (.slice A14_3 n14_3 c14_3)) 4 (.int .i64 t443)) 5 (.slice A14_4 n14_4 c14_4); rw [← hw] at h_; simp only [List.setIfInBounds_toArray, List.set_cons_zero, List.set_cons_succ] at h_; clear BK15 c_BK15 z_BK15; have BK15 := Aside0.mk h_; have c_BK15 := blk_cell h_; have z_BK15 := blk_frozen h_; clear h_; have hB_ : Below w.heap.size w W16 := (by rw [hw]; exact below_set (below_set (below_set (below_set (below_set (below_set (HB.out) hge_) hge_) hge_) hge_) hge_) hge_); clear HB hw hk_ hge_; have HB := Aside0.mk hB_; clear hB_))
      have H := H''.out
      clear H''
      replace H := Option.bind_eq_some_iff.mp H
      obtain ⟨⟨t448, t451, t454, t457, t460, t461⟩, hm, H⟩ := H
      try dsimp only at H
      have H' := Aside0.mk H
      clear H
      have hcall := laws_toCenter.calls k _ _ l1_0 _ _ l1_1 _ _ l1_2 _ _ l1_3 a1_4 _ _ l1_5 t448 t451 t454 t457 t460 t461 W16 (Kd.C_below HR1_0.out HB.out) HC1_0.out (Kd.C_below HR1_1.out HB.out) HC1_1.out (Kd.C_below HR1_2.out HB.out) HC1_2.out (Kd.C_below HR1_3.out HB.out) HC1_3.out (Kd.C_below HR1_5.out HB.out) HC1_5.out hm
      clear hm
      try go_wp2_with fail
      refine hcall.mono ?_
      rintro e W17 ⟨v449, v452, v455, v458, v462, rfl, ho0, ho1, ho2, ho3, ho4, hb⟩
      clear hcall
      have Z17 := Aside0.mk hb.size
      have h_ := Kd.S_below HO11_0.out hb
      clear HO11_0
      have HO11_0 := Aside0.mk h_
      clear h_
      have h_ := Kd.R_below HO11_1.out hb
      clear HO11_1
      have HO11_1 := Aside0.mk h_
      clear h_
      have h_ := Kd.R_below HO11_2.out hb
      clear HO11_2
      have HO11_2 := Aside0.mk h_
      clear h_
      have h_ := Kd.R_below HO11_3.out hb
      clear HO11_3
      have HO11_3 := Aside0.mk h_
      clear h_
      have h_ := Kd.R_below HO11_4.out hb
      clear HO11_4
      have HO11_4 := Aside0.mk h_
      clear h_
      have h_ := Kd.S_below HO12_0.out hb
      clear HO12_0
      have HO12_0 := Aside0.mk h_
      clear h_
      have h_ := Kd.R_below HO12_1.out hb
      clear HO12_1
      have HO12_1 := Aside0.mk h_
      clear h_
      have h_ := Kd.R_below HO12_2.out hb
      clear HO12_2
      have HO12_2 := Aside0.mk h_
      clear h_
      have h_ := Kd.R_below HO12_3.out hb
      clear HO12_3
      have HO12_3 := Aside0.mk h_
      clear h_
      have h_ := Kd.R_below HO12_4.out hb
      clear HO12_4
      have HO12_4 := Aside0.mk h_
      clear h_
      have h_ := Kd.S_below HO14_0.out hb
      clear HO14_0
      have HO14_0 := Aside0.mk h_
      clear h_
      have h_ := Kd.R_below HO14_1.out hb
      clear HO14_1
      have HO14_1 := Aside0.mk h_
      clear h_
      have h_ := Kd.R_below HO14_2.out hb
      clear HO14_2
      have HO14_2 := Aside0.mk h_
      clear h_
      have h_ := Kd.R_below HO14_3.out hb
      clear HO14_3
      have HO14_3 := Aside0.mk h_
      clear h_
      have h_ := Kd.R_below HO14_4.out hb
      clear HO14_4
      have HO14_4 := Aside0.mk h_
      clear h_
      obtain ⟨A17_0, n17_0, c17_0, rfl, hn_, hr_⟩ := Go.Proofs.YtineejdlpcgnkaaM.S_made ho0 HB.out.size
      clear hn_ ho0
      have HO17_0 := Aside0.mk hr_
      clear hr_
      obtain ⟨A17_1, n17_1, c17_1, rfl, hn_, hr_⟩ := Go.Proofs.YtineejdlpcgnkaaM.R_made ho1 HB.out.size
      clear hn_ ho1
      have HO17_1 := Aside0.mk hr_
      clear hr_
      obtain ⟨A17_2, n17_2, c17_2, rfl, hn_, hr_⟩ := Go.Proofs.YtineejdlpcgnkaaM.R_made ho2 HB.out.size
      clear hn_ ho2
      have HO17_2 := Aside0.mk hr_
      clear hr_
      obtain ⟨A17_3, n17_3, c17_3, rfl, hn_, hr_⟩ := Go.Proofs.YtineejdlpcgnkaaM.R_made ho3 HB.out.size
      clear hn_ ho3
      have HO17_3 := Aside0.mk hr_
      clear hr_
      obtain ⟨A17_4, n17_4, c17_4, rfl, hn_, hr_⟩ := Go.Proofs.YtineejdlpcgnkaaM.R_made ho4 HB.out.size
      clear hn_ ho4
      have HO17_4 := Aside0.mk hr_
      clear hr_
      have h_ := blk_below BK1.out hb
      clear BK1 c_BK1 z_BK1
      have BK1 := Aside0.mk h_
      have c_BK1 := blk_cell h_
      have z_BK1 := blk_frozen h_
      clear h_
      have h_ := blk_below BK2.out hb
      clear BK2 c_BK2 z_BK2
      have BK2 := Aside0.mk h_
      have c_BK2 := blk_cell h_
      have z_BK2 := blk_frozen h_
      clear h_
      have h_ := blk_below BK15.out hb
      clear BK15 c_BK15 z_BK15
      have BK15 := Aside0.mk h_
      have c_BK15 := blk_cell h_
      have z_BK15 := blk_frozen h_
      clear h_
      have hB_ := below_step HB.out hb
      clear HB hb
      have HB := Aside0.mk hB_
      clear hB_
      have H := H'.out
      clear H'
      have H'' := Aside0.mk H
      clear H
      go_wp2_with (first | ((with_reducible refine gate_dst (N := 8) rfl ?_); refine box_event ?hg (N := 8) ?hd (cs := #[.slice none 0 0, .slice none 0 0, .slice none 0 0, .slice none 0 0, .int .i64 0, .slice none 0 0]) (t := 64) ?hr ?_; (case hd => rfl); (case hg => rfl); (case hr => first | (go_simp; done) | (go_simp; rfl)); intro gb18 hg W18 hbox hb; have Z18 := Aside0.mk hb.size; have E18 := Aside0.mk (And.intro hg (blk_lt hbox)); have h_ := Kd.S_below HO11_0.out hb; clear HO11_0; have HO11_0 := Aside0.mk h_; clear h_; have h_ := Kd.R_below HO11_1.out hb; clear HO11_1; have HO11_1 := Aside0.mk h_; clear h_; have h_ := Kd.R_below HO11_2.out hb; clear HO11_2; have HO11_2 := Aside0.mk h_; clear h_; have h_ := Kd.R_below HO11_3.out hb; clear HO11_3; have HO11_3 := Aside0.mk h_; clear h_; have h_ := Kd.R_below HO11_4.out hb; clear HO11_4; have HO11_4 := Aside0.mk h_; clear h_; have h_ := Kd.S_below HO12_0.out hb; clear HO12_0; have HO12_0 := Aside0.mk h_; clear h_; have h_ := Kd.R_below HO12_1.out hb; clear HO12_1; have HO12_1 := Aside0.mk h_; clear h_; have h_ := Kd.R_below HO12_2.out hb; clear HO12_2; have HO12_2 := Aside0.mk h_; clear h_; have h_ := Kd.R_below HO12_3.out hb; clear HO12_3; have HO12_3 := Aside0.mk h_; clear h_; have h_ := Kd.R_below HO12_4.out hb; clear HO12_4; have HO12_4 := Aside0.mk h_; clear h_; have h_ := Kd.S_below HO14_0.out hb; clear HO14_0; have HO14_0 := Aside0.mk h_; clear h_; have h_ := Kd.R_below HO14_1.out hb; clear HO14_1; have HO14_1 := Aside0.mk h_; clear h_; have h_ := Kd.R_below HO14_2.out hb; clear HO14_2; have HO14_2 := Aside0.mk h_; clear h_; have h_ := Kd.R_below HO14_3.out hb; clear HO14_3; have HO14_3 := Aside0.mk h_; clear h_; have h_ := Kd.R_below HO14_4.out hb; clear HO14_4; have HO14_4 := Aside0.mk h_; clear h_; have h_ := Kd.S_below HO17_0.out hb; clear HO17_0; have HO17_0 := Aside0.mk h_; clear h_; have h_ := Kd.R_below HO17_1.out hb; clear HO17_1; have HO17_1 := Aside0.mk h_; clear h_; have h_ := Kd.R_below HO17_2.out hb; clear HO17_2; have HO17_2 := Aside0.mk h_; clear h_; have h_ := Kd.R_below HO17_3.out hb; clear HO17_3; have HO17_3 := Aside0.mk h_; clear h_; have h_ := Kd.R_below HO17_4.out hb; clear HO17_4; have HO17_4 := Aside0.mk h_; clear h_; have h_ := blk_below BK1.out hb; clear BK1 c_BK1 z_BK1; have BK1 := Aside0.mk h_; have c_BK1 := blk_cell h_; have z_BK1 := blk_frozen h_; clear h_; have h_ := blk_below BK2.out hb; clear BK2 c_BK2 z_BK2; have BK2 := Aside0.mk h_; have c_BK2 := blk_cell h_; have z_BK2 := blk_frozen h_; clear h_; have h_ := blk_below BK15.out hb; clear BK15 c_BK15 z_BK15; have BK15 := Aside0.mk h_; have c_BK15 := blk_cell h_; have z_BK15 := blk_frozen h_; clear h_; have BK18 := Aside0.mk hbox; have c_BK18 := blk_cell hbox; have z_BK18 := blk_frozen hbox; have hB_ := below_step HB.out hb; clear HB hb hbox hg; have HB := Aside0.mk hB_; clear hB_) | ((with_reducible refine gate_store (t := 64) (p := 8) rfl ?_); refine store_event (t := 64) (p := 8) (v := ?vo_s19) (w1 := ((((((W18.setCell ⟨gb18, 0, none⟩ (.slice A17_0 n17_0 c17_0)).setCell ⟨gb18, 1, none⟩ (.slice A17_1 n17_1 c17_1)).setCell ⟨gb18, 2, none⟩ (.slice A17_2 n17_2 c17_2)).setCell ⟨gb18, 3, none⟩ (.slice A17_3 n17_3 c17_3)).setCell ⟨gb18, 4, none⟩ (.int .i64 t460)).setCell ⟨gb18, 5, none⟩ (.slice A17_4 n17_4 c17_4))) ?hg ?ho ?hn ?hr ?_; (case ho => rfl); (case hg => rfl); (case hn => rfl); (case hr => first | (go_simp; done) | (go_simp; rfl)); intro W19 hw; have hk_ : Kept W18 W19 (fun k_ => k_ = gb18) := (by rw [hw]; exact Kept.setCell (Kept.setCell (Kept.setCell (Kept.setCell (Kept.setCell (Kept.setCell (Kept.refl W18 (fun k_ => k_ = gb18)) (.inl rfl) _) (.inl rfl) _) (.inl rfl) _) (.inl rfl) _) (.inl rfl) _) (.inl rfl) _); have hge_ : w.heap.size ≤ gb18 := (by have := E18.out.1; have := HB.out.size; have := Z1.out; have := Z2.out; have := Z3.out; have := Z5.out; have := Z10.out; have := Z11.out; have := Z12.out; have := Z13.out; have := Z14.out; have := Z15.out; have := Z16.out; have := Z17.out; have := Z18.out; omega); have Z19 := Aside0.mk hk_.1; have h_ := Kd.S_step HO11_0.out (fun k_ h1_ h2_ => hk_.2 k_ h2_ (fun h3_ => by obtain ⟨_, _⟩ := h1_; have := E18.out; have := Z1.out; have := Z2.out; have := Z3.out; have := Z5.out; have := Z10.out; have := Z11.out; have := Z12.out; have := Z13.out; have := Z14.out; have := Z15.out; have := Z16.out; have := Z17.out; have := Z18.out; omega)); clear HO11_0; have HO11_0 := Aside0.mk h_; clear h_; have h_ := Kd.R_step HO11_1.out (fun k_ h1_ h2_ => hk_.2 k_ h2_ (fun h3_ => by obtain ⟨_, _⟩ := h1_; have := E18.out; have := Z1.out; have := Z2.out; have := Z3.out; have := Z5.out; have := Z10.out; have := Z11.out; have := Z12.out; have := Z13.out; have := Z14.out; have := Z15.out; have := Z16.out; have := Z17.out; have := Z18.out; omega)); clear HO11_1; have HO11_1 := Aside0.mk h_; clear h_; have h_ := Kd.R_step HO11_2.out (fun k_ h1_ h2_ => hk_.2 k_ h2_ (fun h3_ => by obtain ⟨_, _⟩ := h1_; have := E18.out; have := Z1.out; have := Z2.out; have := Z3.out; have := Z5.out; have := Z10.out; have := Z11.out; have := Z12.out; have := Z13.out; have := Z14.out; have := Z15.out; have := Z16.out; have := Z17.out; have := Z18.out; omega)); clear HO11_2; have HO11_2 := Aside0.mk h_; clear h_; have h_ := Kd.R_step HO11_3.out (fun k_ h1_ h2_ => hk_.2 k_ h2_ (fun h3_ => by obtain ⟨_, _⟩ := h1_; have := E18.out; have := Z1.out; have := Z2.out; have := Z3.out; have := Z5.out; have := Z10.out; have := Z11.out; have := Z12.out; have := Z13.out; have := Z14.out; have := Z15.out; have := Z16.out; have := Z17.out; have := Z18.out; omega)); clear HO11_3; have HO11_3 := Aside0.mk h_; clear h_; have h_ := Kd.R_step HO11_4.out (fun k_ h1_ h2_ => hk_.2 k_ h2_ (fun h3_ => by obtain ⟨_, _⟩ := h1_; have := E18.out; have := Z1.out; have := Z2.out; have := Z3.out; have := Z5.out; have := Z10.out; have := Z11.out; have := Z12.out; have := Z13.out; have := Z14.out; have := Z15.out; have := Z16.out; have := Z17.out; have := Z18.out; omega)); clear HO11_4; have HO11_4 := Aside0.mk h_; clear h_; have h_ := Kd.S_step HO12_0.out (fun k_ h1_ h2_ => hk_.2 k_ h2_ (fun h3_ => by obtain ⟨_, _⟩ := h1_; have := E18.out; have := Z1.out; have := Z2.out; have := Z3.out; have := Z5.out; have := Z10.out; have := Z11.out; have := Z12.out; have := Z13.out; have := Z14.out; have := Z15.out; have := Z16.out; have := Z17.out; have := Z18.out; omega)); clear HO12_0; have HO12_0 := Aside0.mk h_; clear h_; have h_ := Kd.R_step HO12_1.out (fun k_ h1_ h2_ => hk_.2 k_ h2_ (fun h3_ => by obtain ⟨_, _⟩ := h1_; have := E18.out; have := Z1.out; have := Z2.out; have := Z3.out; have := Z5.out; have := Z10.out; have := Z11.out; have := Z12.out; have := Z13.out; have := Z14.out; have := Z15.out; have := Z16.out; have := Z17.out; have := Z18.out; omega)); clear HO12_1; have HO12_1 := Aside0.mk h_; clear h_; have h_ := Kd.R_step HO12_2.out (fun k_ h1_ h2_ => hk_.2 k_ h2_ (fun h3_ => by obtain ⟨_, _⟩ := h1_; have := E18.out; have := Z1.out; have := Z2.out; have := Z3.out; have := Z5.out; have := Z10.out; have := Z11.out; have := Z12.out; have := Z13.out; have := Z14.out; have := Z15.out; have := Z16.out; have := Z17.out; have := Z18.out; omega)); clear HO12_2; have HO12_2 := Aside0.mk h_; clear h_; have h_ := Kd.R_step HO12_3.out (fun k_ h1_ h2_ => hk_.2 k_ h2_ (fun h3_ => by obtain ⟨_, _⟩ := h1_; have := E18.out; have := Z1.out; have := Z2.out; have := Z3.out; have := Z5.out; have := Z10.out; have := Z11.out; have := Z12.out; have := Z13.out; have := Z14.out; have := Z15.out; have := Z16.out; have := Z17.out; have := Z18.out; omega)); clear HO12_3; have HO12_3 := Aside0.mk h_; clear h_; have h_ := Kd.R_step HO12_4.out (fun k_ h1_ h2_ => hk_.2 k_ h2_ (fun h3_ => by obtain ⟨_, _⟩ := h1_; have := E18.out; have := Z1.out; have := Z2.out; have := Z3.out; have := Z5.out; have := Z10.out; have := Z11.out; have := Z12.out; have := Z13.out; have := Z14.out; have := Z15.out; have := Z16.out; have := Z17.out; have := Z18.out; omega)); clear HO12_4; have HO12_4 := Aside0.mk h_; clear h_; have h_ := Kd.S_step HO14_0.out (fun k_ h1_ h2_ => hk_.2 k_ h2_ (fun h3_ => by obtain ⟨_, _⟩ := h1_; have := E18.out; have := Z1.out; have := Z2.out; have := Z3.out; have := Z5.out; have := Z10.out; have := Z11.out; have := Z12.out; have := Z13.out; have := Z14.out; have := Z15.out; have := Z16.out; have := Z17.out; have := Z18.out; omega)); clear HO14_0; have HO14_0 := Aside0.mk h_; clear h_; have h_ := Kd.R_step HO14_1.out (fun k_ h1_ h2_ => hk_.2 k_ h2_ (fun h3_ => by obtain ⟨_, _⟩ := h1_; have := E18.out; have := Z1.out; have := Z2.out; have := Z3.out; have := Z5.out; have := Z10.out; have := Z11.out; have := Z12.out; have := Z13.out; have := Z14.out; have := Z15.out; have := Z16.out; have := Z17.out; have := Z18.out; omega)); clear HO14_1; have HO14_1 := Aside0.mk h_; clear h_; have h_ := Kd.R_step HO14_2.out (fun k_ h1_ h2_ => hk_.2 k_ h2_ (fun h3_ => by obtain ⟨_, _⟩ := h1_; have := E18.out; have := Z1.out; have := Z2.out; have := Z3.out; have := Z5.out; have := Z10.out; have := Z11.out; have := Z12.out; have := Z13.out; have := Z14.out; have := Z15.out; have := Z16.out; have := Z17.out; have := Z18.out; omega)); clear HO14_2; have HO14_2 := Aside0.mk h_; clear h_; have h_ := Kd.R_step HO14_3.out (fun k_ h1_ h2_ => hk_.2 k_ h2_ (fun h3_ => by obtain ⟨_, _⟩ := h1_; have := E18.out; have := Z1.out; have := Z2.out; have := Z3.out; have := Z5.out; have := Z10.out; have := Z11.out; have := Z12.out; have := Z13.out; have := Z14.out; have := Z15.out; have := Z16.out; have := Z17.out; have := Z18.out; omega)); clear HO14_3; have HO14_3 := Aside0.mk h_; clear h_; have h_ := Kd.R_step HO14_4.out (fun k_ h1_ h2_ => hk_.2 k_ h2_ (fun h3_ => by obtain ⟨_, _⟩ := h1_; have := E18.out; have := Z1.out; have := Z2.out; have := Z3.out; have := Z5.out; have := Z10.out; have := Z11.out; have := Z12.out; have := Z13.out; have := Z14.out; have := Z15.out; have := Z16.out; have := Z17.out; have := Z18.out; omega)); clear HO14_4; have HO14_4 := Aside0.mk h_; clear h_; have h_ := Kd.S_step HO17_0.out (fun k_ h1_ h2_ => hk_.2 k_ h2_ (fun h3_ => by obtain ⟨_, _⟩ := h1_; have := E18.out; have := Z1.out; have := Z2.out; have := Z3.out; have := Z5.out; have := Z10.out; have := Z11.out; have := Z12.out; have := Z13.out; have := Z14.out; have := Z15.out; have := Z16.out; have := Z17.out; have := Z18.out; omega)); clear HO17_0; have HO17_0 := Aside0.mk h_; clear h_; have h_ := Kd.R_step HO17_1.out (fun k_ h1_ h2_ => hk_.2 k_ h2_ (fun h3_ => by obtain ⟨_, _⟩ := h1_; have := E18.out; have := Z1.out; have := Z2.out; have := Z3.out; have := Z5.out; have := Z10.out; have := Z11.out; have := Z12.out; have := Z13.out; have := Z14.out; have := Z15.out; have := Z16.out; have := Z17.out; have := Z18.out; omega)); clear HO17_1; have HO17_1 := Aside0.mk h_; clear h_; have h_ := Kd.R_step HO17_2.out (fun k_ h1_ h2_ => hk_.2 k_ h2_ (fun h3_ => by obtain ⟨_, _⟩ := h1_; have := E18.out; have := Z1.out; have := Z2.out; have := Z3.out; have := Z5.out; have := Z10.out; have := Z11.out; have := Z12.out; have := Z13.out; have := Z14.out; have := Z15.out; have := Z16.out; have := Z17.out; have := Z18.out; omega)); clear HO17_2; have HO17_2 := Aside0.mk h_; clear h_; have h_ := Kd.R_step HO17_3.out (fun k_ h1_ h2_ => hk_.2 k_ h2_ (fun h3_ => by obtain ⟨_, _⟩ := h1_; have := E18.out; have := Z1.out; have := Z2.out; have := Z3.out; have := Z5.out; have := Z10.out; have := Z11.out; have := Z12.out; have := Z13.out; have := Z14.out; have := Z15.out; have := Z16.out; have := Z17.out; have := Z18.out; omega)); clear HO17_3; have HO17_3 := Aside0.mk h_; clear h_; have h_ := Kd.R_step HO17_4.out (fun k_ h1_ h2_ => hk_.2 k_ h2_ (fun h3_ => by obtain ⟨_, _⟩ := h1_; have := E18.out; have := Z1.out; have := Z2.out; have := Z3.out; have := Z5.out; have := Z10.out; have := Z11.out; have := Z12.out; have := Z13.out; have := Z14.out; have := Z15.out; have := Z16.out; have := Z17.out; have := Z18.out; omega)); clear HO17_4; have HO17_4 := Aside0.mk h_; clear h_; have h_ := blk_kept BK1.out hk_ (fun hp_ => by have := E1.out; have := E18.out; have := Z1.out; have := Z2.out; have := Z3.out; have := Z5.out; have := Z10.out; have := Z11.out; have := Z12.out; have := Z13.out; have := Z14.out; have := Z15.out; have := Z16.out; have := Z17.out; have := Z18.out; omega); clear BK1 c_BK1 z_BK1; have BK1 := Aside0.mk h_; have c_BK1 := blk_cell h_; have z_BK1 := blk_frozen h_; clear h_; have h_ := blk_kept BK2.out hk_ (fun hp_ => by have := E2.out; have := E18.out; have := Z1.out; have := Z2.out; have := Z3.out; have := Z5.out; have := Z10.out; have := Z11.out; have := Z12.out; have := Z13.out; have := Z14.out; have := Z15.out; have := Z16.out; have := Z17.out; have := Z18.out; omega); clear BK2 c_BK2 z_BK2; have BK2 := Aside0.mk h_; have c_BK2 := blk_cell h_; have z_BK2 := blk_frozen h_; clear h_; have h_ := blk_kept BK15.out hk_ (fun hp_ => by have := E15.out; have := E18.out; have := Z1.out; have := Z2.out; have := Z3.out; have := Z5.out; have := Z10.out; have := Z11.out; have := Z12.out; have := Z13.out; have := Z14.out; have := Z15.out; have := Z16.out; have := Z17.out; have := Z18.out; omega); clear BK15 c_BK15 z_BK15; have BK15 := Aside0.mk h_; have c_BK15 := blk_cell h_; have z_BK15 := blk_frozen h_; clear h_; have h_ := blk_set (blk_set (blk_set (blk_set (blk_set (blk_set (BK18.out) 0 (.slice A17_0 n17_0 c17_0)) 1 (.slice A17_1 n17_1 c17_1)) 2 (.slice A17_2 n17_2 c17_2)) 3 (.slice A17_3 n17_3 c17_3)) 4 (.int .i64 t460)) 5 (.slice A17_4 n17_4 c17_4); rw [← hw] at h_; simp only [List.setIfInBounds_toArray, List.set_cons_zero, List.set_cons_succ] at h_; clear BK18 c_BK18 z_BK18; have BK18 := Aside0.mk h_; have c_BK18 := blk_cell h_; have z_BK18 := blk_frozen h_; clear h_; have hB_ : Below w.heap.size w W19 := (by rw [hw]; exact below_set (below_set (below_set (below_set (below_set (below_set (HB.out) hge_) hge_) hge_) hge_) hge_) hge_); clear HB hw hk_ hge_; have HB := Aside0.mk hB_; clear hB_))
      have H := H''.out
      clear H''
      replace H := Option.bind_eq_some_iff.mp H
      obtain ⟨t465, hm, H⟩ := H
      try dsimp only at H
      have H' := Aside0.mk H
      clear H
      have hcall := impl_EqualCenters.calls k _ _ t431 _ _ t434 _ _ t437 _ _ t440 t443 _ _ t444 _ _ t448 _ _ t451 _ _ t454 _ _ t457 t460 _ _ t461 t465 W19 (Go.Proofs.YtineejdlpcgnkaaM.S_C HO14_0.out) (Go.Proofs.YtineejdlpcgnkaaM.S_len HO14_0.out) (Go.Proofs.YtineejdlpcgnkaaM.R_C HO14_1.out) (Go.Proofs.YtineejdlpcgnkaaM.R_len HO14_1.out) (Go.Proofs.YtineejdlpcgnkaaM.R_C HO14_2.out) (Go.Proofs.YtineejdlpcgnkaaM.R_len HO14_2.out) (Go.Proofs.YtineejdlpcgnkaaM.R_C HO14_3.out) (Go.Proofs.YtineejdlpcgnkaaM.R_len HO14_3.out) (Go.Proofs.YtineejdlpcgnkaaM.R_C HO14_4.out) (Go.Proofs.YtineejdlpcgnkaaM.R_len HO14_4.out) (Go.Proofs.YtineejdlpcgnkaaM.S_C HO17_0.out) (Go.Proofs.YtineejdlpcgnkaaM.S_len HO17_0.out) (Go.Proofs.YtineejdlpcgnkaaM.R_C HO17_1.out) (Go.Proofs.YtineejdlpcgnkaaM.R_len HO17_1.out) (Go.Proofs.YtineejdlpcgnkaaM.R_C HO17_2.out) (Go.Proofs.YtineejdlpcgnkaaM.R_len HO17_2.out) (Go.Proofs.YtineejdlpcgnkaaM.R_C HO17_3.out) (Go.Proofs.YtineejdlpcgnkaaM.R_len HO17_3.out) (Go.Proofs.YtineejdlpcgnkaaM.R_C HO17_4.out) (Go.Proofs.YtineejdlpcgnkaaM.R_len HO17_4.out) hm
      rw [Go.Proofs.YtineejdlpcgnkaaM.S_n HO14_0.out, Go.Proofs.YtineejdlpcgnkaaM.R_n HO14_1.out, Go.Proofs.YtineejdlpcgnkaaM.R_n HO14_2.out, Go.Proofs.YtineejdlpcgnkaaM.R_n HO14_3.out, Go.Proofs.YtineejdlpcgnkaaM.R_n HO14_4.out, Go.Proofs.YtineejdlpcgnkaaM.S_n HO17_0.out, Go.Proofs.YtineejdlpcgnkaaM.R_n HO17_1.out, Go.Proofs.YtineejdlpcgnkaaM.R_n HO17_2.out, Go.Proofs.YtineejdlpcgnkaaM.R_n HO17_3.out, Go.Proofs.YtineejdlpcgnkaaM.R_n HO17_4.out] at hcall
      clear hm
      try go_wp2_with fail
      refine hcall.mono ?_
      rintro e W20 ⟨rfl, hb⟩
      clear hcall
      have Z20 := Aside0.mk hb.size
      have h_ := Kd.S_below HO11_0.out hb
      clear HO11_0
      have HO11_0 := Aside0.mk h_
      clear h_
      have h_ := Kd.R_below HO11_1.out hb
      clear HO11_1
      have HO11_1 := Aside0.mk h_
      clear h_
      have h_ := Kd.R_below HO11_2.out hb
      clear HO11_2
      have HO11_2 := Aside0.mk h_
      clear h_
      have h_ := Kd.R_below HO11_3.out hb
      clear HO11_3
      have HO11_3 := Aside0.mk h_
      clear h_
      have h_ := Kd.R_below HO11_4.out hb
      clear HO11_4
      have HO11_4 := Aside0.mk h_
      clear h_
      have h_ := Kd.S_below HO12_0.out hb
      clear HO12_0
      have HO12_0 := Aside0.mk h_
      clear h_
      have h_ := Kd.R_below HO12_1.out hb
      clear HO12_1
      have HO12_1 := Aside0.mk h_
      clear h_
      have h_ := Kd.R_below HO12_2.out hb
      clear HO12_2
      have HO12_2 := Aside0.mk h_
      clear h_
      have h_ := Kd.R_below HO12_3.out hb
      clear HO12_3
      have HO12_3 := Aside0.mk h_
      clear h_
      have h_ := Kd.R_below HO12_4.out hb
      clear HO12_4
      have HO12_4 := Aside0.mk h_
      clear h_
      have h_ := Kd.S_below HO14_0.out hb
      clear HO14_0
      have HO14_0 := Aside0.mk h_
      clear h_
      have h_ := Kd.R_below HO14_1.out hb
      clear HO14_1
      have HO14_1 := Aside0.mk h_
      clear h_
      have h_ := Kd.R_below HO14_2.out hb
      clear HO14_2
      have HO14_2 := Aside0.mk h_
      clear h_
      have h_ := Kd.R_below HO14_3.out hb
      clear HO14_3
      have HO14_3 := Aside0.mk h_
      clear h_
      have h_ := Kd.R_below HO14_4.out hb
      clear HO14_4
      have HO14_4 := Aside0.mk h_
      clear h_
      have h_ := Kd.S_below HO17_0.out hb
      clear HO17_0
      have HO17_0 := Aside0.mk h_
      clear h_
      have h_ := Kd.R_below HO17_1.out hb
      clear HO17_1
      have HO17_1 := Aside0.mk h_
      clear h_
      have h_ := Kd.R_below HO17_2.out hb
      clear HO17_2
      have HO17_2 := Aside0.mk h_
      clear h_
      have h_ := Kd.R_below HO17_3.out hb
      clear HO17_3
      have HO17_3 := Aside0.mk h_
      clear h_
      have h_ := Kd.R_below HO17_4.out hb
      clear HO17_4
      have HO17_4 := Aside0.mk h_
      clear h_
      have h_ := blk_below BK1.out hb
      clear BK1 c_BK1 z_BK1
      have BK1 := Aside0.mk h_
      have c_BK1 := blk_cell h_
      have z_BK1 := blk_frozen h_
      clear h_
      have h_ := blk_below BK2.out hb
      clear BK2 c_BK2 z_BK2
      have BK2 := Aside0.mk h_
      have c_BK2 := blk_cell h_
      have z_BK2 := blk_frozen h_
      clear h_
      have h_ := blk_below BK15.out hb
      clear BK15 c_BK15 z_BK15
      have BK15 := Aside0.mk h_
      have c_BK15 := blk_cell h_
      have z_BK15 := blk_frozen h_
      clear h_
      have h_ := blk_below BK18.out hb
      clear BK18 c_BK18 z_BK18
      have BK18 := Aside0.mk h_
      have c_BK18 := blk_cell h_
      have z_BK18 := blk_frozen h_
      clear h_
      have hB_ := below_step HB.out hb
      clear HB hb
      have HB := Aside0.mk hB_
      clear hB_
      have H := H'.out
      clear H'
      by_cases c21 : (t465 != t430) = true
      · rw [if_pos c21] at H
        have c21_1 : (t465 != t430) = true := by revert c21; cases t465 <;> cases t430 <;> decide
        have c21_2 : (!t465 == t430) = true := by revert c21; cases t465 <;> cases t430 <;> decide
        clear c21
        obtain rfl := Option.some.inj H
        clear H
        go_wp2
        go_ret
        exact ⟨rfl, HB.out⟩
      · rw [if_neg c21] at H
        have c21_1 : (t465 != t430) = false := by revert c21; cases t465 <;> cases t430 <;> decide
        have c21_2 : (!t465 == t430) = false := by revert c21; cases t465 <;> cases t430 <;> decide
        clear c21
        replace H := Option.bind_eq_some_iff.mp H
        obtain ⟨⟨t466, t469, t472, t475, t478, t479⟩, hm, H⟩ := H
        try dsimp only at H
        have HM22 := Aside0.mk hm
        clear hm
        replace H := Option.bind_eq_some_iff.mp H
        obtain ⟨t482, hm, H⟩ := H
        try dsimp only at H
        have HM23 := Aside0.mk hm
        clear hm
        have H' := Aside0.mk H
        clear H
        try go_wp2
        have h_ := Kd.S_drew HO11_0.out
        clear HO11_0
        have HO11_0 := Aside0.mk h_
        clear h_
        have h_ := Kd.R_drew HO11_1.out
        clear HO11_1
        have HO11_1 := Aside0.mk h_
        clear h_
        have h_ := Kd.R_drew HO11_2.out
        clear HO11_2
        have HO11_2 := Aside0.mk h_
        clear h_
        have h_ := Kd.R_drew HO11_3.out
        clear HO11_3
        have HO11_3 := Aside0.mk h_
        clear h_
        have h_ := Kd.R_drew HO11_4.out
        clear HO11_4
        have HO11_4 := Aside0.mk h_
        clear h_
        have h_ := Kd.S_drew HO12_0.out
        clear HO12_0
        have HO12_0 := Aside0.mk h_
        clear h_
        have h_ := Kd.R_drew HO12_1.out
        clear HO12_1
        have HO12_1 := Aside0.mk h_
        clear h_
        have h_ := Kd.R_drew HO12_2.out
        clear HO12_2
        have HO12_2 := Aside0.mk h_
        clear h_
        have h_ := Kd.R_drew HO12_3.out
        clear HO12_3
        have HO12_3 := Aside0.mk h_
        clear h_
        have h_ := Kd.R_drew HO12_4.out
        clear HO12_4
        have HO12_4 := Aside0.mk h_
        clear h_
        have h_ := Kd.S_drew HO14_0.out
        clear HO14_0
        have HO14_0 := Aside0.mk h_
        clear h_
        have h_ := Kd.R_drew HO14_1.out
        clear HO14_1
        have HO14_1 := Aside0.mk h_
        clear h_
        have h_ := Kd.R_drew HO14_2.out
        clear HO14_2
        have HO14_2 := Aside0.mk h_
        clear h_
        have h_ := Kd.R_drew HO14_3.out
        clear HO14_3
        have HO14_3 := Aside0.mk h_
        clear h_
        have h_ := Kd.R_drew HO14_4.out
        clear HO14_4
        have HO14_4 := Aside0.mk h_
        clear h_
        have h_ := Kd.S_drew HO17_0.out
        clear HO17_0
        have HO17_0 := Aside0.mk h_
        clear h_
        have h_ := Kd.R_drew HO17_1.out
        clear HO17_1
        have HO17_1 := Aside0.mk h_
        clear h_
        have h_ := Kd.R_drew HO17_2.out
        clear HO17_2
        have HO17_2 := Aside0.mk h_
        clear h_
        have h_ := Kd.R_drew HO17_3.out
        clear HO17_3
        have HO17_3 := Aside0.mk h_
        clear h_
        have h_ := Kd.R_drew HO17_4.out
        clear HO17_4
        have HO17_4 := Aside0.mk h_
        clear h_
        have h_ := blk_drew BK1.out
        clear BK1 c_BK1 z_BK1
        have BK1 := Aside0.mk h_
        clear h_
        have h_ := blk_drew BK2.out
        clear BK2 c_BK2 z_BK2
        have BK2 := Aside0.mk h_
        clear h_
        have h_ := blk_drew BK15.out
        clear BK15 c_BK15 z_BK15
        have BK15 := Aside0.mk h_
        clear h_
        have h_ := blk_drew BK18.out
        clear BK18 c_BK18 z_BK18
        have BK18 := Aside0.mk h_
        clear h_
        have hB_ := below_drew1 HB.out
        clear HB
        have HB := Aside0.mk hB_
        clear hB_
        have Z24 : Aside0 (W20.heap.size ≤ W20.drew.heap.size) := ⟨Nat.le_refl _⟩
        refine start_ (n := 5) (S := fun w' => w'.cell? ⟨gb1, 0, none⟩ = some (.slice A0_0 l0_0.length c0_0) ∧ w'.cell? ⟨gb1, 1, none⟩ = some (.slice A0_1 l0_1.length c0_1) ∧ w'.cell? ⟨gb1, 2, none⟩ = some (.slice A0_2 l0_2.length c0_2) ∧ w'.cell? ⟨gb1, 3, none⟩ = some (.slice A0_3 l0_3.length c0_3) ∧ w'.cell? ⟨gb1, 4, none⟩ = some (.int .i64 a0_4) ∧ w'.cell? ⟨gb1, 5, none⟩ = some (.slice A0_5 l0_5.length c0_5) ∧ w'.cell? ⟨gb15, 0, none⟩ = some (.slice A14_0 n14_0 c14_0) ∧ w'.cell? ⟨gb15, 1, none⟩ = some (.slice A14_1 n14_1 c14_1) ∧ w'.cell? ⟨gb15, 2, none⟩ = some (.slice A14_2 n14_2 c14_2) ∧ w'.cell? ⟨gb15, 3, none⟩ = some (.slice A14_3 n14_3 c14_3) ∧ w'.cell? ⟨gb15, 4, none⟩ = some (.int .i64 t443) ∧ w'.cell? ⟨gb15, 5, none⟩ = some (.slice A14_4 n14_4 c14_4)) (ds := []) #[false, false, false, false, false] (by kernel_rfl) rfl rfl ⟨(blk_cell BK1.out 0).trans rfl, (blk_cell BK1.out 1).trans rfl, (blk_cell BK1.out 2).trans rfl, (blk_cell BK1.out 3).trans rfl, (blk_cell BK1.out 4).trans rfl, (blk_cell BK1.out 5).trans rfl, (blk_cell BK15.out 0).trans rfl, (blk_cell BK15.out 1).trans rfl, (blk_cell BK15.out 2).trans rfl, (blk_cell BK15.out 3).trans rfl, (blk_cell BK15.out 4).trans rfl, (blk_cell BK15.out 5).trans rfl⟩ (fun hHeld => ?_)
        generalize W20.drew = W24 at Z24 HB BK1 BK2 BK15 BK18 HO11_0 HO11_1 HO11_2 HO11_3 HO11_4 HO12_0 HO12_1 HO12_2 HO12_3 HO12_4 HO14_0 HO14_1 HO14_2 HO14_3 HO14_4 HO17_0 HO17_1 HO17_2 HO17_3 HO17_4 hHeld ⊢
        have c_BK1 := blk_cell BK1.out
        have z_BK1 := blk_frozen BK1.out
        have c_BK2 := blk_cell BK2.out
        have z_BK2 := blk_frozen BK2.out
        have c_BK15 := blk_cell BK15.out
        have z_BK15 := blk_frozen BK15.out
        have c_BK18 := blk_cell BK18.out
        have z_BK18 := blk_frozen BK18.out
        refine take_ (i := 0) (N := some 35) (v := ?_) (a' := ?_) #[true, false, false, false, false] rfl rfl (by kernel_rfl) (fun _ _ _ h => h) (Or.inl ⟨by rfl, ?_⟩) hHeld ?_ ?_
        rotate_left
        · rintro w' ⟨s0, s1, s2, s3, s4, s5, s6, s7, s8, s9, s10, s11⟩
          go_simp
          with_reducible rfl
        rotate_left
        · simp only [Act.put, List.setIfInBounds_toArray, List.set_cons_zero, List.set_cons_succ, i64_w, i32_w]
          rfl
        refine take_ (i := 1) (N := some 36) (v := ?_) (a' := ?_) #[true, true, false, false, false] rfl rfl (by kernel_rfl) (fun _ _ _ h => h) (Or.inl ⟨by rfl, ?_⟩) hHeld ?_ ?_
        rotate_left
        · rintro w' ⟨s0, s1, s2, s3, s4, s5, s6, s7, s8, s9, s10, s11⟩
          go_simp
          with_reducible rfl
        rotate_left
        · simp only [Act.put, List.setIfInBounds_toArray, List.set_cons_zero, List.set_cons_succ, i64_w, i32_w]
          rfl
        refine one_ (i := 2) (N := some 37) #[true, true, true, false, false] rfl rfl (by kernel_rfl) (by decide) (fun K hK => ?_)
        have hcall := laws_toCenter.calls k _ _ l0_0 _ _ l0_1 _ _ l0_2 _ _ l0_3 a0_4 _ _ l0_5 t466 t469 t472 t475 t478 t479 W24 (Kd.C_below HR0_0.out HB.out) HC0_0.out (Kd.C_below HR0_1.out HB.out) HC0_1.out (Kd.C_below HR0_2.out HB.out) HC0_2.out (Kd.C_below HR0_3.out HB.out) HC0_3.out (Kd.C_below HR0_5.out HB.out) HC0_5.out HM22.out
        refine goes_ Try.func34 (by kernel_rfl) rfl #[.agg #[.slice A0_0 l0_0.length c0_0, .slice A0_1 l0_1.length c0_1, .slice A0_2 l0_2.length c0_2, .slice A0_3 l0_3.length c0_3, .int .i64 a0_4, .slice A0_5 l0_5.length c0_5]] (by rfl) rfl rfl (by (try simp only [List.map_toArray, List.map_cons, List.map_nil]); first | done | rfl) ?_
        refine hcall.mono ?_
        rintro e W25 ⟨v467, v470, v473, v476, v480, rfl, ho0, ho1, ho2, ho3, ho4, hb⟩
        refine ⟨_, rfl, ?_⟩
        clear hcall
        have Z25 := Aside0.mk hb.size
        have h_ := Kd.S_below HO11_0.out hb
        clear HO11_0
        have HO11_0 := Aside0.mk h_
        clear h_
        have h_ := Kd.R_below HO11_1.out hb
        clear HO11_1
        have HO11_1 := Aside0.mk h_
        clear h_
        have h_ := Kd.R_below HO11_2.out hb
        clear HO11_2
        have HO11_2 := Aside0.mk h_
        clear h_
        have h_ := Kd.R_below HO11_3.out hb
        clear HO11_3
        have HO11_3 := Aside0.mk h_
        clear h_
        have h_ := Kd.R_below HO11_4.out hb
        clear HO11_4
        have HO11_4 := Aside0.mk h_
        clear h_
        have h_ := Kd.S_below HO12_0.out hb
        clear HO12_0
        have HO12_0 := Aside0.mk h_
        clear h_
        have h_ := Kd.R_below HO12_1.out hb
        clear HO12_1
        have HO12_1 := Aside0.mk h_
        clear h_
        have h_ := Kd.R_below HO12_2.out hb
        clear HO12_2
        have HO12_2 := Aside0.mk h_
        clear h_
        have h_ := Kd.R_below HO12_3.out hb
        clear HO12_3
        have HO12_3 := Aside0.mk h_
        clear h_
        have h_ := Kd.R_below HO12_4.out hb
        clear HO12_4
        have HO12_4 := Aside0.mk h_
        clear h_
        have h_ := Kd.S_below HO14_0.out hb
        clear HO14_0
        have HO14_0 := Aside0.mk h_
        clear h_
        have h_ := Kd.R_below HO14_1.out hb
        clear HO14_1
        have HO14_1 := Aside0.mk h_
        clear h_
        have h_ := Kd.R_below HO14_2.out hb
        clear HO14_2
        have HO14_2 := Aside0.mk h_
        clear h_
        have h_ := Kd.R_below HO14_3.out hb
        clear HO14_3
        have HO14_3 := Aside0.mk h_
        clear h_
        have h_ := Kd.R_below HO14_4.out hb
        clear HO14_4
        have HO14_4 := Aside0.mk h_
        clear h_
        have h_ := Kd.S_below HO17_0.out hb
        clear HO17_0
        have HO17_0 := Aside0.mk h_
        clear h_
        have h_ := Kd.R_below HO17_1.out hb
        clear HO17_1
        have HO17_1 := Aside0.mk h_
        clear h_
        have h_ := Kd.R_below HO17_2.out hb
        clear HO17_2
        have HO17_2 := Aside0.mk h_
        clear h_
        have h_ := Kd.R_below HO17_3.out hb
        clear HO17_3
        have HO17_3 := Aside0.mk h_
        clear h_
        have h_ := Kd.R_below HO17_4.out hb
        clear HO17_4
        have HO17_4 := Aside0.mk h_
        clear h_
        obtain ⟨A25_0, n25_0, c25_0, rfl, hn_, hr_⟩ := Go.Proofs.YtineejdlpcgnkaaM.S_made ho0 HB.out.size
        clear hn_ ho0
        have HO25_0 := Aside0.mk hr_
        clear hr_
        obtain ⟨A25_1, n25_1, c25_1, rfl, hn_, hr_⟩ := Go.Proofs.YtineejdlpcgnkaaM.R_made ho1 HB.out.size
        clear hn_ ho1
        have HO25_1 := Aside0.mk hr_
        clear hr_
        obtain ⟨A25_2, n25_2, c25_2, rfl, hn_, hr_⟩ := Go.Proofs.YtineejdlpcgnkaaM.R_made ho2 HB.out.size
        clear hn_ ho2
        have HO25_2 := Aside0.mk hr_
        clear hr_
        obtain ⟨A25_3, n25_3, c25_3, rfl, hn_, hr_⟩ := Go.Proofs.YtineejdlpcgnkaaM.R_made ho3 HB.out.size
        clear hn_ ho3
        have HO25_3 := Aside0.mk hr_
        clear hr_
        obtain ⟨A25_4, n25_4, c25_4, rfl, hn_, hr_⟩ := Go.Proofs.YtineejdlpcgnkaaM.R_made ho4 HB.out.size
        clear hn_ ho4
        have HO25_4 := Aside0.mk hr_
        clear hr_
        have h_ := blk_below BK1.out hb
        clear BK1 c_BK1 z_BK1
        have BK1 := Aside0.mk h_
        have c_BK1 := blk_cell h_
        have z_BK1 := blk_frozen h_
        clear h_
        have h_ := blk_below BK2.out hb
        clear BK2 c_BK2 z_BK2
        have BK2 := Aside0.mk h_
        have c_BK2 := blk_cell h_
        have z_BK2 := blk_frozen h_
        clear h_
        have h_ := blk_below BK15.out hb
        clear BK15 c_BK15 z_BK15
        have BK15 := Aside0.mk h_
        have c_BK15 := blk_cell h_
        have z_BK15 := blk_frozen h_
        clear h_
        have h_ := blk_below BK18.out hb
        clear BK18 c_BK18 z_BK18
        have BK18 := Aside0.mk h_
        have c_BK18 := blk_cell h_
        have z_BK18 := blk_frozen h_
        clear h_
        have hB_ := below_step HB.out hb
        clear HB hb
        have HB := Aside0.mk hB_
        clear hB_
        refine hK.out _ _ ⟨(blk_cell BK1.out 0).trans rfl, (blk_cell BK1.out 1).trans rfl, (blk_cell BK1.out 2).trans rfl, (blk_cell BK1.out 3).trans rfl, (blk_cell BK1.out 4).trans rfl, (blk_cell BK1.out 5).trans rfl, (blk_cell BK15.out 0).trans rfl, (blk_cell BK15.out 1).trans rfl, (blk_cell BK15.out 2).trans rfl, (blk_cell BK15.out 3).trans rfl, (blk_cell BK15.out 4).trans rfl, (blk_cell BK15.out 5).trans rfl⟩ (fun hHeld => ?_)
        clear hK K
        refine norm_ (a' := ?_) ?_ ?_
        rotate_left
        · show Act.put _ (some 37) _ = _
          simp only [Act.put, List.setIfInBounds_toArray, List.set_cons_zero, List.set_cons_succ, i64_w, i32_w]
          rfl
        refine one_ (i := 3) (N := some 38) #[true, true, true, true, false] rfl rfl (by kernel_rfl) (by decide) (fun K hK => ?_)
        have hcall := laws_eqCenter.calls k _ _ t431 _ _ t434 _ _ t437 _ _ t440 t443 _ _ t444 _ _ t466 _ _ t469 _ _ t472 _ _ t475 t478 _ _ t479 t482 W25 (Go.Proofs.YtineejdlpcgnkaaM.S_C HO14_0.out) (Go.Proofs.YtineejdlpcgnkaaM.S_len HO14_0.out) (Go.Proofs.YtineejdlpcgnkaaM.R_C HO14_1.out) (Go.Proofs.YtineejdlpcgnkaaM.R_len HO14_1.out) (Go.Proofs.YtineejdlpcgnkaaM.R_C HO14_2.out) (Go.Proofs.YtineejdlpcgnkaaM.R_len HO14_2.out) (Go.Proofs.YtineejdlpcgnkaaM.R_C HO14_3.out) (Go.Proofs.YtineejdlpcgnkaaM.R_len HO14_3.out) (Go.Proofs.YtineejdlpcgnkaaM.R_C HO14_4.out) (Go.Proofs.YtineejdlpcgnkaaM.R_len HO14_4.out) (Go.Proofs.YtineejdlpcgnkaaM.S_C HO25_0.out) (Go.Proofs.YtineejdlpcgnkaaM.S_len HO25_0.out) (Go.Proofs.YtineejdlpcgnkaaM.R_C HO25_1.out) (Go.Proofs.YtineejdlpcgnkaaM.R_len HO25_1.out) (Go.Proofs.YtineejdlpcgnkaaM.R_C HO25_2.out) (Go.Proofs.YtineejdlpcgnkaaM.R_len HO25_2.out) (Go.Proofs.YtineejdlpcgnkaaM.R_C HO25_3.out) (Go.Proofs.YtineejdlpcgnkaaM.R_len HO25_3.out) (Go.Proofs.YtineejdlpcgnkaaM.R_C HO25_4.out) (Go.Proofs.YtineejdlpcgnkaaM.R_len HO25_4.out) HM23.out
        rw [Go.Proofs.YtineejdlpcgnkaaM.S_n HO14_0.out, Go.Proofs.YtineejdlpcgnkaaM.R_n HO14_1.out, Go.Proofs.YtineejdlpcgnkaaM.R_n HO14_2.out, Go.Proofs.YtineejdlpcgnkaaM.R_n HO14_3.out, Go.Proofs.YtineejdlpcgnkaaM.R_n HO14_4.out, Go.Proofs.YtineejdlpcgnkaaM.S_n HO25_0.out, Go.Proofs.YtineejdlpcgnkaaM.R_n HO25_1.out, Go.Proofs.YtineejdlpcgnkaaM.R_n HO25_2.out, Go.Proofs.YtineejdlpcgnkaaM.R_n HO25_3.out, Go.Proofs.YtineejdlpcgnkaaM.R_n HO25_4.out] at hcall
        refine goes_ Try.func29 (by kernel_rfl) rfl #[.agg #[.slice A14_0 n14_0 c14_0, .slice A14_1 n14_1 c14_1, .slice A14_2 n14_2 c14_2, .slice A14_3 n14_3 c14_3, .int .i64 t443, .slice A14_4 n14_4 c14_4], .agg #[.slice A25_0 n25_0 c25_0, .slice A25_1 n25_1 c25_1, .slice A25_2 n25_2 c25_2, .slice A25_3 n25_3 c25_3, .int .i64 t478, .slice A25_4 n25_4 c25_4]] (by rfl) rfl rfl (by (try simp only [List.map_toArray, List.map_cons, List.map_nil]); first | done | rfl) ?_
        refine hcall.mono ?_
        rintro e W26 ⟨rfl, hb⟩
        refine ⟨_, rfl, ?_⟩
        clear hcall
        have Z26 := Aside0.mk hb.size
        have h_ := Kd.S_below HO11_0.out hb
        clear HO11_0
        have HO11_0 := Aside0.mk h_
        clear h_
        have h_ := Kd.R_below HO11_1.out hb
        clear HO11_1
        have HO11_1 := Aside0.mk h_
        clear h_
        have h_ := Kd.R_below HO11_2.out hb
        clear HO11_2
        have HO11_2 := Aside0.mk h_
        clear h_
        have h_ := Kd.R_below HO11_3.out hb
        clear HO11_3
        have HO11_3 := Aside0.mk h_
        clear h_
        have h_ := Kd.R_below HO11_4.out hb
        clear HO11_4
        have HO11_4 := Aside0.mk h_
        clear h_
        have h_ := Kd.S_below HO12_0.out hb
        clear HO12_0
        have HO12_0 := Aside0.mk h_
        clear h_
        have h_ := Kd.R_below HO12_1.out hb
        clear HO12_1
        have HO12_1 := Aside0.mk h_
        clear h_
        have h_ := Kd.R_below HO12_2.out hb
        clear HO12_2
        have HO12_2 := Aside0.mk h_
        clear h_
        have h_ := Kd.R_below HO12_3.out hb
        clear HO12_3
        have HO12_3 := Aside0.mk h_
        clear h_
        have h_ := Kd.R_below HO12_4.out hb
        clear HO12_4
        have HO12_4 := Aside0.mk h_
        clear h_
        have h_ := Kd.S_below HO14_0.out hb
        clear HO14_0
        have HO14_0 := Aside0.mk h_
        clear h_
        have h_ := Kd.R_below HO14_1.out hb
        clear HO14_1
        have HO14_1 := Aside0.mk h_
        clear h_
        have h_ := Kd.R_below HO14_2.out hb
        clear HO14_2
        have HO14_2 := Aside0.mk h_
        clear h_
        have h_ := Kd.R_below HO14_3.out hb
        clear HO14_3
        have HO14_3 := Aside0.mk h_
        clear h_
        have h_ := Kd.R_below HO14_4.out hb
        clear HO14_4
        have HO14_4 := Aside0.mk h_
        clear h_
        have h_ := Kd.S_below HO17_0.out hb
        clear HO17_0
        have HO17_0 := Aside0.mk h_
        clear h_
        have h_ := Kd.R_below HO17_1.out hb
        clear HO17_1
        have HO17_1 := Aside0.mk h_
        clear h_
        have h_ := Kd.R_below HO17_2.out hb
        clear HO17_2
        have HO17_2 := Aside0.mk h_
        clear h_
        have h_ := Kd.R_below HO17_3.out hb
        clear HO17_3
        have HO17_3 := Aside0.mk h_
        clear h_
        have h_ := Kd.R_below HO17_4.out hb
        clear HO17_4
        have HO17_4 := Aside0.mk h_
        clear h_
        have h_ := Kd.S_below HO25_0.out hb
        clear HO25_0
        have HO25_0 := Aside0.mk h_
        clear h_
        have h_ := Kd.R_below HO25_1.out hb
        clear HO25_1
        have HO25_1 := Aside0.mk h_
        clear h_
        have h_ := Kd.R_below HO25_2.out hb
        clear HO25_2
        have HO25_2 := Aside0.mk h_
        clear h_
        have h_ := Kd.R_below HO25_3.out hb
        clear HO25_3
        have HO25_3 := Aside0.mk h_
        clear h_
        have h_ := Kd.R_below HO25_4.out hb
        clear HO25_4
        have HO25_4 := Aside0.mk h_
        clear h_
        have h_ := blk_below BK1.out hb
        clear BK1 c_BK1 z_BK1
        have BK1 := Aside0.mk h_
        have c_BK1 := blk_cell h_
        have z_BK1 := blk_frozen h_
        clear h_
        have h_ := blk_below BK2.out hb
        clear BK2 c_BK2 z_BK2
        have BK2 := Aside0.mk h_
        have c_BK2 := blk_cell h_
        have z_BK2 := blk_frozen h_
        clear h_
        have h_ := blk_below BK15.out hb
        clear BK15 c_BK15 z_BK15
        have BK15 := Aside0.mk h_
        have c_BK15 := blk_cell h_
        have z_BK15 := blk_frozen h_
        clear h_
        have h_ := blk_below BK18.out hb
        clear BK18 c_BK18 z_BK18
        have BK18 := Aside0.mk h_
        have c_BK18 := blk_cell h_
        have z_BK18 := blk_frozen h_
        clear h_
        have hB_ := below_step HB.out hb
        clear HB hb
        have HB := Aside0.mk hB_
        clear hB_
        refine hK.out _ _ ⟨(blk_cell BK1.out 0).trans rfl, (blk_cell BK1.out 1).trans rfl, (blk_cell BK1.out 2).trans rfl, (blk_cell BK1.out 3).trans rfl, (blk_cell BK1.out 4).trans rfl, (blk_cell BK1.out 5).trans rfl, (blk_cell BK15.out 0).trans rfl, (blk_cell BK15.out 1).trans rfl, (blk_cell BK15.out 2).trans rfl, (blk_cell BK15.out 3).trans rfl, (blk_cell BK15.out 4).trans rfl, (blk_cell BK15.out 5).trans rfl⟩ (fun hHeld => ?_)
        clear hK K
        refine norm_ (a' := ?_) ?_ ?_
        rotate_left
        · show Act.put _ (some 38) _ = _
          simp only [Act.put, List.setIfInBounds_toArray, List.set_cons_zero, List.set_cons_succ, i64_w, i32_w]
          rfl
        refine pure_ (i := 4) (N := some 39) (v := ?_) (a' := ?_) #[true, true, true, true, true] rfl rfl (by kernel_rfl) (fun _ _ _ h => h) (Or.inl ⟨by rfl, ?_⟩) ?_ ?_
        rotate_left
        · intro w'
          go_simp
          with_reducible rfl
        rotate_left
        · simp only [Act.put, List.setIfInBounds_toArray, List.set_cons_zero, List.set_cons_succ, i64_w, i32_w]
          rfl
        refine done_ (by kernel_rfl) ?_
        clear hHeld
        have H := H'.out
        clear H'
        by_cases c27 : t482 = true
        · rw [if_pos c27] at H
          subst c27
          replace H := Option.bind_eq_some_iff.mp H
          obtain ⟨⟨t483, t486, t489, t492, t495, t496⟩, hm, H⟩ := H
          try dsimp only at H
          have HM28 := Aside0.mk hm
          clear hm
          replace H := Option.bind_eq_some_iff.mp H
          obtain ⟨t499, hm, H⟩ := H
          try dsimp only at H
          have HM29 := Aside0.mk hm
          clear hm
          have H' := Aside0.mk H
          clear H
          try go_wp2
          have h_ := Kd.S_drew HO11_0.out
          clear HO11_0
          have HO11_0 := Aside0.mk h_
          clear h_
          have h_ := Kd.R_drew HO11_1.out
          clear HO11_1
          have HO11_1 := Aside0.mk h_
          clear h_
          have h_ := Kd.R_drew HO11_2.out
          clear HO11_2
          have HO11_2 := Aside0.mk h_
          clear h_
          have h_ := Kd.R_drew HO11_3.out
          clear HO11_3
          have HO11_3 := Aside0.mk h_
          clear h_
          have h_ := Kd.R_drew HO11_4.out
          clear HO11_4
          have HO11_4 := Aside0.mk h_
          clear h_
          have h_ := Kd.S_drew HO12_0.out
          clear HO12_0
          have HO12_0 := Aside0.mk h_
          clear h_
          have h_ := Kd.R_drew HO12_1.out
          clear HO12_1
          have HO12_1 := Aside0.mk h_
          clear h_
          have h_ := Kd.R_drew HO12_2.out
          clear HO12_2
          have HO12_2 := Aside0.mk h_
          clear h_
          have h_ := Kd.R_drew HO12_3.out
          clear HO12_3
          have HO12_3 := Aside0.mk h_
          clear h_
          have h_ := Kd.R_drew HO12_4.out
          clear HO12_4
          have HO12_4 := Aside0.mk h_
          clear h_
          have h_ := Kd.S_drew HO14_0.out
          clear HO14_0
          have HO14_0 := Aside0.mk h_
          clear h_
          have h_ := Kd.R_drew HO14_1.out
          clear HO14_1
          have HO14_1 := Aside0.mk h_
          clear h_
          have h_ := Kd.R_drew HO14_2.out
          clear HO14_2
          have HO14_2 := Aside0.mk h_
          clear h_
          have h_ := Kd.R_drew HO14_3.out
          clear HO14_3
          have HO14_3 := Aside0.mk h_
          clear h_
          have h_ := Kd.R_drew HO14_4.out
          clear HO14_4
          have HO14_4 := Aside0.mk h_
          clear h_
          have h_ := Kd.S_drew HO17_0.out
          clear HO17_0
          have HO17_0 := Aside0.mk h_
          clear h_
          have h_ := Kd.R_drew HO17_1.out
          clear HO17_1
          have HO17_1 := Aside0.mk h_
          clear h_
          have h_ := Kd.R_drew HO17_2.out
          clear HO17_2
          have HO17_2 := Aside0.mk h_
          clear h_
          have h_ := Kd.R_drew HO17_3.out
          clear HO17_3
          have HO17_3 := Aside0.mk h_
          clear h_
          have h_ := Kd.R_drew HO17_4.out
          clear HO17_4
          have HO17_4 := Aside0.mk h_
          clear h_
          have h_ := Kd.S_drew HO25_0.out
          clear HO25_0
          have HO25_0 := Aside0.mk h_
          clear h_
          have h_ := Kd.R_drew HO25_1.out
          clear HO25_1
          have HO25_1 := Aside0.mk h_
          clear h_
          have h_ := Kd.R_drew HO25_2.out
          clear HO25_2
          have HO25_2 := Aside0.mk h_
          clear h_
          have h_ := Kd.R_drew HO25_3.out
          clear HO25_3
          have HO25_3 := Aside0.mk h_
          clear h_
          have h_ := Kd.R_drew HO25_4.out
          clear HO25_4
          have HO25_4 := Aside0.mk h_
          clear h_
          have h_ := blk_drew BK1.out
          clear BK1 c_BK1 z_BK1
          have BK1 := Aside0.mk h_
          clear h_
          have h_ := blk_drew BK2.out
          clear BK2 c_BK2 z_BK2
          have BK2 := Aside0.mk h_
          clear h_
          have h_ := blk_drew BK15.out
          clear BK15 c_BK15 z_BK15
          have BK15 := Aside0.mk h_
          clear h_
          have h_ := blk_drew BK18.out
          clear BK18 c_BK18 z_BK18
          have BK18 := Aside0.mk h_
          clear h_
          have hB_ := below_drew1 HB.out
          clear HB
          have HB := Aside0.mk hB_
          clear hB_
          have Z30 : Aside0 (W26.heap.size ≤ W26.drew.heap.size) := ⟨Nat.le_refl _⟩
          refine start_ (n := 5) (S := fun w' => w'.cell? ⟨gb2, 0, none⟩ = some (.slice A1_0 l1_0.length c1_0) ∧ w'.cell? ⟨gb2, 1, none⟩ = some (.slice A1_1 l1_1.length c1_1) ∧ w'.cell? ⟨gb2, 2, none⟩ = some (.slice A1_2 l1_2.length c1_2) ∧ w'.cell? ⟨gb2, 3, none⟩ = some (.slice A1_3 l1_3.length c1_3) ∧ w'.cell? ⟨gb2, 4, none⟩ = some (.int .i64 a1_4) ∧ w'.cell? ⟨gb2, 5, none⟩ = some (.slice A1_5 l1_5.length c1_5) ∧ w'.cell? ⟨gb18, 0, none⟩ = some (.slice A17_0 n17_0 c17_0) ∧ w'.cell? ⟨gb18, 1, none⟩ = some (.slice A17_1 n17_1 c17_1) ∧ w'.cell? ⟨gb18, 2, none⟩ = some (.slice A17_2 n17_2 c17_2) ∧ w'.cell? ⟨gb18, 3, none⟩ = some (.slice A17_3 n17_3 c17_3) ∧ w'.cell? ⟨gb18, 4, none⟩ = some (.int .i64 t460) ∧ w'.cell? ⟨gb18, 5, none⟩ = some (.slice A17_4 n17_4 c17_4)) (ds := []) #[false, false, false, false, false] (by kernel_rfl) rfl rfl ⟨(blk_cell BK2.out 0).trans rfl, (blk_cell BK2.out 1).trans rfl, (blk_cell BK2.out 2).trans rfl, (blk_cell BK2.out 3).trans rfl, (blk_cell BK2.out 4).trans rfl, (blk_cell BK2.out 5).trans rfl, (blk_cell BK18.out 0).trans rfl, (blk_cell BK18.out 1).trans rfl, (blk_cell BK18.out 2).trans rfl, (blk_cell BK18.out 3).trans rfl, (blk_cell BK18.out 4).trans rfl, (blk_cell BK18.out 5).trans rfl⟩ (fun hHeld => ?_)
          generalize W26.drew = W30 at Z30 HB BK1 BK2 BK15 BK18 HO11_0 HO11_1 HO11_2 HO11_3 HO11_4 HO12_0 HO12_1 HO12_2 HO12_3 HO12_4 HO14_0 HO14_1 HO14_2 HO14_3 HO14_4 HO17_0 HO17_1 HO17_2 HO17_3 HO17_4 HO25_0 HO25_1 HO25_2 HO25_3 HO25_4 hHeld ⊢
          have c_BK1 := blk_cell BK1.out
          have z_BK1 := blk_frozen BK1.out
          have c_BK2 := blk_cell BK2.out
          have z_BK2 := blk_frozen BK2.out
          have c_BK15 := blk_cell BK15.out
          have z_BK15 := blk_frozen BK15.out
          have c_BK18 := blk_cell BK18.out
          have z_BK18 := blk_frozen BK18.out
          refine take_ (i := 0) (N := some 40) (v := ?_) (a' := ?_) #[true, false, false, false, false] rfl rfl (by kernel_rfl) (fun _ _ _ h => h) (Or.inl ⟨by rfl, ?_⟩) hHeld ?_ ?_
          rotate_left
          · rintro w' ⟨s0, s1, s2, s3, s4, s5, s6, s7, s8, s9, s10, s11⟩
            go_simp
            with_reducible rfl
          rotate_left
          · simp only [Act.put, List.setIfInBounds_toArray, List.set_cons_zero, List.set_cons_succ, i64_w, i32_w]
            rfl
          refine take_ (i := 1) (N := some 41) (v := ?_) (a' := ?_) #[true, true, false, false, false] rfl rfl (by kernel_rfl) (fun _ _ _ h => h) (Or.inl ⟨by rfl, ?_⟩) hHeld ?_ ?_
          rotate_left
          · rintro w' ⟨s0, s1, s2, s3, s4, s5, s6, s7, s8, s9, s10, s11⟩
            go_simp
            with_reducible rfl
          rotate_left
          · simp only [Act.put, List.setIfInBounds_toArray, List.set_cons_zero, List.set_cons_succ, i64_w, i32_w]
            rfl
          refine one_ (i := 2) (N := some 42) #[true, true, true, false, false] rfl rfl (by kernel_rfl) (by decide) (fun K hK => ?_)
          have hcall := laws_toCenter.calls k _ _ l1_0 _ _ l1_1 _ _ l1_2 _ _ l1_3 a1_4 _ _ l1_5 t483 t486 t489 t492 t495 t496 W30 (Kd.C_below HR1_0.out HB.out) HC1_0.out (Kd.C_below HR1_1.out HB.out) HC1_1.out (Kd.C_below HR1_2.out HB.out) HC1_2.out (Kd.C_below HR1_3.out HB.out) HC1_3.out (Kd.C_below HR1_5.out HB.out) HC1_5.out HM28.out
          refine goes_ Try.func34 (by kernel_rfl) rfl #[.agg #[.slice A1_0 l1_0.length c1_0, .slice A1_1 l1_1.length c1_1, .slice A1_2 l1_2.length c1_2, .slice A1_3 l1_3.length c1_3, .int .i64 a1_4, .slice A1_5 l1_5.length c1_5]] (by rfl) rfl rfl (by (try simp only [List.map_toArray, List.map_cons, List.map_nil]); first | done | rfl) ?_
          refine hcall.mono ?_
          rintro e W31 ⟨v484, v487, v490, v493, v497, rfl, ho0, ho1, ho2, ho3, ho4, hb⟩
          refine ⟨_, rfl, ?_⟩
          clear hcall
          have Z31 := Aside0.mk hb.size
          have h_ := Kd.S_below HO11_0.out hb
          clear HO11_0
          have HO11_0 := Aside0.mk h_
          clear h_
          have h_ := Kd.R_below HO11_1.out hb
          clear HO11_1
          have HO11_1 := Aside0.mk h_
          clear h_
          have h_ := Kd.R_below HO11_2.out hb
          clear HO11_2
          have HO11_2 := Aside0.mk h_
          clear h_
          have h_ := Kd.R_below HO11_3.out hb
          clear HO11_3
          have HO11_3 := Aside0.mk h_
          clear h_
          have h_ := Kd.R_below HO11_4.out hb
          clear HO11_4
          have HO11_4 := Aside0.mk h_
          clear h_
          have h_ := Kd.S_below HO12_0.out hb
          clear HO12_0
          have HO12_0 := Aside0.mk h_
          clear h_
          have h_ := Kd.R_below HO12_1.out hb
          clear HO12_1
          have HO12_1 := Aside0.mk h_
          clear h_
          have h_ := Kd.R_below HO12_2.out hb
          clear HO12_2
          have HO12_2 := Aside0.mk h_
          clear h_
          have h_ := Kd.R_below HO12_3.out hb
          clear HO12_3
          have HO12_3 := Aside0.mk h_
          clear h_
          have h_ := Kd.R_below HO12_4.out hb
          clear HO12_4
          have HO12_4 := Aside0.mk h_
          clear h_
          have h_ := Kd.S_below HO14_0.out hb
          clear HO14_0
          have HO14_0 := Aside0.mk h_
          clear h_
          have h_ := Kd.R_below HO14_1.out hb
          clear HO14_1
          have HO14_1 := Aside0.mk h_
          clear h_
          have h_ := Kd.R_below HO14_2.out hb
          clear HO14_2
          have HO14_2 := Aside0.mk h_
          clear h_
          have h_ := Kd.R_below HO14_3.out hb
          clear HO14_3
          have HO14_3 := Aside0.mk h_
          clear h_
          have h_ := Kd.R_below HO14_4.out hb
          clear HO14_4
          have HO14_4 := Aside0.mk h_
          clear h_
          have h_ := Kd.S_below HO17_0.out hb
          clear HO17_0
          have HO17_0 := Aside0.mk h_
          clear h_
          have h_ := Kd.R_below HO17_1.out hb
          clear HO17_1
          have HO17_1 := Aside0.mk h_
          clear h_
          have h_ := Kd.R_below HO17_2.out hb
          clear HO17_2
          have HO17_2 := Aside0.mk h_
          clear h_
          have h_ := Kd.R_below HO17_3.out hb
          clear HO17_3
          have HO17_3 := Aside0.mk h_
          clear h_
          have h_ := Kd.R_below HO17_4.out hb
          clear HO17_4
          have HO17_4 := Aside0.mk h_
          clear h_
          have h_ := Kd.S_below HO25_0.out hb
          clear HO25_0
          have HO25_0 := Aside0.mk h_
          clear h_
          have h_ := Kd.R_below HO25_1.out hb
          clear HO25_1
          have HO25_1 := Aside0.mk h_
          clear h_
          have h_ := Kd.R_below HO25_2.out hb
          clear HO25_2
          have HO25_2 := Aside0.mk h_
          clear h_
          have h_ := Kd.R_below HO25_3.out hb
          clear HO25_3
          have HO25_3 := Aside0.mk h_
          clear h_
          have h_ := Kd.R_below HO25_4.out hb
          clear HO25_4
          have HO25_4 := Aside0.mk h_
          clear h_
          obtain ⟨A31_0, n31_0, c31_0, rfl, hn_, hr_⟩ := Go.Proofs.YtineejdlpcgnkaaM.S_made ho0 HB.out.size
          clear hn_ ho0
          have HO31_0 := Aside0.mk hr_
          clear hr_
          obtain ⟨A31_1, n31_1, c31_1, rfl, hn_, hr_⟩ := Go.Proofs.YtineejdlpcgnkaaM.R_made ho1 HB.out.size
          clear hn_ ho1
          have HO31_1 := Aside0.mk hr_
          clear hr_
          obtain ⟨A31_2, n31_2, c31_2, rfl, hn_, hr_⟩ := Go.Proofs.YtineejdlpcgnkaaM.R_made ho2 HB.out.size
          clear hn_ ho2
          have HO31_2 := Aside0.mk hr_
          clear hr_
          obtain ⟨A31_3, n31_3, c31_3, rfl, hn_, hr_⟩ := Go.Proofs.YtineejdlpcgnkaaM.R_made ho3 HB.out.size
          clear hn_ ho3
          have HO31_3 := Aside0.mk hr_
          clear hr_
          obtain ⟨A31_4, n31_4, c31_4, rfl, hn_, hr_⟩ := Go.Proofs.YtineejdlpcgnkaaM.R_made ho4 HB.out.size
          clear hn_ ho4
          have HO31_4 := Aside0.mk hr_
          clear hr_
          have h_ := blk_below BK1.out hb
          clear BK1 c_BK1 z_BK1
          have BK1 := Aside0.mk h_
          have c_BK1 := blk_cell h_
          have z_BK1 := blk_frozen h_
          clear h_
          have h_ := blk_below BK2.out hb
          clear BK2 c_BK2 z_BK2
          have BK2 := Aside0.mk h_
          have c_BK2 := blk_cell h_
          have z_BK2 := blk_frozen h_
          clear h_
          have h_ := blk_below BK15.out hb
          clear BK15 c_BK15 z_BK15
          have BK15 := Aside0.mk h_
          have c_BK15 := blk_cell h_
          have z_BK15 := blk_frozen h_
          clear h_
          have h_ := blk_below BK18.out hb
          clear BK18 c_BK18 z_BK18
          have BK18 := Aside0.mk h_
          have c_BK18 := blk_cell h_
          have z_BK18 := blk_frozen h_
          clear h_
          have hB_ := below_step HB.out hb
          clear HB hb
          have HB := Aside0.mk hB_
          clear hB_
          refine hK.out _ _ ⟨(blk_cell BK2.out 0).trans rfl, (blk_cell BK2.out 1).trans rfl, (blk_cell BK2.out 2).trans rfl, (blk_cell BK2.out 3).trans rfl, (blk_cell BK2.out 4).trans rfl, (blk_cell BK2.out 5).trans rfl, (blk_cell BK18.out 0).trans rfl, (blk_cell BK18.out 1).trans rfl, (blk_cell BK18.out 2).trans rfl, (blk_cell BK18.out 3).trans rfl, (blk_cell BK18.out 4).trans rfl, (blk_cell BK18.out 5).trans rfl⟩ (fun hHeld => ?_)
          clear hK K
          refine norm_ (a' := ?_) ?_ ?_
          rotate_left
          · show Act.put _ (some 42) _ = _
            simp only [Act.put, List.setIfInBounds_toArray, List.set_cons_zero, List.set_cons_succ, i64_w, i32_w]
            rfl
          refine one_ (i := 3) (N := some 43) #[true, true, true, true, false] rfl rfl (by kernel_rfl) (by decide) (fun K hK => ?_)
          have hcall := laws_eqCenter.calls k _ _ t448 _ _ t451 _ _ t454 _ _ t457 t460 _ _ t461 _ _ t483 _ _ t486 _ _ t489 _ _ t492 t495 _ _ t496 t499 W31 (Go.Proofs.YtineejdlpcgnkaaM.S_C HO17_0.out) (Go.Proofs.YtineejdlpcgnkaaM.S_len HO17_0.out) (Go.Proofs.YtineejdlpcgnkaaM.R_C HO17_1.out) (Go.Proofs.YtineejdlpcgnkaaM.R_len HO17_1.out) (Go.Proofs.YtineejdlpcgnkaaM.R_C HO17_2.out) (Go.Proofs.YtineejdlpcgnkaaM.R_len HO17_2.out) (Go.Proofs.YtineejdlpcgnkaaM.R_C HO17_3.out) (Go.Proofs.YtineejdlpcgnkaaM.R_len HO17_3.out) (Go.Proofs.YtineejdlpcgnkaaM.R_C HO17_4.out) (Go.Proofs.YtineejdlpcgnkaaM.R_len HO17_4.out) (Go.Proofs.YtineejdlpcgnkaaM.S_C HO31_0.out) (Go.Proofs.YtineejdlpcgnkaaM.S_len HO31_0.out) (Go.Proofs.YtineejdlpcgnkaaM.R_C HO31_1.out) (Go.Proofs.YtineejdlpcgnkaaM.R_len HO31_1.out) (Go.Proofs.YtineejdlpcgnkaaM.R_C HO31_2.out) (Go.Proofs.YtineejdlpcgnkaaM.R_len HO31_2.out) (Go.Proofs.YtineejdlpcgnkaaM.R_C HO31_3.out) (Go.Proofs.YtineejdlpcgnkaaM.R_len HO31_3.out) (Go.Proofs.YtineejdlpcgnkaaM.R_C HO31_4.out) (Go.Proofs.YtineejdlpcgnkaaM.R_len HO31_4.out) HM29.out
          rw [Go.Proofs.YtineejdlpcgnkaaM.S_n HO17_0.out, Go.Proofs.YtineejdlpcgnkaaM.R_n HO17_1.out, Go.Proofs.YtineejdlpcgnkaaM.R_n HO17_2.out, Go.Proofs.YtineejdlpcgnkaaM.R_n HO17_3.out, Go.Proofs.YtineejdlpcgnkaaM.R_n HO17_4.out, Go.Proofs.YtineejdlpcgnkaaM.S_n HO31_0.out, Go.Proofs.YtineejdlpcgnkaaM.R_n HO31_1.out, Go.Proofs.YtineejdlpcgnkaaM.R_n HO31_2.out, Go.Proofs.YtineejdlpcgnkaaM.R_n HO31_3.out, Go.Proofs.YtineejdlpcgnkaaM.R_n HO31_4.out] at hcall
          refine goes_ Try.func29 (by kernel_rfl) rfl #[.agg #[.slice A17_0 n17_0 c17_0, .slice A17_1 n17_1 c17_1, .slice A17_2 n17_2 c17_2, .slice A17_3 n17_3 c17_3, .int .i64 t460, .slice A17_4 n17_4 c17_4], .agg #[.slice A31_0 n31_0 c31_0, .slice A31_1 n31_1 c31_1, .slice A31_2 n31_2 c31_2, .slice A31_3 n31_3 c31_3, .int .i64 t495, .slice A31_4 n31_4 c31_4]] (by rfl) rfl rfl (by (try simp only [List.map_toArray, List.map_cons, List.map_nil]); first | done | rfl) ?_
          refine hcall.mono ?_
          rintro e W32 ⟨rfl, hb⟩
          refine ⟨_, rfl, ?_⟩
          clear hcall
          have Z32 := Aside0.mk hb.size
          have h_ := Kd.S_below HO11_0.out hb
          clear HO11_0
          have HO11_0 := Aside0.mk h_
          clear h_
          have h_ := Kd.R_below HO11_1.out hb
          clear HO11_1
          have HO11_1 := Aside0.mk h_
          clear h_
          have h_ := Kd.R_below HO11_2.out hb
          clear HO11_2
          have HO11_2 := Aside0.mk h_
          clear h_
          have h_ := Kd.R_below HO11_3.out hb
          clear HO11_3
          have HO11_3 := Aside0.mk h_
          clear h_
          have h_ := Kd.R_below HO11_4.out hb
          clear HO11_4
          have HO11_4 := Aside0.mk h_
          clear h_
          have h_ := Kd.S_below HO12_0.out hb
          clear HO12_0
          have HO12_0 := Aside0.mk h_
          clear h_
          have h_ := Kd.R_below HO12_1.out hb
          clear HO12_1
          have HO12_1 := Aside0.mk h_
          clear h_
          have h_ := Kd.R_below HO12_2.out hb
          clear HO12_2
          have HO12_2 := Aside0.mk h_
          clear h_
          have h_ := Kd.R_below HO12_3.out hb
          clear HO12_3
          have HO12_3 := Aside0.mk h_
          clear h_
          have h_ := Kd.R_below HO12_4.out hb
          clear HO12_4
          have HO12_4 := Aside0.mk h_
          clear h_
          have h_ := Kd.S_below HO14_0.out hb
          clear HO14_0
          have HO14_0 := Aside0.mk h_
          clear h_
          have h_ := Kd.R_below HO14_1.out hb
          clear HO14_1
          have HO14_1 := Aside0.mk h_
          clear h_
          have h_ := Kd.R_below HO14_2.out hb
          clear HO14_2
          have HO14_2 := Aside0.mk h_
          clear h_
          have h_ := Kd.R_below HO14_3.out hb
          clear HO14_3
          have HO14_3 := Aside0.mk h_
          clear h_
          have h_ := Kd.R_below HO14_4.out hb
          clear HO14_4
          have HO14_4 := Aside0.mk h_
          clear h_
          have h_ := Kd.S_below HO17_0.out hb
          clear HO17_0
          have HO17_0 := Aside0.mk h_
          clear h_
          have h_ := Kd.R_below HO17_1.out hb
          clear HO17_1
          have HO17_1 := Aside0.mk h_
          clear h_
          have h_ := Kd.R_below HO17_2.out hb
          clear HO17_2
          have HO17_2 := Aside0.mk h_
          clear h_
          have h_ := Kd.R_below HO17_3.out hb
          clear HO17_3
          have HO17_3 := Aside0.mk h_
          clear h_
          have h_ := Kd.R_below HO17_4.out hb
          clear HO17_4
          have HO17_4 := Aside0.mk h_
          clear h_
          have h_ := Kd.S_below HO25_0.out hb
          clear HO25_0
          have HO25_0 := Aside0.mk h_
          clear h_
          have h_ := Kd.R_below HO25_1.out hb
          clear HO25_1
          have HO25_1 := Aside0.mk h_
          clear h_
          have h_ := Kd.R_below HO25_2.out hb
          clear HO25_2
          have HO25_2 := Aside0.mk h_
          clear h_
          have h_ := Kd.R_below HO25_3.out hb
          clear HO25_3
          have HO25_3 := Aside0.mk h_
          clear h_
          have h_ := Kd.R_below HO25_4.out hb
          clear HO25_4
          have HO25_4 := Aside0.mk h_
          clear h_
          have h_ := Kd.S_below HO31_0.out hb
          clear HO31_0
          have HO31_0 := Aside0.mk h_
          clear h_
          have h_ := Kd.R_below HO31_1.out hb
          clear HO31_1
          have HO31_1 := Aside0.mk h_
          clear h_
          have h_ := Kd.R_below HO31_2.out hb
          clear HO31_2
          have HO31_2 := Aside0.mk h_
          clear h_
          have h_ := Kd.R_below HO31_3.out hb
          clear HO31_3
          have HO31_3 := Aside0.mk h_
          clear h_
          have h_ := Kd.R_below HO31_4.out hb
          clear HO31_4
          have HO31_4 := Aside0.mk h_
          clear h_
          have h_ := blk_below BK1.out hb
          clear BK1 c_BK1 z_BK1
          have BK1 := Aside0.mk h_
          have c_BK1 := blk_cell h_
          have z_BK1 := blk_frozen h_
          clear h_
          have h_ := blk_below BK2.out hb
          clear BK2 c_BK2 z_BK2
          have BK2 := Aside0.mk h_
          have c_BK2 := blk_cell h_
          have z_BK2 := blk_frozen h_
          clear h_
          have h_ := blk_below BK15.out hb
          clear BK15 c_BK15 z_BK15
          have BK15 := Aside0.mk h_
          have c_BK15 := blk_cell h_
          have z_BK15 := blk_frozen h_
          clear h_
          have h_ := blk_below BK18.out hb
          clear BK18 c_BK18 z_BK18
          have BK18 := Aside0.mk h_
          have c_BK18 := blk_cell h_
          have z_BK18 := blk_frozen h_
          clear h_
          have hB_ := below_step HB.out hb
          clear HB hb
          have HB := Aside0.mk hB_
          clear hB_
          refine hK.out _ _ ⟨(blk_cell BK2.out 0).trans rfl, (blk_cell BK2.out 1).trans rfl, (blk_cell BK2.out 2).trans rfl, (blk_cell BK2.out 3).trans rfl, (blk_cell BK2.out 4).trans rfl, (blk_cell BK2.out 5).trans rfl, (blk_cell BK18.out 0).trans rfl, (blk_cell BK18.out 1).trans rfl, (blk_cell BK18.out 2).trans rfl, (blk_cell BK18.out 3).trans rfl, (blk_cell BK18.out 4).trans rfl, (blk_cell BK18.out 5).trans rfl⟩ (fun hHeld => ?_)
          clear hK K
          refine norm_ (a' := ?_) ?_ ?_
          rotate_left
          · show Act.put _ (some 43) _ = _
            simp only [Act.put, List.setIfInBounds_toArray, List.set_cons_zero, List.set_cons_succ, i64_w, i32_w]
            rfl
          refine pure_ (i := 4) (N := some 44) (v := ?_) (a' := ?_) #[true, true, true, true, true] rfl rfl (by kernel_rfl) (fun _ _ _ h => h) (Or.inl ⟨by rfl, ?_⟩) ?_ ?_
          rotate_left
          · intro w'
            go_simp
            with_reducible rfl
          rotate_left
          · simp only [Act.put, List.setIfInBounds_toArray, List.set_cons_zero, List.set_cons_succ, i64_w, i32_w]
            rfl
          refine done_ (by kernel_rfl) ?_
          clear hHeld
          have H := H'.out
          clear H'
          by_cases c33 : t499 = true
          · rw [if_pos c33] at H
            subst c33
            obtain rfl := Option.some.inj H
            clear H
            go_wp2
            go_ret
            exact ⟨rfl, HB.out⟩
          · rw [if_neg c33] at H
            replace c33 : t499 = false := by simpa using c33
            subst c33
            obtain rfl := Option.some.inj H
            clear H
            go_wp2
            go_ret
            exact ⟨rfl, HB.out⟩
        · rw [if_neg c27] at H
          replace c27 : t482 = false := by simpa using c27
          subst c27
          obtain rfl := Option.some.inj H
          clear H
          go_wp2
          go_ret
          exact ⟨rfl, HB.out⟩

section
open Go.Proofs.YtineejdlpcgnkaaO
def g154 (x : S154) : Prop := (Lit.int .i64 x.f0).wf = true ∧ (x.f1.length ≤ maxLen ∧ ∀ y_ ∈ x.f1, (Lit.int .i64 y_).wf = true) ∧ (Lit.int .i64 x.f2).wf = true
theorem opens154 (n : Nat) : Opens Try.prog 154 k154 g154 n :=
  opens_imp (opens_iso (fun x : S154 => (x.f0, x.f1, x.f2)) (fun x => (⟨x.1, x.2.1, x.2.2⟩ : S154)) (fun _ => rfl) (opens_struct Try.underlying154 (by kernel_rfl) fun m _ => (fields_cons rfl (by kernel_rfl) (opens_int Try.underlying3 m) (fields_cons rfl (by kernel_rfl) (opens_slice Try.underlying105 (by kernel_rfl) fun m _ => (opens_int Try.underlying3 m)) (fields_one rfl (by kernel_rfl) (opens_int Try.underlying3 m)))))) (fun _ h => h)
def g164 (x : S164) : Prop := (Lit.int .i64 x.f0).wf = true ∧ (Lit.int .i64 x.f1).wf = true
theorem opens164 (n : Nat) : Opens Try.prog 164 k164 g164 n :=
  opens_imp (opens_iso (fun x : S164 => (x.f0, x.f1)) (fun x => (⟨x.1, x.2⟩ : S164)) (fun _ => rfl) (opens_struct Try.underlying164 (by kernel_rfl) fun m _ => (fields_cons rfl (by kernel_rfl) (opens_int Try.underlying3 m) (fields_one rfl (by kernel_rfl) (opens_int Try.underlying3 m))))) (fun _ h => h)
def GF183 (G : S183 → Prop) (x : S183) : Prop := (Lit.int .i64 x.f0).wf = true ∧ (Lit.int .i64 x.f1).wf = true ∧ (Lit.int .i64 x.f2).wf = true ∧ (x.f3.length ≤ maxLen ∧ ∀ y_ ∈ x.f3, G y_)
def g183 (x : S183) : Prop := ∃ k, Nat.rec (motive := fun _ => S183 → Prop) (fun _ => False) (fun _ G => GF183 G) k x
theorem gmono183 {G G' : S183 → Prop} (h : ∀ x, G x → G' x) (x : S183) (hx : GF183 G x) : GF183 G' x := by
  unfold GF183 at hx ⊢
  obtain ⟨h0, h1, h2, h3⟩ := hx
  exact ⟨h0, h1, h2, ⟨h3.1, fun y hy => h y (h3.2 y hy)⟩⟩
theorem opens183 (n : Nat) : Opens Try.prog 183 k183 g183 n :=
  opens_fix F183 4 [183] sz183 (Kd.upto_E sub183) GF183 (fun n d G hsz h => opens_imp (opens_iso (fun x : S183 => (x.f0, x.f1, x.f2, x.f3)) (fun x => (⟨x.1, x.2.1, x.2.2.1, x.2.2.2⟩ : S183)) (fun _ => rfl) (opens_struct Try.underlying183 (by first | (rw [show (Kd.pair _ _).sz = _ from rfl]; kernel_rfl) | kernel_rfl) fun m hm => have hd : Try.prog.cellsOf 183 = d.sz := (by rw [hsz]; kernel_rfl); (fields_cons rfl (by kernel_rfl) (opens_int Try.underlying3 m) (fields_cons rfl (by kernel_rfl) (opens_int Try.underlying3 m) (fields_cons rfl (by kernel_rfl) (opens_int Try.underlying3 m) (fields_one rfl (by kernel_rfl) (opens_slice Try.underlying181 hd fun m' hm' => h m' (Nat.lt_trans hm' hm)))))))) (fun _ h => h)) (fun e h => mono183.K _ _ e h) (fun h => gmono183 h) n
def g185 (x : S185) : Prop := (Lit.int .i64 x.f0).wf = true ∧ (Lit.int .i64 x.f1).wf = true ∧ (Lit.int .i64 x.f2).wf = true ∧ g183 x.f3
theorem opens185 (n : Nat) : Opens Try.prog 185 k185 g185 n :=
  opens_imp (opens_iso (fun x : S185 => (x.f0, x.f1, x.f2, x.f3)) (fun x => (⟨x.1, x.2.1, x.2.2.1, x.2.2.2⟩ : S185)) (fun _ => rfl) (opens_struct Try.underlying185 (by kernel_rfl) fun m _ => (fields_cons rfl (by kernel_rfl) (opens_int Try.underlying3 m) (fields_cons rfl (by kernel_rfl) (opens_int Try.underlying3 m) (fields_cons rfl (by kernel_rfl) (opens_int Try.underlying3 m) (fields_one rfl (by kernel_rfl) (opens183 m))))))) (fun _ h => h)
def g25 (x : S25) : Prop := (Lit.int .i64 x.f0).wf = true ∧ (x.f1.length ≤ maxLen ∧ ∀ y_ ∈ x.f1, g185 y_)
theorem opens25 (n : Nat) : Opens Try.prog 25 k25 g25 n :=
  opens_imp (opens_iso (fun x : S25 => (x.f0, x.f1)) (fun x => (⟨x.1, x.2⟩ : S25)) (fun _ => rfl) (opens_struct Try.underlying25 (by kernel_rfl) fun m _ => (fields_cons rfl (by kernel_rfl) (opens_int Try.underlying3 m) (fields_one rfl (by kernel_rfl) (opens_slice Try.underlying23 (by kernel_rfl) fun m _ => (opens185 m)))))) (fun _ h => h)
def g27 (x : S27) : Prop := (Lit.int .i64 x.f0).wf = true ∧ (Lit.int .i64 x.f1).wf = true ∧ (x.f2.length ≤ maxLen ∧ ∀ y_ ∈ x.f2, g164 y_) ∧ g25 x.f3
theorem opens27 (n : Nat) : Opens Try.prog 27 k27 g27 n :=
  opens_imp (opens_iso (fun x : S27 => (x.f0, x.f1, x.f2, x.f3)) (fun x => (⟨x.1, x.2.1, x.2.2.1, x.2.2.2⟩ : S27)) (fun _ => rfl) (opens_struct Try.underlying27 (by kernel_rfl) fun m _ => (fields_cons rfl (by kernel_rfl) (opens_int Try.underlying3 m) (fields_cons rfl (by kernel_rfl) (opens_int Try.underlying3 m) (fields_cons rfl (by kernel_rfl) (opens_slice Try.underlying22 (by kernel_rfl) fun m _ => (opens164 m)) (fields_one rfl (by kernel_rfl) (opens25 m))))))) (fun _ h => h)
def g134 (x : S134) : Prop := (Lit.int .i64 x.f0).wf = true ∧ (Lit.int .i64 x.f1).wf = true ∧ (Lit.int .i64 x.f2).wf = true ∧ (Lit.int .i64 x.f3).wf = true ∧ (Lit.int .i64 x.f4).wf = true ∧ (Lit.int .i64 x.f5).wf = true
theorem opens134 (n : Nat) : Opens Try.prog 134 k134 g134 n :=
  opens_imp (opens_iso (fun x : S134 => (x.f0, x.f1, x.f2, x.f3, x.f4, x.f5)) (fun x => (⟨x.1, x.2.1, x.2.2.1, x.2.2.2.1, x.2.2.2.2.1, x.2.2.2.2.2⟩ : S134)) (fun _ => rfl) (opens_struct Try.underlying134 (by kernel_rfl) fun m _ => (fields_cons rfl (by kernel_rfl) (opens_int Try.underlying3 m) (fields_cons rfl (by kernel_rfl) (opens_int Try.underlying3 m) (fields_cons rfl (by kernel_rfl) (opens_int Try.underlying3 m) (fields_cons rfl (by kernel_rfl) (opens_int Try.underlying3 m) (fields_cons rfl (by kernel_rfl) (opens_int Try.underlying3 m) (fields_one rfl (by kernel_rfl) (opens_int Try.underlying3 m))))))))) (fun _ h => h)
def g136 (x : S136) : Prop := (Lit.int .i64 x.f0).wf = true ∧ (Lit.int .i64 x.f1).wf = true
theorem opens136 (n : Nat) : Opens Try.prog 136 k136 g136 n :=
  opens_imp (opens_iso (fun x : S136 => (x.f0, x.f1)) (fun x => (⟨x.1, x.2⟩ : S136)) (fun _ => rfl) (opens_struct Try.underlying136 (by kernel_rfl) fun m _ => (fields_cons rfl (by kernel_rfl) (opens_int Try.underlying3 m) (fields_one rfl (by kernel_rfl) (opens_int Try.underlying3 m))))) (fun _ h => h)
def g158 (x : S158) : Prop := (Lit.int .i64 x.f0).wf = true ∧ (Lit.int .i64 x.f1).wf = true ∧ (Lit.int .i64 x.f2).wf = true ∧ (Lit.int .i64 x.f3).wf = true ∧ (Lit.int .i64 x.f4).wf = true ∧ (Lit.int .i64 x.f5).wf = true
theorem opens158 (n : Nat) : Opens Try.prog 158 k158 g158 n :=
  opens_imp (opens_iso (fun x : S158 => (x.f0, x.f1, x.f2, x.f3, x.f4, x.f5)) (fun x => (⟨x.1, x.2.1, x.2.2.1, x.2.2.2.1, x.2.2.2.2.1, x.2.2.2.2.2⟩ : S158)) (fun _ => rfl) (opens_struct Try.underlying158 (by kernel_rfl) fun m _ => (fields_cons rfl (by kernel_rfl) (opens_int Try.underlying3 m) (fields_cons rfl (by kernel_rfl) (opens_int Try.underlying3 m) (fields_cons rfl (by kernel_rfl) (opens_int Try.underlying3 m) (fields_cons rfl (by kernel_rfl) (opens_int Try.underlying3 m) (fields_cons rfl (by kernel_rfl) (opens_int Try.underlying3 m) (fields_one rfl (by kernel_rfl) (opens_int Try.underlying3 m))))))))) (fun _ h => h)
def g73 (x : S73) : Prop := (x.f0.length ≤ maxLen ∧ ∀ y_ ∈ x.f0, g154 y_) ∧ (x.f1.length ≤ maxLen ∧ ∀ y_ ∈ x.f1, g27 y_) ∧ (x.f2.length ≤ maxLen ∧ ∀ y_ ∈ x.f2, g134 y_) ∧ (x.f3.length ≤ maxLen ∧ ∀ y_ ∈ x.f3, g136 y_) ∧ (Lit.int .i64 x.f4).wf = true ∧ (x.f5.length ≤ maxLen ∧ ∀ y_ ∈ x.f5, g158 y_)
theorem opens73 (n : Nat) : Opens Try.prog 73 k73 g73 n :=
  opens_imp (opens_iso (fun x : S73 => (x.f0, x.f1, x.f2, x.f3, x.f4, x.f5)) (fun x => (⟨x.1, x.2.1, x.2.2.1, x.2.2.2.1, x.2.2.2.2.1, x.2.2.2.2.2⟩ : S73)) (fun _ => rfl) (opens_struct Try.underlying73 (by kernel_rfl) fun m _ => (fields_cons rfl (by kernel_rfl) (opens_slice Try.underlying69 (by kernel_rfl) fun m _ => (opens154 m)) (fields_cons rfl (by kernel_rfl) (opens_slice Try.underlying70 (by kernel_rfl) fun m _ => (opens27 m)) (fields_cons rfl (by kernel_rfl) (opens_slice Try.underlying28 (by kernel_rfl) fun m _ => (opens134 m)) (fields_cons rfl (by kernel_rfl) (opens_slice Try.underlying29 (by kernel_rfl) fun m _ => (opens136 m)) (fields_cons rfl (by kernel_rfl) (opens_int Try.underlying3 m) (fields_one rfl (by kernel_rfl) (opens_slice Try.underlying71 (by kernel_rfl) fun m _ => (opens158 m)))))))))) (fun _ h => h)
end
/-- What is left to show of laws_FnExactEqualCenters: over numbers and lists alone. -/
def laws_FnExactEqualCenters.Pure : Prop := ∀ (x0 : S73) (x1 : S73), g73 x0 → g73 x1 → ∃ k, laws_FnExactEqualCenters.f k x0.f0 x0.f1 x0.f2 x0.f3 x0.f4 x0.f5 x1.f0 x1.f1 x1.f2 x1.f3 x1.f4 x1.f5 = some true

end Go.Proofs.Ytineejdlpcgnkaa.QFnExactEqualCenters
