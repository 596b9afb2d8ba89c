/- The machine side of FnExactAreEmergencies: what each function that it reaches computes, and that the machine's call gives just that. -/
import Derived.Test.YtplfbjbbnjlnkaaQFnExactAreEmergenciesx0
import Derived.Test.YtplfbjbbnjlnkaaQFnExactAreEmergenciesx1
import Derived.Test.YtplfbjbbnjlnkaaQFnExactAreEmergenciesx3
import Derived.Test.YtplfbjbbnjlnkaaQFnExactAreEmergenciesx4
import Derived.Test.YtplfbjbbnjlnkaaQFnExactAreEmergenciesx6
import Derived.Test.YtplfbjbbnjlnkaaQFnExactAreEmergenciesx7
namespace Go.Proofs.Ytplfbjbbnjlnkaa.QFnExactAreEmergencies
open Go.RowKit Go.Proofs.YtplfbjbbnjlnkaaW.PrintWords Go.Proofs.YtplfbjbbnjlnkaaW.PrintLast Go.Proofs.YtplfbjbbnjlnkaaW.PrintMore
attribute [local go_sem] max2_int min2_int max_two min_two max_three min_three max_four min_four   -- for this text's walks alone
set_option linter.unusedVariables false
set_option linter.unusedSimpArgs false

/-! ### laws_FnExactAreEmergencies: function 6 -/
def laws_FnExactAreEmergencies.f (k : Nat) (l0_0 : List Int) (l0_1 : List Int) (a0_2 : Int) (l1 : List (S143)) : Option (Bool) := (laws_szPlan.f l0_0 l0_1 a0_2 1048576).bind fun t240 => (if t240 < 0 then (some true) else ((laws_szEmergencyS.f k l1 t240).bind fun t241 => (if t241 < 0 then (some true) else ((laws_toPlan.f k l0_0 l0_1 a0_2).bind fun bt242 => ((laws_toEmergencyS.f k l1).bind fun t249 => ((spec_AreEmergencies.f k bt242.1 bt242.2.1 bt242.2.2 t249).bind fun t252 => ((laws_toPlan.f k l0_0 l0_1 a0_2).bind fun bt253 => ((laws_toEmergencyS.f k l1).bind fun t261 => ((impl_AreEmergencies.f k bt253.1 bt253.2.1 bt253.2.2 t261).bind fun t264 => (if (t264 != t252) = true then (some false) else ((laws_toPlan.f k l0_0 l0_1 a0_2).bind fun bt265 => ((laws_eqPlan.f k bt253.1 bt253.2.1 bt253.2.2 bt265.1 bt265.2.1 bt265.2.2).bind fun t272 => (if t272 = true then ((laws_toEmergencyS.f k l1).bind fun t273 => ((laws_eqEmergencyS.f k t261 t273).bind fun t276 => (if t276 = true then (some true) else (some false)))) else (some false))))))))))))))
set_option maxHeartbeats 8000000 in
set_option maxRecDepth 100000 in
theorem laws_FnExactAreEmergencies.calls (k : Nat) (A0_0 : Option Addr) (c0_0 : Nat) (l0_0 : List Int) (A0_1 : Option Addr) (c0_1 : Nat) (l0_1 : List Int) (a0_2 : Int) (A1 : Option Addr) (c1 : Nat) (l1 : List (S143)) (r : Bool) (w : World) (hr0_0 : Kd.C (Kd.int .i64) w A0_0 l0_0.length l0_0) (hc0_0 : l0_0.length ≤ c0_0) (hr0_1 : Kd.C (Kd.int .i64) w A0_1 l0_1.length l0_1) (hc0_1 : l0_1.length ≤ c0_1) (hr1 : Kd.C k143 w A1 l1.length l1) (hc1 : l1.length ≤ c1) (h : laws_FnExactAreEmergencies.f k l0_0 l0_1 a0_2 l1 = some r) :
    Calls Try.prog 6 #[.agg #[.slice A0_0 l0_0.length c0_0, .slice A0_1 l0_1.length c0_1, .int .i64 a0_2], .slice A1 l1.length c1] w fun e w' => e = .returned (.bool r) ∧ Below w.heap.size w w' := by
  have HR0_0 := Aside0.mk hr0_0
  have HC0_0 := Aside0.mk hc0_0
  clear hr0_0 hc0_0
  have HR0_1 := Aside0.mk hr0_1
  have HC0_1 := Aside0.mk hc0_1
  clear hr0_1 hc0_1
  have HR1 := Aside0.mk hr1
  have HC1 := Aside0.mk hc1
  clear hr1 hc1
  have HB := Aside0.mk (Below.refl w.heap.size w)
  have H := h
  clear h
  unfold laws_FnExactAreEmergencies.f at H
  have hu57 := Try.underlying57
  have hu62 := Try.underlying62
  go_enter Try.func6, Try.ntmps6
  have H'' := Aside0.mk H
  clear H
  go_wp2_with (first | ((with_reducible refine gate_dst (N := 2) rfl ?_); refine box_event ?hg (N := 2) ?hd (cs := #[.slice A0_0 l0_0.length c0_0, .slice A0_1 l0_1.length c0_1, .int .i64 a0_2]) (t := 57) ?hr ?_; (case hd => rfl); (case hg => rfl); (case hr => first | (go_simp; done) | (go_simp; rfl)); intro gb1 hg W1 hbox hb; have Z1 := Aside0.mk hb.size; have E1 := Aside0.mk (And.intro hg (blk_lt hbox)); have BK1 := Aside0.mk hbox; have c_BK1 := blk_cell hbox; have z_BK1 := blk_frozen hbox; have hB_ := below_step HB.out hb; clear HB hb hbox hg; have HB := Aside0.mk hB_; clear hB_))
  have H := H''.out
  clear H''
  replace H := Option.bind_eq_some_iff.mp H
  obtain ⟨t240, hm, H⟩ := H
  try dsimp only at H
  have H' := Aside0.mk H
  clear H
  have hcall := laws_szPlan.calls _ _ l0_0 _ _ l0_1 a0_2 1048576 t240 W1 (Kd.C_below HR0_0.out HB.out) HC0_0.out (Kd.C_below HR0_1.out HB.out) HC0_1.out hm
  clear hm
  try go_wp2_with fail
  refine hcall.mono ?_
  rintro e W2 ⟨rfl, hb⟩
  clear hcall
  have Z2 := Aside0.mk hb.size
  have h_ := blk_below BK1.out hb
  clear BK1 c_BK1 z_BK1
  have BK1 := Aside0.mk h_
  have c_BK1 := blk_cell h_
  have z_BK1 := blk_frozen h_
  clear h_
  have hB_ := below_step HB.out hb
  clear HB hb
  have HB := Aside0.mk hB_
  clear hB_
  have H := H'.out
  clear H'
  by_cases c3 : t240 < 0
  · rw [if_pos c3] at H
    have c3_0 : decide (t240 < 0) = true := decide_eq_true c3
    clear c3
    obtain rfl := Option.some.inj H
    clear H
    go_wp2
    go_ret
    exact ⟨rfl, HB.out⟩
  · rw [if_neg c3] at H
    have c3_0 : decide (t240 < 0) = false := decide_eq_false c3
    clear c3
    replace H := Option.bind_eq_some_iff.mp H
    obtain ⟨t241, hm, H⟩ := H
    try dsimp only at H
    have H' := Aside0.mk H
    clear H
    have hcall := laws_szEmergencyS.calls k _ _ l1 t240 t241 W2 (Kd.C_below HR1.out HB.out) HC1.out hm
    clear hm
    go_wp2_with fail
    refine hcall.mono ?_
    rintro e W4 ⟨rfl, hb⟩
    clear hcall
    have Z4 := Aside0.mk hb.size
    have h_ := blk_below BK1.out hb
    clear BK1 c_BK1 z_BK1
    have BK1 := Aside0.mk h_
    have c_BK1 := blk_cell h_
    have z_BK1 := blk_frozen h_
    clear h_
    have hB_ := below_step HB.out hb
    clear HB hb
    have HB := Aside0.mk hB_
    clear hB_
    have H := H'.out
    clear H'
    by_cases c5 : t241 < 0
    · rw [if_pos c5] at H
      have c5_0 : decide (t241 < 0) = true := decide_eq_true c5
      clear c5
      obtain rfl := Option.some.inj H
      clear H
      go_wp2
      go_ret
      exact ⟨rfl, HB.out⟩
    · rw [if_neg c5] at H
      have c5_0 : decide (t241 < 0) = false := decide_eq_false c5
      clear c5
      replace H := Option.bind_eq_some_iff.mp H
      obtain ⟨⟨t242, t245, t248⟩, hm, H⟩ := H
      try dsimp only at H
      have H' := Aside0.mk H
      clear H
      have hcall := laws_toPlan.calls k _ _ l0_0 _ _ l0_1 a0_2 t242 t245 t248 W4 (Kd.C_below HR0_0.out HB.out) HC0_0.out (Kd.C_below HR0_1.out HB.out) HC0_1.out hm
      clear hm
      go_wp2_with fail
      refine hcall.mono ?_
      rintro e W6 ⟨v243, v246, rfl, ho0, ho1, hb⟩
      clear hcall
      have NE6_0_1 := Aside0.mk (fun k_ (h0_ : some k_ = (v243 : Value).ownBlock) (h1_ : some k_ = (v246 : Value).ownBlock) => (ho1.1 k_ h1_.symm) h0_)
      have Z6 := Aside0.mk hb.size
      obtain ⟨A6_0, n6_0, c6_0, rfl, hn_, hr_⟩ := Go.Proofs.YtplfbjbbnjlnkaaM.R_made ho0 HB.out.size
      clear hn_ ho0
      have HO6_0 := Aside0.mk hr_
      clear hr_
      obtain ⟨A6_1, n6_1, c6_1, rfl, hn_, hr_⟩ := Go.Proofs.YtplfbjbbnjlnkaaM.R_made ho1 HB.out.size
      clear hn_ ho1
      have HO6_1 := Aside0.mk hr_
      clear hr_
      have h_ := blk_below BK1.out hb
      clear BK1 c_BK1 z_BK1
      have BK1 := Aside0.mk h_
      have c_BK1 := blk_cell h_
      have z_BK1 := blk_frozen h_
      clear h_
      have hB_ := below_step HB.out hb
      clear HB hb
      have HB := Aside0.mk hB_
      clear hB_
      have H := H'.out
      clear H'
      replace H := Option.bind_eq_some_iff.mp H
      obtain ⟨t249, hm, H⟩ := H
      try dsimp only at H
      have H' := Aside0.mk H
      clear H
      have hcall := laws_toEmergencyS.calls k _ _ l1 t249 W6 (Kd.C_below HR1.out HB.out) HC1.out hm
      clear hm
      go_wp2_with fail
      refine hcall.mono ?_
      rintro e W7 ⟨v250, rfl, ho0, hb⟩
      clear hcall
      have Z7 := Aside0.mk hb.size
      have h_ := Kd.R_below HO6_0.out hb
      clear HO6_0
      have HO6_0 := Aside0.mk h_
      clear h_
      have h_ := Kd.R_below HO6_1.out hb
      clear HO6_1
      have HO6_1 := Aside0.mk h_
      clear h_
      obtain ⟨A7_0, n7_0, c7_0, rfl, hn_, hr_⟩ := Go.Proofs.YtplfbjbbnjlnkaaM.S_made ho0 HB.out.size
      clear hn_ ho0
      have HO7_0 := Aside0.mk hr_
      clear hr_
      have h_ := blk_below BK1.out hb
      clear BK1 c_BK1 z_BK1
      have BK1 := Aside0.mk h_
      have c_BK1 := blk_cell h_
      have z_BK1 := blk_frozen h_
      clear h_
      have hB_ := below_step HB.out hb
      clear HB hb
      have HB := Aside0.mk hB_
      clear hB_
      have H := H'.out
      clear H'
      replace H := Option.bind_eq_some_iff.mp H
      obtain ⟨t252, hm, H⟩ := H
      try dsimp only at H
      have H' := Aside0.mk H
      clear H
      have hcall := spec_AreEmergencies.calls k _ _ t242 _ _ t245 t248 _ _ t249 t252 W7 (Go.Proofs.YtplfbjbbnjlnkaaM.R_C HO6_0.out) (Go.Proofs.YtplfbjbbnjlnkaaM.R_len HO6_0.out) (Go.Proofs.YtplfbjbbnjlnkaaM.R_C HO6_1.out) (Go.Proofs.YtplfbjbbnjlnkaaM.R_len HO6_1.out) (Go.Proofs.YtplfbjbbnjlnkaaM.S_C HO7_0.out) (Go.Proofs.YtplfbjbbnjlnkaaM.S_len HO7_0.out) hm
      rw [Go.Proofs.YtplfbjbbnjlnkaaM.R_n HO6_0.out, Go.Proofs.YtplfbjbbnjlnkaaM.R_n HO6_1.out, Go.Proofs.YtplfbjbbnjlnkaaM.S_n HO7_0.out] at hcall
      clear hm
      go_wp2_with fail
      refine hcall.mono ?_
      rintro e W8 ⟨rfl, hb⟩
      clear hcall
      have Z8 := Aside0.mk hb.size
      have h_ := Kd.R_below HO6_0.out hb
      clear HO6_0
      have HO6_0 := Aside0.mk h_
      clear h_
      have h_ := Kd.R_below HO6_1.out hb
      clear HO6_1
      have HO6_1 := Aside0.mk h_
      clear h_
      have h_ := Kd.S_below HO7_0.out hb
      clear HO7_0
      have HO7_0 := Aside0.mk h_
      clear h_
      have h_ := blk_below BK1.out hb
      clear BK1 c_BK1 z_BK1
      have BK1 := Aside0.mk h_
      have c_BK1 := blk_cell h_
      have z_BK1 := blk_frozen h_
      clear h_
      have hB_ := below_step HB.out hb
      clear HB hb
      have HB := Aside0.mk hB_
      clear hB_
      have H := H'.out
      clear H'
      replace H := Option.bind_eq_some_iff.mp H
      obtain ⟨⟨t253, t256, t259⟩, hm, H⟩ := H
      try dsimp only at H
      have H' := Aside0.mk H
      clear H
      have hcall := laws_toPlan.calls k _ _ l0_0 _ _ l0_1 a0_2 t253 t256 t259 W8 (Kd.C_below HR0_0.out HB.out) HC0_0.out (Kd.C_below HR0_1.out HB.out) HC0_1.out hm
      clear hm
      go_wp2_with fail
      refine hcall.mono ?_
      rintro e W9 ⟨v254, v257, rfl, ho0, ho1, hb⟩
      clear hcall
      have NE9_0_1 := Aside0.mk (fun k_ (h0_ : some k_ = (v254 : Value).ownBlock) (h1_ : some k_ = (v257 : Value).ownBlock) => (ho1.1 k_ h1_.symm) h0_)
      have Z9 := Aside0.mk hb.size
      have h_ := Kd.R_below HO6_0.out hb
      clear HO6_0
      have HO6_0 := Aside0.mk h_
      clear h_
      have h_ := Kd.R_below HO6_1.out hb
      clear HO6_1
      have HO6_1 := Aside0.mk h_
      clear h_
      have h_ := Kd.S_below HO7_0.out hb
      clear HO7_0
      have HO7_0 := Aside0.mk h_
      clear h_
      obtain ⟨A9_0, n9_0, c9_0, rfl, hn_, hr_⟩ := Go.Proofs.YtplfbjbbnjlnkaaM.R_made ho0 HB.out.size
      clear hn_ ho0
      have HO9_0 := Aside0.mk hr_
      clear hr_
      obtain ⟨A9_1, n9_1, c9_1, rfl, hn_, hr_⟩ := Go.Proofs.YtplfbjbbnjlnkaaM.R_made ho1 HB.out.size
      clear hn_ ho1
      have HO9_1 := Aside0.mk hr_
      clear hr_
      have h_ := blk_below BK1.out hb
      clear BK1 c_BK1 z_BK1
      have BK1 := Aside0.mk h_
      have c_BK1 := blk_cell h_
      have z_BK1 := blk_frozen h_
      clear h_
      have hB_ := below_step HB.out hb
      clear HB hb
      have HB := Aside0.mk hB_
      clear hB_
      have H := H'.out
      clear H'
      have H'' := Aside0.mk H
      clear H
      go_wp2_with (first | ((with_reducible refine gate_dst (N := 7) rfl ?_); refine box_event ?hg (N := 7) ?hd (cs := #[.slice none 0 0, .slice none 0 0, .int .i64 0]) (t := 62) ?hr ?_; (case hd => rfl); (case hg => rfl); (case hr => first | (go_simp; done) | (go_simp; rfl)); intro gb10 hg W10 hbox hb; have Z10 := Aside0.mk hb.size; have E10 := Aside0.mk (And.intro hg (blk_lt hbox)); have h_ := Kd.R_below HO6_0.out hb; clear HO6_0; have HO6_0 := Aside0.mk h_; clear h_; have h_ := Kd.R_below HO6_1.out hb; clear HO6_1; have HO6_1 := Aside0.mk h_; clear h_; have h_ := Kd.S_below HO7_0.out hb; clear HO7_0; have HO7_0 := Aside0.mk h_; clear h_; have h_ := Kd.R_below HO9_0.out hb; clear HO9_0; have HO9_0 := Aside0.mk h_; clear h_; have h_ := Kd.R_below HO9_1.out hb; clear HO9_1; have HO9_1 := Aside0.mk h_; clear h_; have h_ := blk_below BK1.out hb; clear BK1 c_BK1 z_BK1; have BK1 := Aside0.mk h_; have c_BK1 := blk_cell h_; have z_BK1 := blk_frozen h_; clear h_; have BK10 := Aside0.mk hbox; have c_BK10 := blk_cell hbox; have z_BK10 := blk_frozen hbox; have hB_ := below_step HB.out hb; clear HB hb hbox hg; have HB := Aside0.mk hB_; clear hB_) | ((with_reducible refine gate_store (t := 62) (p := 7) rfl ?_); refine store_event (t := 62) (p := 7) (v := ?vo_s11) (w1 := (((W10.setCell ⟨gb10, 0, none⟩ (.slice A9_0 n9_0 c9_0)).setCell ⟨gb10, 1, none⟩ (.slice A9_1 n9_1 c9_1)).setCell ⟨gb10, 2, none⟩ (.int .i64 t259))) ?hg ?ho ?hn ?hr ?_; (case ho => rfl); (case hg => rfl); (case hn => rfl); (case hr => first | (go_simp; done) | (go_simp; rfl)); intro W11 hw; have hk_ : Kept W10 W11 (fun k_ => k_ = gb10) := (by rw [hw]; exact Kept.setCell (Kept.setCell (Kept.setCell (Kept.refl W10 (fun k_ => k_ = gb10)) (.inl rfl) _) (.inl rfl) _) (.inl rfl) _); have hge_ : w.heap.size ≤ gb10 := (by have := E10.out.1; have := HB.out.size; have := Z1.out; have := Z2.out; have := Z4.out; have := Z6.out; have := Z7.out; have := Z8.out; have := Z9.out; have := Z10.out; omega); have Z11 := Aside0.mk hk_.1; have h_ := Kd.R_step HO6_0.out (fun k_ h1_ h2_ => hk_.2 k_ h2_ (fun h3_ => by obtain ⟨_, _⟩ := h1_; have := E10.out; have := Z1.out; have := Z2.out; have := Z4.out; have := Z6.out; have := Z7.out; have := Z8.out; have := Z9.out; have := Z10.out; omega)); clear HO6_0; have HO6_0 := Aside0.mk h_; clear h_; have h_ := Kd.R_step HO6_1.out (fun k_ h1_ h2_ => hk_.2 k_ h2_ (fun h3_ => by obtain ⟨_, _⟩ := h1_; have := E10.out; have := Z1.out; have := Z2.out; have := Z4.out; have := Z6.out; have := Z7.out; have := Z8.out; have := Z9.out; have := Z10.out; omega)); clear HO6_1; have HO6_1 := Aside0.mk h_; clear h_; have h_ := Kd.S_step HO7_0.out (fun k_ h1_ h2_ => hk_.2 k_ h2_ (fun h3_ => by obtain ⟨_, _⟩ := h1_; have := E10.out; have := Z1.out; have := Z2.out; have := Z4.out; have := Z6.out; have := Z7.out; have := Z8.out; have := Z9.out; have := Z10.out; omega)); clear HO7_0; have HO7_0 := Aside0.mk h_; clear h_; have h_ := Kd.R_step HO9_0.out (fun k_ h1_ h2_ => hk_.2 k_ h2_ (fun h3_ => by obtain ⟨_, _⟩ := h1_; have := E10.out; have := Z1.out; have := Z2.out; have := Z4.out; have := Z6.out; have := Z7.out; have := Z8.out; have := Z9.out; have := Z10.out; omega)); clear HO9_0; have HO9_0 := Aside0.mk h_; clear h_; have h_ := Kd.R_step HO9_1.out (fun k_ h1_ h2_ => hk_.2 k_ h2_ (fun h3_ => by obtain ⟨_, _⟩ := h1_; have := E10.out; have := Z1.out; have := Z2.out; have := Z4.out; have := Z6.out; have := Z7.out; have := Z8.out; have := Z9.out; have := Z10.out; omega)); clear HO9_1; have HO9_1 := Aside0.mk h_; clear h_; have h_ := blk_kept BK1.out hk_ (fun hp_ => by have := E1.out; have := E10.out; have := Z1.out; have := Z2.out; have := Z4.out; have := Z6.out; have := Z7.out; have := Z8.out; have := Z9.out; have := Z10.out; omega); clear BK1 c_BK1 z_BK1; have BK1 := Aside0.mk h_; have c_BK1 := blk_cell h_; have z_BK1 := blk_frozen h_; clear h_; have h_ := blk_set (blk_set (blk_set (BK10.out) 0 (.slice A9_0 n9_0 c9_0)) 1 (.slice A9_1 n9_1 c9_1)) 2 (.int .i64 t259); rw [← hw] at h_; simp only [List.setIfInBounds_toArray, List.set_cons_zero, List.set_cons_succ] at h_; clear BK10 c_BK10 z_BK10; have BK10 := Aside0.mk h_; have c_BK10 := blk_cell h_; have z_BK10 := blk_frozen h_; clear h_; have hB_ : Below w.heap.size w W11 := (by rw [hw]; exact below_set (below_set (below_set (HB.out) hge_) hge_) hge_); clear HB hw hk_ hge_; have HB := Aside0.mk hB_; clear hB_))
      have H := H''.out
      clear H''
      replace H := Option.bind_eq_some_iff.mp H
      obtain ⟨t261, hm, H⟩ := H
      try dsimp only at H
      have H' := Aside0.mk H
      clear H
      have hcall := laws_toEmergencyS.calls k _ _ l1 t261 W11 (Kd.C_below HR1.out HB.out) HC1.out hm
      clear hm
      try go_wp2_with fail
      refine hcall.mono ?_
      rintro e W12 ⟨v262, rfl, ho0, hb⟩
      clear hcall
      have Z12 := Aside0.mk hb.size
      have h_ := Kd.R_below HO6_0.out hb
      clear HO6_0
      have HO6_0 := Aside0.mk h_
      clear h_
      have h_ := Kd.R_below HO6_1.out hb
      clear HO6_1
      have HO6_1 := Aside0.mk h_
      clear h_
      have h_ := Kd.S_below HO7_0.out hb
      clear HO7_0
      have HO7_0 := Aside0.mk h_
      clear h_
      have h_ := Kd.R_below HO9_0.out hb
      clear HO9_0
      have HO9_0 := Aside0.mk h_
      clear h_
      have h_ := Kd.R_below HO9_1.out hb
      clear HO9_1
      have HO9_1 := Aside0.mk h_
      clear h_
      obtain ⟨A12_0, n12_0, c12_0, rfl, hn_, hr_⟩ := Go.Proofs.YtplfbjbbnjlnkaaM.S_made ho0 HB.out.size
      clear hn_ ho0
      have HO12_0 := Aside0.mk hr_
      clear hr_
      have h_ := blk_below BK1.out hb
      clear BK1 c_BK1 z_BK1
      have BK1 := Aside0.mk h_
      have c_BK1 := blk_cell h_
      have z_BK1 := blk_frozen h_
      clear h_
      have h_ := blk_below BK10.out hb
      clear BK10 c_BK10 z_BK10
      have BK10 := Aside0.mk h_
      have c_BK10 := blk_cell h_
      have z_BK10 := blk_frozen h_
      clear h_
      have hB_ := below_step HB.out hb
      clear HB hb
      have HB := Aside0.mk hB_
      clear hB_
      have H := H'.out
      clear H'
      replace H := Option.bind_eq_some_iff.mp H
      obtain ⟨t264, hm, H⟩ := H
      try dsimp only at H
      have H' := Aside0.mk H
      clear H
      have hcall := impl_AreEmergencies.calls k _ _ t253 _ _ t256 t259 _ _ t261 t264 W12 (Go.Proofs.YtplfbjbbnjlnkaaM.R_C HO9_0.out) (Go.Proofs.YtplfbjbbnjlnkaaM.R_len HO9_0.out) (Go.Proofs.YtplfbjbbnjlnkaaM.R_C HO9_1.out) (Go.Proofs.YtplfbjbbnjlnkaaM.R_len HO9_1.out) (Go.Proofs.YtplfbjbbnjlnkaaM.S_C HO12_0.out) (Go.Proofs.YtplfbjbbnjlnkaaM.S_len HO12_0.out) hm
      rw [Go.Proofs.YtplfbjbbnjlnkaaM.R_n HO9_0.out, Go.Proofs.YtplfbjbbnjlnkaaM.R_n HO9_1.out, Go.Proofs.YtplfbjbbnjlnkaaM.S_n HO12_0.out] at hcall
      clear hm
      go_wp2_with fail
      refine hcall.mono ?_
      rintro e W13 ⟨rfl, hb⟩
      clear hcall
      have Z13 := Aside0.mk hb.size
      have h_ := Kd.R_below HO6_0.out hb
      clear HO6_0
      have HO6_0 := Aside0.mk h_
      clear h_
      have h_ := Kd.R_below HO6_1.out hb
      clear HO6_1
      have HO6_1 := Aside0.mk h_
      clear h_
      have h_ := Kd.S_below HO7_0.out hb
      clear HO7_0
      have HO7_0 := Aside0.mk h_
      clear h_
      have h_ := Kd.R_below HO9_0.out hb
      clear HO9_0
      have HO9_0 := Aside0.mk h_
      clear h_
      have h_ := Kd.R_below HO9_1.out hb
      clear HO9_1
      have HO9_1 := Aside0.mk h_
      clear h_
      have h_ := Kd.S_below HO12_0.out hb
      clear HO12_0
      have HO12_0 := Aside0.mk h_
      clear h_
      have h_ := blk_below BK1.out hb
      clear BK1 c_BK1 z_BK1
      have BK1 := Aside0.mk h_
      have c_BK1 := blk_cell h_
      have z_BK1 := blk_frozen h_
      clear h_
      have h_ := blk_below BK10.out hb
      clear BK10 c_BK10 z_BK10
      have BK10 := Aside0.mk h_
      have c_BK10 := blk_cell h_
      have z_BK10 := blk_frozen h_
      clear h_
      have hB_ := below_step HB.out hb
      clear HB hb
      have HB := Aside0.mk hB_
      clear hB_
      have H := H'.out
      clear H'
      by_cases c14 : (t264 != t252) = true
      · rw [if_pos c14] at H
        have c14_1 : (t264 != t252) = true := by revert c14; cases t264 <;> cases t252 <;> decide
        have c14_2 : (!t264 == t252) = true := by revert c14; cases t264 <;> cases t252 <;> decide
        clear c14
        obtain rfl := Option.some.inj H
        clear H
        go_wp2
        go_ret
        exact ⟨rfl, HB.out⟩
      · rw [if_neg c14] at H
        have c14_1 : (t264 != t252) = false := by revert c14; cases t264 <;> cases t252 <;> decide
        have c14_2 : (!t264 == t252) = false := by revert c14; cases t264 <;> cases t252 <;> decide
        clear c14
        replace H := Option.bind_eq_some_iff.mp H
        obtain ⟨⟨t265, t268, t271⟩, hm, H⟩ := H
        try dsimp only at H
        have HM15 := Aside0.mk hm
        clear hm
        replace H := Option.bind_eq_some_iff.mp H
        obtain ⟨t272, hm, H⟩ := H
        try dsimp only at H
        have HM16 := Aside0.mk hm
        clear hm
        have H' := Aside0.mk H
        clear H
        try go_wp2
        have h_ := Kd.R_drew HO6_0.out
        clear HO6_0
        have HO6_0 := Aside0.mk h_
        clear h_
        have h_ := Kd.R_drew HO6_1.out
        clear HO6_1
        have HO6_1 := Aside0.mk h_
        clear h_
        have h_ := Kd.S_drew HO7_0.out
        clear HO7_0
        have HO7_0 := Aside0.mk h_
        clear h_
        have h_ := Kd.R_drew HO9_0.out
        clear HO9_0
        have HO9_0 := Aside0.mk h_
        clear h_
        have h_ := Kd.R_drew HO9_1.out
        clear HO9_1
        have HO9_1 := Aside0.mk h_
        clear h_
        have h_ := Kd.S_drew HO12_0.out
        clear HO12_0
        have HO12_0 := Aside0.mk h_
        clear h_
        have h_ := blk_drew BK1.out
        clear BK1 c_BK1 z_BK1
        have BK1 := Aside0.mk h_
        clear h_
        have h_ := blk_drew BK10.out
        clear BK10 c_BK10 z_BK10
        have BK10 := Aside0.mk h_
        clear h_
        have hB_ := below_drew1 HB.out
        clear HB
        have HB := Aside0.mk hB_
        clear hB_
        have Z17 : Aside0 (W13.heap.size ≤ W13.drew.heap.size) := ⟨Nat.le_refl _⟩
        refine start_ (n := 5) (S := fun w' => w'.cell? ⟨gb1, 0, none⟩ = some (.slice A0_0 l0_0.length c0_0) ∧ w'.cell? ⟨gb1, 1, none⟩ = some (.slice A0_1 l0_1.length c0_1) ∧ w'.cell? ⟨gb1, 2, none⟩ = some (.int .i64 a0_2) ∧ w'.cell? ⟨gb10, 0, none⟩ = some (.slice A9_0 n9_0 c9_0) ∧ w'.cell? ⟨gb10, 1, none⟩ = some (.slice A9_1 n9_1 c9_1) ∧ w'.cell? ⟨gb10, 2, none⟩ = some (.int .i64 t259)) (ds := []) #[false, false, false, false, false] (by kernel_rfl) rfl rfl ⟨(blk_cell BK1.out 0).trans rfl, (blk_cell BK1.out 1).trans rfl, (blk_cell BK1.out 2).trans rfl, (blk_cell BK10.out 0).trans rfl, (blk_cell BK10.out 1).trans rfl, (blk_cell BK10.out 2).trans rfl⟩ (fun hHeld => ?_)
        generalize W13.drew = W17 at Z17 HB BK1 BK10 HO6_0 HO6_1 HO7_0 HO9_0 HO9_1 HO12_0 hHeld ⊢
        have c_BK1 := blk_cell BK1.out
        have z_BK1 := blk_frozen BK1.out
        have c_BK10 := blk_cell BK10.out
        have z_BK10 := blk_frozen BK10.out
        refine take_ (i := 0) (N := some 35) (v := ?_) (a' := ?_) #[true, false, false, false, false] rfl rfl (by kernel_rfl) (fun _ _ _ h => h) (Or.inl ⟨by rfl, ?_⟩) hHeld ?_ ?_
        rotate_left
        · rintro w' ⟨s0, s1, s2, s3, s4, s5⟩
          go_simp
          with_reducible rfl
        rotate_left
        · simp only [Act.put, List.setIfInBounds_toArray, List.set_cons_zero, List.set_cons_succ, i64_w, i32_w]
          rfl
        refine take_ (i := 1) (N := some 36) (v := ?_) (a' := ?_) #[true, true, false, false, false] rfl rfl (by kernel_rfl) (fun _ _ _ h => h) (Or.inl ⟨by rfl, ?_⟩) hHeld ?_ ?_
        rotate_left
        · rintro w' ⟨s0, s1, s2, s3, s4, s5⟩
          go_simp
          with_reducible rfl
        rotate_left
        · simp only [Act.put, List.setIfInBounds_toArray, List.set_cons_zero, List.set_cons_succ, i64_w, i32_w]
          rfl
        refine one_ (i := 2) (N := some 37) #[true, true, true, false, false] rfl rfl (by kernel_rfl) (by decide) (fun K hK => ?_)
        have hcall := laws_toPlan.calls k _ _ l0_0 _ _ l0_1 a0_2 t265 t268 t271 W17 (Kd.C_below HR0_0.out HB.out) HC0_0.out (Kd.C_below HR0_1.out HB.out) HC0_1.out HM15.out
        refine goes_ Try.func42 (by kernel_rfl) rfl #[.agg #[.slice A0_0 l0_0.length c0_0, .slice A0_1 l0_1.length c0_1, .int .i64 a0_2]] (by rfl) rfl rfl (by (try simp only [List.map_toArray, List.map_cons, List.map_nil]); first | done | rfl) ?_
        refine hcall.mono ?_
        rintro e W18 ⟨v266, v269, rfl, ho0, ho1, hb⟩
        refine ⟨_, rfl, ?_⟩
        clear hcall
        have Z18 := Aside0.mk hb.size
        have h_ := Kd.R_below HO6_0.out hb
        clear HO6_0
        have HO6_0 := Aside0.mk h_
        clear h_
        have h_ := Kd.R_below HO6_1.out hb
        clear HO6_1
        have HO6_1 := Aside0.mk h_
        clear h_
        have h_ := Kd.S_below HO7_0.out hb
        clear HO7_0
        have HO7_0 := Aside0.mk h_
        clear h_
        have h_ := Kd.R_below HO9_0.out hb
        clear HO9_0
        have HO9_0 := Aside0.mk h_
        clear h_
        have h_ := Kd.R_below HO9_1.out hb
        clear HO9_1
        have HO9_1 := Aside0.mk h_
        clear h_
        have h_ := Kd.S_below HO12_0.out hb
        clear HO12_0
        have HO12_0 := Aside0.mk h_
        clear h_
        obtain ⟨A18_0, n18_0, c18_0, rfl, hn_, hr_⟩ := Go.Proofs.YtplfbjbbnjlnkaaM.R_made ho0 HB.out.size
        clear hn_ ho0
        have HO18_0 := Aside0.mk hr_
        clear hr_
        obtain ⟨A18_1, n18_1, c18_1, rfl, hn_, hr_⟩ := Go.Proofs.YtplfbjbbnjlnkaaM.R_made ho1 HB.out.size
        clear hn_ ho1
        have HO18_1 := Aside0.mk hr_
        clear hr_
        have h_ := blk_below BK1.out hb
        clear BK1 c_BK1 z_BK1
        have BK1 := Aside0.mk h_
        have c_BK1 := blk_cell h_
        have z_BK1 := blk_frozen h_
        clear h_
        have h_ := blk_below BK10.out hb
        clear BK10 c_BK10 z_BK10
        have BK10 := Aside0.mk h_
        have c_BK10 := blk_cell h_
        have z_BK10 := blk_frozen h_
        clear h_
        have hB_ := below_step HB.out hb
        clear HB hb
        have HB := Aside0.mk hB_
        clear hB_
        refine hK.out _ _ ⟨(blk_cell BK1.out 0).trans rfl, (blk_cell BK1.out 1).trans rfl, (blk_cell BK1.out 2).trans rfl, (blk_cell BK10.out 0).trans rfl, (blk_cell BK10.out 1).trans rfl, (blk_cell BK10.out 2).trans rfl⟩ (fun hHeld => ?_)
        clear hK K
        refine norm_ (a' := ?_) ?_ ?_
        rotate_left
        · show Act.put _ (some 37) _ = _
          simp only [Act.put, List.setIfInBounds_toArray, List.set_cons_zero, List.set_cons_succ, i64_w, i32_w]
          rfl
        refine one_ (i := 3) (N := some 38) #[true, true, true, true, false] rfl rfl (by kernel_rfl) (by decide) (fun K hK => ?_)
        have hcall := laws_eqPlan.calls k _ _ t253 _ _ t256 t259 _ _ t265 _ _ t268 t271 t272 W18 (Go.Proofs.YtplfbjbbnjlnkaaM.R_C HO9_0.out) (Go.Proofs.YtplfbjbbnjlnkaaM.R_len HO9_0.out) (Go.Proofs.YtplfbjbbnjlnkaaM.R_C HO9_1.out) (Go.Proofs.YtplfbjbbnjlnkaaM.R_len HO9_1.out) (Go.Proofs.YtplfbjbbnjlnkaaM.R_C HO18_0.out) (Go.Proofs.YtplfbjbbnjlnkaaM.R_len HO18_0.out) (Go.Proofs.YtplfbjbbnjlnkaaM.R_C HO18_1.out) (Go.Proofs.YtplfbjbbnjlnkaaM.R_len HO18_1.out) HM16.out
        rw [Go.Proofs.YtplfbjbbnjlnkaaM.R_n HO9_0.out, Go.Proofs.YtplfbjbbnjlnkaaM.R_n HO9_1.out, Go.Proofs.YtplfbjbbnjlnkaaM.R_n HO18_0.out, Go.Proofs.YtplfbjbbnjlnkaaM.R_n HO18_1.out] at hcall
        refine goes_ Try.func45 (by kernel_rfl) rfl #[.agg #[.slice A9_0 n9_0 c9_0, .slice A9_1 n9_1 c9_1, .int .i64 t259], .agg #[.slice A18_0 n18_0 c18_0, .slice A18_1 n18_1 c18_1, .int .i64 t271]] (by rfl) rfl rfl (by (try simp only [List.map_toArray, List.map_cons, List.map_nil]); first | done | rfl) ?_
        refine hcall.mono ?_
        rintro e W19 ⟨rfl, hb⟩
        refine ⟨_, rfl, ?_⟩
        clear hcall
        have Z19 := Aside0.mk hb.size
        have h_ := Kd.R_below HO6_0.out hb
        clear HO6_0
        have HO6_0 := Aside0.mk h_
        clear h_
        have h_ := Kd.R_below HO6_1.out hb
        clear HO6_1
        have HO6_1 := Aside0.mk h_
        clear h_
        have h_ := Kd.S_below HO7_0.out hb
        clear HO7_0
        have HO7_0 := Aside0.mk h_
        clear h_
        have h_ := Kd.R_below HO9_0.out hb
        clear HO9_0
        have HO9_0 := Aside0.mk h_
        clear h_
        have h_ := Kd.R_below HO9_1.out hb
        clear HO9_1
        have HO9_1 := Aside0.mk h_
        clear h_
        have h_ := Kd.S_below HO12_0.out hb
        clear HO12_0
        have HO12_0 := Aside0.mk h_
        clear h_
        have h_ := Kd.R_below HO18_0.out hb
        clear HO18_0
        have HO18_0 := Aside0.mk h_
        clear h_
        have h_ := Kd.R_below HO18_1.out hb
        clear HO18_1
        have HO18_1 := Aside0.mk h_
        clear h_
        have h_ := blk_below BK1.out hb
        clear BK1 c_BK1 z_BK1
        have BK1 := Aside0.mk h_
        have c_BK1 := blk_cell h_
        have z_BK1 := blk_frozen h_
        clear h_
        have h_ := blk_below BK10.out hb
        clear BK10 c_BK10 z_BK10
        have BK10 := Aside0.mk h_
        have c_BK10 := blk_cell h_
        have z_BK10 := blk_frozen h_
        clear h_
        have hB_ := below_step HB.out hb
        clear HB hb
        have HB := Aside0.mk hB_
        clear hB_
        refine hK.out _ _ ⟨(blk_cell BK1.out 0).trans rfl, (blk_cell BK1.out 1).trans rfl, (blk_cell BK1.out 2).trans rfl, (blk_cell BK10.out 0).trans rfl, (blk_cell BK10.out 1).trans rfl, (blk_cell BK10.out 2).trans rfl⟩ (fun hHeld => ?_)
        clear hK K
        refine norm_ (a' := ?_) ?_ ?_
        rotate_left
        · show Act.put _ (some 38) _ = _
          simp only [Act.put, List.setIfInBounds_toArray, List.set_cons_zero, List.set_cons_succ, i64_w, i32_w]
          rfl
        refine pure_ (i := 4) (N := some 39) (v := ?_) (a' := ?_) #[true, true, true, true, true] rfl rfl (by kernel_rfl) (fun _ _ _ h => h) (Or.inl ⟨by rfl, ?_⟩) ?_ ?_
        rotate_left
        · intro w'
          go_simp
          with_reducible rfl
        rotate_left
        · simp only [Act.put, List.setIfInBounds_toArray, List.set_cons_zero, List.set_cons_succ, i64_w, i32_w]
          rfl
        refine done_ (by kernel_rfl) ?_
        clear hHeld
        have H := H'.out
        clear H'
        by_cases c20 : t272 = true
        · rw [if_pos c20] at H
          subst c20
          replace H := Option.bind_eq_some_iff.mp H
          obtain ⟨t273, hm, H⟩ := H
          try dsimp only at H
          have H' := Aside0.mk H
          clear H
          have hcall := laws_toEmergencyS.calls k _ _ l1 t273 W19 (Kd.C_below HR1.out HB.out) HC1.out hm
          clear hm
          go_wp2_with fail
          refine hcall.mono ?_
          rintro e W21 ⟨v274, rfl, ho0, hb⟩
          clear hcall
          have Z21 := Aside0.mk hb.size
          have h_ := Kd.R_below HO6_0.out hb
          clear HO6_0
          have HO6_0 := Aside0.mk h_
          clear h_
          have h_ := Kd.R_below HO6_1.out hb
          clear HO6_1
          have HO6_1 := Aside0.mk h_
          clear h_
          have h_ := Kd.S_below HO7_0.out hb
          clear HO7_0
          have HO7_0 := Aside0.mk h_
          clear h_
          have h_ := Kd.R_below HO9_0.out hb
          clear HO9_0
          have HO9_0 := Aside0.mk h_
          clear h_
          have h_ := Kd.R_below HO9_1.out hb
          clear HO9_1
          have HO9_1 := Aside0.mk h_
          clear h_
          have h_ := Kd.S_below HO12_0.out hb
          clear HO12_0
          have HO12_0 := Aside0.mk h_
          clear h_
          have h_ := Kd.R_below HO18_0.out hb
          clear HO18_0
          have HO18_0 := Aside0.mk h_
          clear h_
          have h_ := Kd.R_below HO18_1.out hb
          clear HO18_1
          have HO18_1 := Aside0.mk h_
          clear h_
          obtain ⟨A21_0, n21_0, c21_0, rfl, hn_, hr_⟩ := Go.Proofs.YtplfbjbbnjlnkaaM.S_made ho0 HB.out.size
          clear hn_ ho0
          have HO21_0 := Aside0.mk hr_
          clear hr_
          have h_ := blk_below BK1.out hb
          clear BK1 c_BK1 z_BK1
          have BK1 := Aside0.mk h_
          have c_BK1 := blk_cell h_
          have z_BK1 := blk_frozen h_
          clear h_
          have h_ := blk_below BK10.out hb
          clear BK10 c_BK10 z_BK10
          have BK10 := Aside0.mk h_
          have c_BK10 := blk_cell h_
          have z_BK10 := blk_frozen h_
          clear h_
          have hB_ := below_step HB.out hb
          clear HB hb
          have HB := Aside0.mk hB_
          clear hB_
          have H := H'.out
          clear H'
          replace H := Option.bind_eq_some_iff.mp H
          obtain ⟨t276, hm, H⟩ := H
          try dsimp only at H
          have H' := Aside0.mk H
          clear H
          have hcall := laws_eqEmergencyS.calls k _ _ t261 _ _ t273 t276 W21 (Go.Proofs.YtplfbjbbnjlnkaaM.S_C HO12_0.out) (Go.Proofs.YtplfbjbbnjlnkaaM.S_len HO12_0.out) (Go.Proofs.YtplfbjbbnjlnkaaM.S_C HO21_0.out) (Go.Proofs.YtplfbjbbnjlnkaaM.S_len HO21_0.out) hm
          rw [Go.Proofs.YtplfbjbbnjlnkaaM.S_n HO12_0.out, Go.Proofs.YtplfbjbbnjlnkaaM.S_n HO21_0.out] at hcall
          clear hm
          go_wp2_with fail
          refine hcall.mono ?_
          rintro e W22 ⟨rfl, hb⟩
          clear hcall
          have Z22 := Aside0.mk hb.size
          have h_ := Kd.R_below HO6_0.out hb
          clear HO6_0
          have HO6_0 := Aside0.mk h_
          clear h_
          have h_ := Kd.R_below HO6_1.out hb
          clear HO6_1
          have HO6_1 := Aside0.mk h_
          clear h_
          have h_ := Kd.S_below HO7_0.out hb
          clear HO7_0
          have HO7_0 := Aside0.mk h_
          clear h_
          have h_ := Kd.R_below HO9_0.out hb
          clear HO9_0
          have HO9_0 := Aside0.mk h_
          clear h_
          have h_ := Kd.R_below HO9_1.out hb
          clear HO9_1
          have HO9_1 := Aside0.mk h_
          clear h_
          have h_ := Kd.S_below HO12_0.out hb
          clear HO12_0
          have HO12_0 := Aside0.mk h_
          clear h_
          have h_ := Kd.R_below HO18_0.out hb
          clear HO18_0
          have HO18_0 := Aside0.mk h_
          clear h_
          have h_ := Kd.R_below HO18_1.out hb
          clear HO18_1
          have HO18_1 := Aside0.mk h_
          clear h_
          have h_ := Kd.S_below HO21_0.out hb
          clear HO21_0
          have HO21_0 := Aside0.mk h_
          clear h_
          have h_ := blk_below BK1.out hb
          clear BK1 c_BK1 z_BK1
          have BK1 := Aside0.mk h_
          have c_BK1 := blk_cell h_
          have z_BK1 := blk_frozen h_
          clear h_
          have h_ := blk_below BK10.out hb
          clear BK10 c_BK10 z_BK10
          have BK10 := Aside0.mk h_
          have c_BK10 := blk_cell h_
          have z_BK10 := blk_frozen h_
          clear h_
          have hB_ := below_step HB.out hb
          clear HB hb
          have HB := Aside0.mk hB_
          clear hB_
          have H := H'.out
          clear H'
          by_cases c23 : t276 = true
          · rw [if_pos c23] at H
            subst c23
            obtain rfl := Option.some.inj H
            clear H
            go_wp2
            go_ret
            exact ⟨rfl, HB.out⟩
          · rw [if_neg c23] at H
            replace c23 : t276 = false := by simpa using c23
            subst c23
            obtain rfl := Option.some.inj H
            clear H
            go_wp2
            go_ret
            exact ⟨rfl, HB.out⟩
        · rw [if_neg c20] at H
          replace c20 : t272 = false := by simpa using c20
          subst c20
          obtain rfl := Option.some.inj H
          clear H
          go_wp2
          go_ret
          exact ⟨rfl, HB.out⟩

section
open Go.Proofs.YtplfbjbbnjlnkaaO
def g57 (x : S57) : Prop := (x.f0.length ≤ maxLen ∧ ∀ y_ ∈ x.f0, (Lit.int .i64 y_).wf = true) ∧ (x.f1.length ≤ maxLen ∧ ∀ y_ ∈ x.f1, (Lit.int .i64 y_).wf = true) ∧ (Lit.int .i64 x.f2).wf = true
theorem opens57 (n : Nat) : Opens Try.prog 57 k57 g57 n :=
  opens_imp (opens_iso (fun x : S57 => (x.f0, x.f1, x.f2)) (fun x => (⟨x.1, x.2.1, x.2.2⟩ : S57)) (fun _ => rfl) (opens_struct Try.underlying57 (by kernel_rfl) fun m _ => (fields_cons rfl (by kernel_rfl) (opens_slice Try.underlying46 (by kernel_rfl) fun m _ => (opens_int Try.underlying3 m)) (fields_cons rfl (by kernel_rfl) (opens_slice Try.underlying46 (by kernel_rfl) fun m _ => (opens_int Try.underlying3 m)) (fields_one rfl (by kernel_rfl) (opens_int Try.underlying3 m)))))) (fun _ h => h)
def g143 (x : S143) : Prop := (Lit.int .i64 x.f0).wf = true ∧ (Lit.int .i64 x.f1).wf = true ∧ (Lit.int .i64 x.f2).wf = true ∧ (Lit.int .i64 x.f3).wf = true ∧ (x.f4.length ≤ maxLen ∧ ∀ y_ ∈ x.f4, (Lit.int .i64 y_).wf = true) ∧ True
theorem opens143 (n : Nat) : Opens Try.prog 143 k143 g143 n :=
  opens_imp (opens_iso (fun x : S143 => (x.f0, x.f1, x.f2, x.f3, x.f4, x.f5)) (fun x => (⟨x.1, x.2.1, x.2.2.1, x.2.2.2.1, x.2.2.2.2.1, x.2.2.2.2.2⟩ : S143)) (fun _ => rfl) (opens_struct Try.underlying143 (by kernel_rfl) fun m _ => (fields_cons rfl (by kernel_rfl) (opens_int Try.underlying3 m) (fields_cons rfl (by kernel_rfl) (opens_int Try.underlying3 m) (fields_cons rfl (by kernel_rfl) (opens_int Try.underlying3 m) (fields_cons rfl (by kernel_rfl) (opens_int Try.underlying3 m) (fields_cons rfl (by kernel_rfl) (opens_slice Try.underlying46 (by kernel_rfl) fun m _ => (opens_int Try.underlying3 m)) (fields_one rfl (by kernel_rfl) (opens_bool Try.underlying4 m))))))))) (fun _ h => h)
end
/-- What is left to show of laws_FnExactAreEmergencies: over numbers and lists alone. -/
def laws_FnExactAreEmergencies.Pure : Prop := ∀ (x0 : S57) (l1 : List (S143)), g57 x0 → l1.length ≤ maxLen → (∀ y_ ∈ l1, g143 y_) → ∃ k, laws_FnExactAreEmergencies.f k x0.f0 x0.f1 x0.f2 l1 = some true

end Go.Proofs.Ytplfbjbbnjlnkaa.QFnExactAreEmergencies
