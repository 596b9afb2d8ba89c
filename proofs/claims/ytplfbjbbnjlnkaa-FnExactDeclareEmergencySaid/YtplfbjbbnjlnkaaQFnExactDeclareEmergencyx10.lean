/- The machine side of FnExactDeclareEmergency: what each function that it reaches computes, and that the machine's call gives just that. -/
import Derived.Test.YtplfbjbbnjlnkaaQFnExactDeclareEmergencyx0
import Derived.Test.YtplfbjbbnjlnkaaQFnExactDeclareEmergencyx1
import Derived.Test.YtplfbjbbnjlnkaaQFnExactDeclareEmergencyx2
import Derived.Test.YtplfbjbbnjlnkaaQFnExactDeclareEmergencyx5
import Derived.Test.YtplfbjbbnjlnkaaQFnExactDeclareEmergencyx8
import Derived.Test.YtplfbjbbnjlnkaaQFnExactDeclareEmergencyx9
namespace Go.Proofs.Ytplfbjbbnjlnkaa.QFnExactDeclareEmergency
open Go.RowKit Go.Proofs.YtplfbjbbnjlnkaaW.PrintWords Go.Proofs.YtplfbjbbnjlnkaaW.PrintLast Go.Proofs.YtplfbjbbnjlnkaaW.PrintMore
attribute [local go_sem] max2_int min2_int max_two min_two max_three min_three max_four min_four   -- for this text's walks alone
set_option linter.unusedVariables false
set_option linter.unusedSimpArgs false

/-! ### laws_FnExactDeclareEmergency: function 11 -/
def laws_FnExactDeclareEmergency.f (k : Nat) (l0_0 : List Int) (l0_1 : List Int) (a0_2 : Int) (l1 : List (S143)) (a2 : Int) (a3 : Int) : Option (Bool) := (laws_szPlan.f l0_0 l0_1 a0_2 1048576).bind fun t315 => (if t315 < 0 then (some true) else ((laws_szEmergencyS.f k l1 t315).bind fun t316 => (if t316 < 0 then (some true) else ((laws_toPlan.f k l0_0 l0_1 a0_2).bind fun bt317 => ((laws_toEmergencyS.f k l1).bind fun t324 => ((spec_DeclareEmergency.f k bt317.1 bt317.2.1 bt317.2.2 t324 a2 a3).bind fun bt327 => ((laws_toPlan.f k l0_0 l0_1 a0_2).bind fun bt331 => ((laws_toEmergencyS.f k l1).bind fun t339 => ((impl_DeclareEmergency.f k bt331.1 bt331.2.1 bt331.2.2 t339 a2 a3).bind fun bt342 => ((laws_eqEmergencyS.f k bt342.1 bt327.1).bind fun t346 => (if t346 = true then (if (bt342.2 != bt327.2) = true then (some false) else ((laws_toPlan.f k l0_0 l0_1 a0_2).bind fun bt347 => ((laws_eqPlan.f k bt331.1 bt331.2.1 bt331.2.2 bt347.1 bt347.2.1 bt347.2.2).bind fun t354 => (if t354 = true then ((laws_toEmergencyS.f k l1).bind fun t355 => ((laws_eqEmergencyS.f k t339 t355).bind fun t358 => (if t358 = true then ((laws_markPlan.f k bt331.1 bt331.2.1 bt331.2.2 1).bind fun bt359 => ((laws_markEmergencyS.f k t339 bt359.1).bind fun bt362 => (if bt362.1 < 0 then (some false) else ((laws_eqEmergencyS.f k bt342.1 bt327.1).bind fun t364 => (if t364 = true then ((laws_markEmergencyS.f k bt342.1 1).bind fun bt365 => ((laws_heldEmergencyS.f k bt365.2 1).bind fun t367 => (if t367 < 0 then (some false) else (if t367 = bt365.1 then ((laws_toPlan.f k l0_0 l0_1 a0_2).bind fun bt368 => ((laws_toEmergencyS.f k l1).bind fun t375 => ((impl_DeclareEmergency.f k bt368.1 bt368.2.1 bt368.2.2 t375 a2 a3).bind fun bt378 => ((laws_eqEmergencyS.f k bt378.1 bt327.1).bind fun t382 => (if t382 = true then (if (bt378.2 != bt327.2) = true then (some false) else ((laws_heldEmergencyS.f k bt365.2 1).bind fun t383 => (if t383 < 0 then (some false) else (if t383 = bt365.1 then (some true) else (some false))))) else (some false)))))) else (some false))))) else (some false)))))) else (some false)))) else (some false))))) else (some false))))))))))))
set_option maxHeartbeats 8000000 in
set_option maxRecDepth 100000 in
theorem laws_FnExactDeclareEmergency.calls (k : Nat) (A0_0 : Option Addr) (c0_0 : Nat) (l0_0 : List Int) (A0_1 : Option Addr) (c0_1 : Nat) (l0_1 : List Int) (a0_2 : Int) (A1 : Option Addr) (c1 : Nat) (l1 : List (S143)) (a2 : Int) (a3 : Int) (r : Bool) (w : World) (hr0_0 : Kd.C (Kd.int .i64) w A0_0 l0_0.length l0_0) (hc0_0 : l0_0.length ≤ c0_0) (hr0_1 : Kd.C (Kd.int .i64) w A0_1 l0_1.length l0_1) (hc0_1 : l0_1.length ≤ c0_1) (hr1 : Kd.C k143 w A1 l1.length l1) (hc1 : l1.length ≤ c1) (h : laws_FnExactDeclareEmergency.f k l0_0 l0_1 a0_2 l1 a2 a3 = some r) :
    Calls Try.prog 11 #[.agg #[.slice A0_0 l0_0.length c0_0, .slice A0_1 l0_1.length c0_1, .int .i64 a0_2], .slice A1 l1.length c1, .int .i64 a2, .int .i64 a3] w fun e w' => e = .returned (.bool r) ∧ Below w.heap.size w w' := by
  have HR0_0 := Aside0.mk hr0_0
  have HC0_0 := Aside0.mk hc0_0
  clear hr0_0 hc0_0
  have HR0_1 := Aside0.mk hr0_1
  have HC0_1 := Aside0.mk hc0_1
  clear hr0_1 hc0_1
  have HR1 := Aside0.mk hr1
  have HC1 := Aside0.mk hc1
  clear hr1 hc1
  have HB := Aside0.mk (Below.refl w.heap.size w)
  have H := h
  clear h
  unfold laws_FnExactDeclareEmergency.f at H
  have hu57 := Try.underlying57
  have hu62 := Try.underlying62
  go_enter Try.func11, Try.ntmps11
  have H'' := Aside0.mk H
  clear H
  go_wp2_with (first | ((with_reducible refine gate_dst (N := 4) rfl ?_); refine box_event ?hg (N := 4) ?hd (cs := #[.slice A0_0 l0_0.length c0_0, .slice A0_1 l0_1.length c0_1, .int .i64 a0_2]) (t := 57) ?hr ?_; (case hd => rfl); (case hg => rfl); (case hr => first | (go_simp; done) | (go_simp; rfl)); intro gb1 hg W1 hbox hb; have Z1 := Aside0.mk hb.size; have E1 := Aside0.mk (And.intro hg (blk_lt hbox)); have BK1 := Aside0.mk hbox; have c_BK1 := blk_cell hbox; have z_BK1 := blk_frozen hbox; have hB_ := below_step HB.out hb; clear HB hb hbox hg; have HB := Aside0.mk hB_; clear hB_))
  have H := H''.out
  clear H''
  replace H := Option.bind_eq_some_iff.mp H
  obtain ⟨t315, hm, H⟩ := H
  try dsimp only at H
  have H' := Aside0.mk H
  clear H
  have hcall := laws_szPlan.calls _ _ l0_0 _ _ l0_1 a0_2 1048576 t315 W1 (Kd.C_below HR0_0.out HB.out) HC0_0.out (Kd.C_below HR0_1.out HB.out) HC0_1.out hm
  clear hm
  try go_wp2_with fail
  refine hcall.mono ?_
  rintro e W2 ⟨rfl, hb⟩
  clear hcall
  have Z2 := Aside0.mk hb.size
  have h_ := blk_below BK1.out hb
  clear BK1 c_BK1 z_BK1
  have BK1 := Aside0.mk h_
  have c_BK1 := blk_cell h_
  have z_BK1 := blk_frozen h_
  clear h_
  have hB_ := below_step HB.out hb
  clear HB hb
  have HB := Aside0.mk hB_
  clear hB_
  have H := H'.out
  clear H'
  by_cases c3 : t315 < 0
  · rw [if_pos c3] at H
    have c3_0 : decide (t315 < 0) = true := decide_eq_true c3
    clear c3
    obtain rfl := Option.some.inj H
    clear H
    go_wp2
    go_ret
    exact ⟨rfl, HB.out⟩
  · rw [if_neg c3] at H
    have c3_0 : decide (t315 < 0) = false := decide_eq_false c3
    clear c3
    replace H := Option.bind_eq_some_iff.mp H
    obtain ⟨t316, hm, H⟩ := H
    try dsimp only at H
    have H' := Aside0.mk H
    clear H
    have hcall := laws_szEmergencyS.calls k _ _ l1 t315 t316 W2 (Kd.C_below HR1.out HB.out) HC1.out hm
    clear hm
    go_wp2_with fail
    refine hcall.mono ?_
    rintro e W4 ⟨rfl, hb⟩
    clear hcall
    have Z4 := Aside0.mk hb.size
    have h_ := blk_below BK1.out hb
    clear BK1 c_BK1 z_BK1
    have BK1 := Aside0.mk h_
    have c_BK1 := blk_cell h_
    have z_BK1 := blk_frozen h_
    clear h_
    have hB_ := below_step HB.out hb
    clear HB hb
    have HB := Aside0.mk hB_
    clear hB_
    have H := H'.out
    clear H'
    by_cases c5 : t316 < 0
    · rw [if_pos c5] at H
      have c5_0 : decide (t316 < 0) = true := decide_eq_true c5
      clear c5
      obtain rfl := Option.some.inj H
      clear H
      go_wp2
      go_ret
      exact ⟨rfl, HB.out⟩
    · rw [if_neg c5] at H
      have c5_0 : decide (t316 < 0) = false := decide_eq_false c5
      clear c5
      replace H := Option.bind_eq_some_iff.mp H
      obtain ⟨⟨t317, t320, t323⟩, hm, H⟩ := H
      try dsimp only at H
      have H' := Aside0.mk H
      clear H
      have hcall := laws_toPlan.calls k _ _ l0_0 _ _ l0_1 a0_2 t317 t320 t323 W4 (Kd.C_below HR0_0.out HB.out) HC0_0.out (Kd.C_below HR0_1.out HB.out) HC0_1.out hm
      clear hm
      go_wp2_with fail
      refine hcall.mono ?_
      rintro e W6 ⟨v318, v321, rfl, ho0, ho1, hb⟩
      clear hcall
      have NE6_0_1 := Aside0.mk (fun k_ (h0_ : some k_ = (v318 : Value).ownBlock) (h1_ : some k_ = (v321 : Value).ownBlock) => (ho1.1 k_ h1_.symm) h0_)
      have Z6 := Aside0.mk hb.size
      obtain ⟨A6_0, n6_0, c6_0, rfl, hn_, hr_⟩ := Go.Proofs.YtplfbjbbnjlnkaaM.R_made ho0 HB.out.size
      clear hn_ ho0
      have HO6_0 := Aside0.mk hr_
      clear hr_
      obtain ⟨A6_1, n6_1, c6_1, rfl, hn_, hr_⟩ := Go.Proofs.YtplfbjbbnjlnkaaM.R_made ho1 HB.out.size
      clear hn_ ho1
      have HO6_1 := Aside0.mk hr_
      clear hr_
      have h_ := blk_below BK1.out hb
      clear BK1 c_BK1 z_BK1
      have BK1 := Aside0.mk h_
      have c_BK1 := blk_cell h_
      have z_BK1 := blk_frozen h_
      clear h_
      have hB_ := below_step HB.out hb
      clear HB hb
      have HB := Aside0.mk hB_
      clear hB_
      have H := H'.out
      clear H'
      replace H := Option.bind_eq_some_iff.mp H
      obtain ⟨t324, hm, H⟩ := H
      try dsimp only at H
      have H' := Aside0.mk H
      clear H
      have hcall := laws_toEmergencyS.calls k _ _ l1 t324 W6 (Kd.C_below HR1.out HB.out) HC1.out hm
      clear hm
      go_wp2_with fail
      refine hcall.mono ?_
      rintro e W7 ⟨v325, rfl, ho0, hb⟩
      clear hcall
      have Z7 := Aside0.mk hb.size
      have h_ := Kd.R_below HO6_0.out hb
      clear HO6_0
      have HO6_0 := Aside0.mk h_
      clear h_
      have h_ := Kd.R_below HO6_1.out hb
      clear HO6_1
      have HO6_1 := Aside0.mk h_
      clear h_
      obtain ⟨A7_0, n7_0, c7_0, rfl, hn_, hr_⟩ := Go.Proofs.YtplfbjbbnjlnkaaM.S_made ho0 HB.out.size
      clear hn_ ho0
      have HO7_0 := Aside0.mk hr_
      clear hr_
      have h_ := blk_below BK1.out hb
      clear BK1 c_BK1 z_BK1
      have BK1 := Aside0.mk h_
      have c_BK1 := blk_cell h_
      have z_BK1 := blk_frozen h_
      clear h_
      have hB_ := below_step HB.out hb
      clear HB hb
      have HB := Aside0.mk hB_
      clear hB_
      have H := H'.out
      clear H'
      replace H := Option.bind_eq_some_iff.mp H
      obtain ⟨⟨t327, t330⟩, hm, H⟩ := H
      try dsimp only at H
      have H' := Aside0.mk H
      clear H
      have hcall := spec_DeclareEmergency.calls k _ _ t317 _ _ t320 t323 _ _ t324 a2 a3 t327 t330 W7 (Go.Proofs.YtplfbjbbnjlnkaaM.R_C HO6_0.out) (Go.Proofs.YtplfbjbbnjlnkaaM.R_len HO6_0.out) (Go.Proofs.YtplfbjbbnjlnkaaM.R_C HO6_1.out) (Go.Proofs.YtplfbjbbnjlnkaaM.R_len HO6_1.out) (Go.Proofs.YtplfbjbbnjlnkaaM.S_C HO7_0.out) (Go.Proofs.YtplfbjbbnjlnkaaM.S_len HO7_0.out) hm
      rw [Go.Proofs.YtplfbjbbnjlnkaaM.R_n HO6_0.out, Go.Proofs.YtplfbjbbnjlnkaaM.R_n HO6_1.out, Go.Proofs.YtplfbjbbnjlnkaaM.S_n HO7_0.out] at hcall
      clear hm
      go_wp2_with fail
      refine hcall.mono ?_
      rintro e W8 ⟨v328, rfl, ho0, hb⟩
      clear hcall
      have Z8 := Aside0.mk hb.size
      have h_ := Kd.R_below HO6_0.out hb
      clear HO6_0
      have HO6_0 := Aside0.mk h_
      clear h_
      have h_ := Kd.R_below HO6_1.out hb
      clear HO6_1
      have HO6_1 := Aside0.mk h_
      clear h_
      have h_ := Kd.S_below HO7_0.out hb
      clear HO7_0
      have HO7_0 := Aside0.mk h_
      clear h_
      obtain ⟨A8_0, n8_0, c8_0, rfl, hn_, hr_⟩ := Go.Proofs.YtplfbjbbnjlnkaaM.S_made ho0 HB.out.size
      clear hn_ ho0
      have HO8_0 := Aside0.mk hr_
      clear hr_
      have h_ := blk_below BK1.out hb
      clear BK1 c_BK1 z_BK1
      have BK1 := Aside0.mk h_
      have c_BK1 := blk_cell h_
      have z_BK1 := blk_frozen h_
      clear h_
      have hB_ := below_step HB.out hb
      clear HB hb
      have HB := Aside0.mk hB_
      clear hB_
      have H := H'.out
      clear H'
      replace H := Option.bind_eq_some_iff.mp H
      obtain ⟨⟨t331, t334, t337⟩, hm, H⟩ := H
      try dsimp only at H
      have H' := Aside0.mk H
      clear H
      have hcall := laws_toPlan.calls k _ _ l0_0 _ _ l0_1 a0_2 t331 t334 t337 W8 (Kd.C_below HR0_0.out HB.out) HC0_0.out (Kd.C_below HR0_1.out HB.out) HC0_1.out hm
      clear hm
      go_wp2_with fail
      refine hcall.mono ?_
      rintro e W9 ⟨v332, v335, rfl, ho0, ho1, hb⟩
      clear hcall
      have NE9_0_1 := Aside0.mk (fun k_ (h0_ : some k_ = (v332 : Value).ownBlock) (h1_ : some k_ = (v335 : Value).ownBlock) => (ho1.1 k_ h1_.symm) h0_)
      have Z9 := Aside0.mk hb.size
      have h_ := Kd.R_below HO6_0.out hb
      clear HO6_0
      have HO6_0 := Aside0.mk h_
      clear h_
      have h_ := Kd.R_below HO6_1.out hb
      clear HO6_1
      have HO6_1 := Aside0.mk h_
      clear h_
      have h_ := Kd.S_below HO7_0.out hb
      clear HO7_0
      have HO7_0 := Aside0.mk h_
      clear h_
      have h_ := Kd.S_below HO8_0.out hb
      clear HO8_0
      have HO8_0 := Aside0.mk h_
      clear h_
      obtain ⟨A9_0, n9_0, c9_0, rfl, hn_, hr_⟩ := Go.Proofs.YtplfbjbbnjlnkaaM.R_made ho0 HB.out.size
      clear hn_ ho0
      have HO9_0 := Aside0.mk hr_
      clear hr_
      obtain ⟨A9_1, n9_1, c9_1, rfl, hn_, hr_⟩ := Go.Proofs.YtplfbjbbnjlnkaaM.R_made ho1 HB.out.size
      clear hn_ ho1
      have HO9_1 := Aside0.mk hr_
      clear hr_
      have h_ := blk_below BK1.out hb
      clear BK1 c_BK1 z_BK1
      have BK1 := Aside0.mk h_
      have c_BK1 := blk_cell h_
      have z_BK1 := blk_frozen h_
      clear h_
      have hB_ := below_step HB.out hb
      clear HB hb
      have HB := Aside0.mk hB_
      clear hB_
      have H := H'.out
      clear H'
      have H'' := Aside0.mk H
      clear H
      go_wp2_with (first | ((with_reducible refine gate_dst (N := 12) rfl ?_); refine box_event ?hg (N := 12) ?hd (cs := #[.slice none 0 0, .slice none 0 0, .int .i64 0]) (t := 62) ?hr ?_; (case hd => rfl); (case hg => rfl); (case hr => first | (go_simp; done) | (go_simp; rfl)); intro gb10 hg W10 hbox hb; have Z10 := Aside0.mk hb.size; have E10 := Aside0.mk (And.intro hg (blk_lt hbox)); have h_ := Kd.R_below HO6_0.out hb; clear HO6_0; have HO6_0 := Aside0.mk h_; clear h_; have h_ := Kd.R_below HO6_1.out hb; clear HO6_1; have HO6_1 := Aside0.mk h_; clear h_; have h_ := Kd.S_below HO7_0.out hb; clear HO7_0; have HO7_0 := Aside0.mk h_; clear h_; have h_ := Kd.S_below HO8_0.out hb; clear HO8_0; have HO8_0 := Aside0.mk h_; clear h_; have h_ := Kd.R_below HO9_0.out hb; clear HO9_0; have HO9_0 := Aside0.mk h_; clear h_; have h_ := Kd.R_below HO9_1.out hb; clear HO9_1; have HO9_1 := Aside0.mk h_; clear h_; have h_ := blk_below BK1.out hb; clear BK1 c_BK1 z_BK1; have BK1 := Aside0.mk h_; have c_BK1 := blk_cell h_; have z_BK1 := blk_frozen h_; clear h_; have BK10 := Aside0.mk hbox; have c_BK10 := blk_cell hbox; have z_BK10 := blk_frozen hbox; have hB_ := below_step HB.out hb; clear HB hb hbox hg; have HB := Aside0.mk hB_; clear hB_) | ((with_reducible refine gate_store (t := 62) (p := 12) rfl ?_); refine store_event (t := 62) (p := 12) (v := ?vo_s11) (w1 := (((W10.setCell ⟨gb10, 0, none⟩ (.slice A9_0 n9_0 c9_0)).setCell ⟨gb10, 1, none⟩ (.slice A9_1 n9_1 c9_1)).setCell ⟨gb10, 2, none⟩ (.int .i64 t337))) ?hg ?ho ?hn ?hr ?_; (case ho => rfl); (case hg => rfl); (case hn => rfl); (case hr => first | (go_simp; done) | (go_simp; rfl)); intro W11 hw; have hk_ : Kept W10 W11 (fun k_ => k_ = gb10) := (by rw [hw]; exact Kept.setCell (Kept.setCell (Kept.setCell (Kept.refl W10 (fun k_ => k_ = gb10)) (.inl rfl) _) (.inl rfl) _) (.inl rfl) _); have hge_ : w.heap.size ≤ gb10 := (by have := E10.out.1; have := HB.out.size; have := Z1.out; have := Z2.out; have := Z4.out; have := Z6.out; have := Z7.out; have := Z8.out; have := Z9.out; have := Z10.out; omega); have Z11 := Aside0.mk hk_.1; have h_ := Kd.R_step HO6_0.out (fun k_ h1_ h2_ => hk_.2 k_ h2_ (fun h3_ => by obtain ⟨_, _⟩ := h1_; have := E10.out; have := Z1.out; have := Z2.out; have := Z4.out; have := Z6.out; have := Z7.out; have := Z8.out; have := Z9.out; have := Z10.out; omega)); clear HO6_0; have HO6_0 := Aside0.mk h_; clear h_; have h_ := Kd.R_step HO6_1.out (fun k_ h1_ h2_ => hk_.2 k_ h2_ (fun h3_ => by obtain ⟨_, _⟩ := h1_; have := E10.out; have := Z1.out; have := Z2.out; have := Z4.out; have := Z6.out; have := Z7.out; have := Z8.out; have := Z9.out; have := Z10.out; omega)); clear HO6_1; have HO6_1 := Aside0.mk h_; clear h_; have h_ := Kd.S_step HO7_0.out (fun k_ h1_ h2_ => hk_.2 k_ h2_ (fun h3_ => by obtain ⟨_, _⟩ := h1_; have := E10.out; have := Z1.out; have := Z2.out; have := Z4.out; have := Z6.out; have := Z7.out; have := Z8.out; have := Z9.out; have := Z10.out; omega)); clear HO7_0; have HO7_0 := Aside0.mk h_; clear h_; have h_ := Kd.S_step HO8_0.out (fun k_ h1_ h2_ => hk_.2 k_ h2_ (fun h3_ => by obtain ⟨_, _⟩ := h1_; have := E10.out; have := Z1.out; have := Z2.out; have := Z4.out; have := Z6.out; have := Z7.out; have := Z8.out; have := Z9.out; have := Z10.out; omega)); clear HO8_0; have HO8_0 := Aside0.mk h_; clear h_; have h_ := Kd.R_step HO9_0.out (fun k_ h1_ h2_ => hk_.2 k_ h2_ (fun h3_ => by obtain ⟨_, _⟩ := h1_; have := E10.out; have := Z1.out; have := Z2.out; have := Z4.out; have := Z6.out; have := Z7.out; have := Z8.out; have := Z9.out; have := Z10.out; omega)); clear HO9_0; have HO9_0 := Aside0.mk h_; clear h_; have h_ := Kd.R_step HO9_1.out (fun k_ h1_ h2_ => hk_.2 k_ h2_ (fun h3_ => by obtain ⟨_, _⟩ := h1_; have := E10.out; have := Z1.out; have := Z2.out; have := Z4.out; have := Z6.out; have := Z7.out; have := Z8.out; have := Z9.out; have := Z10.out; omega)); clear HO9_1; have HO9_1 := Aside0.mk h_; clear h_; have h_ := blk_kept BK1.out hk_ (fun hp_ => by have := E1.out; have := E10.out; have := Z1.out; have := Z2.out; have := Z4.out; have := Z6.out; have := Z7.out; have := Z8.out; have := Z9.out; have := Z10.out; omega); clear BK1 c_BK1 z_BK1; have BK1 := Aside0.mk h_; have c_BK1 := blk_cell h_; have z_BK1 := blk_frozen h_; clear h_; have h_ := blk_set (blk_set (blk_set (BK10.out) 0 (.slice A9_0 n9_0 c9_0)) 1 (.slice A9_1 n9_1 c9_1)) 2 (.int .i64 t337); rw [← hw] at h_; simp only [List.setIfInBounds_toArray, List.set_cons_zero, List.set_cons_succ] at h_; clear BK10 c_BK10 z_BK10; have BK10 := Aside0.mk h_; have c_BK10 := blk_cell h_; have z_BK10 := blk_frozen h_; clear h_; have hB_ : Below w.heap.size w W11 := (by rw [hw]; exact below_set (below_set (below_set (HB.out) hge_) hge_) hge_); clear HB hw hk_ hge_; have HB := Aside0.mk hB_; clear hB_))
      have H := H''.out
      clear H''
      replace H := Option.bind_eq_some_iff.mp H
      obtain ⟨t339, hm, H⟩ := H
      try dsimp only at H
      have H' := Aside0.mk H
      clear H
      have hcall := laws_toEmergencyS.calls k _ _ l1 t339 W11 (Kd.C_below HR1.out HB.out) HC1.out hm
      clear hm
      try go_wp2_with fail
      refine hcall.mono ?_
      rintro e W12 ⟨v340, rfl, ho0, hb⟩
      clear hcall
      have Z12 := Aside0.mk hb.size
      have h_ := Kd.R_below HO6_0.out hb
      clear HO6_0
      have HO6_0 := Aside0.mk h_
      clear h_
      have h_ := Kd.R_below HO6_1.out hb
      clear HO6_1
      have HO6_1 := Aside0.mk h_
      clear h_
      have h_ := Kd.S_below HO7_0.out hb
      clear HO7_0
      have HO7_0 := Aside0.mk h_
      clear h_
      have h_ := Kd.S_below HO8_0.out hb
      clear HO8_0
      have HO8_0 := Aside0.mk h_
      clear h_
      have h_ := Kd.R_below HO9_0.out hb
      clear HO9_0
      have HO9_0 := Aside0.mk h_
      clear h_
      have h_ := Kd.R_below HO9_1.out hb
      clear HO9_1
      have HO9_1 := Aside0.mk h_
      clear h_
      obtain ⟨A12_0, n12_0, c12_0, rfl, hn_, hr_⟩ := Go.Proofs.YtplfbjbbnjlnkaaM.S_made ho0 HB.out.size
      clear hn_ ho0
      have HO12_0 := Aside0.mk hr_
      clear hr_
      have h_ := blk_below BK1.out hb
      clear BK1 c_BK1 z_BK1
      have BK1 := Aside0.mk h_
      have c_BK1 := blk_cell h_
      have z_BK1 := blk_frozen h_
      clear h_
      have h_ := blk_below BK10.out hb
      clear BK10 c_BK10 z_BK10
      have BK10 := Aside0.mk h_
      have c_BK10 := blk_cell h_
      have z_BK10 := blk_frozen h_
      clear h_
      have hB_ := below_step HB.out hb
      clear HB hb
      have HB := Aside0.mk hB_
      clear hB_
      have H := H'.out
      clear H'
      replace H := Option.bind_eq_some_iff.mp H
      obtain ⟨⟨t342, t345⟩, hm, H⟩ := H
      try dsimp only at H
      have H' := Aside0.mk H
      clear H
      have hcall := impl_DeclareEmergency.calls k _ _ t331 _ _ t334 t337 _ _ t339 a2 a3 t342 t345 W12 (Go.Proofs.YtplfbjbbnjlnkaaM.R_C HO9_0.out) (Go.Proofs.YtplfbjbbnjlnkaaM.R_len HO9_0.out) (Go.Proofs.YtplfbjbbnjlnkaaM.R_C HO9_1.out) (Go.Proofs.YtplfbjbbnjlnkaaM.R_len HO9_1.out) (Go.Proofs.YtplfbjbbnjlnkaaM.S_C HO12_0.out) (Go.Proofs.YtplfbjbbnjlnkaaM.S_len HO12_0.out) hm
      rw [Go.Proofs.YtplfbjbbnjlnkaaM.R_n HO9_0.out, Go.Proofs.YtplfbjbbnjlnkaaM.R_n HO9_1.out, Go.Proofs.YtplfbjbbnjlnkaaM.S_n HO12_0.out] at hcall
      clear hm
      go_wp2_with fail
      refine hcall.mono ?_
      rintro e W13 ⟨v343, rfl, ho0, hb⟩
      clear hcall
      have Z13 := Aside0.mk hb.size
      have h_ := Kd.R_below HO6_0.out hb
      clear HO6_0
      have HO6_0 := Aside0.mk h_
      clear h_
      have h_ := Kd.R_below HO6_1.out hb
      clear HO6_1
      have HO6_1 := Aside0.mk h_
      clear h_
      have h_ := Kd.S_below HO7_0.out hb
      clear HO7_0
      have HO7_0 := Aside0.mk h_
      clear h_
      have h_ := Kd.S_below HO8_0.out hb
      clear HO8_0
      have HO8_0 := Aside0.mk h_
      clear h_
      have h_ := Kd.R_below HO9_0.out hb
      clear HO9_0
      have HO9_0 := Aside0.mk h_
      clear h_
      have h_ := Kd.R_below HO9_1.out hb
      clear HO9_1
      have HO9_1 := Aside0.mk h_
      clear h_
      have h_ := Kd.S_below HO12_0.out hb
      clear HO12_0
      have HO12_0 := Aside0.mk h_
      clear h_
      obtain ⟨A13_0, n13_0, c13_0, rfl, hn_, hr_⟩ := Go.Proofs.YtplfbjbbnjlnkaaM.S_made ho0 HB.out.size
      clear hn_ ho0
      have HO13_0 := Aside0.mk hr_
      clear hr_
      have h_ := blk_below BK1.out hb
      clear BK1 c_BK1 z_BK1
      have BK1 := Aside0.mk h_
      have c_BK1 := blk_cell h_
      have z_BK1 := blk_frozen h_
      clear h_
      have h_ := blk_below BK10.out hb
      clear BK10 c_BK10 z_BK10
      have BK10 := Aside0.mk h_
      have c_BK10 := blk_cell h_
      have z_BK10 := blk_frozen h_
      clear h_
      have hB_ := below_step HB.out hb
      clear HB hb
      have HB := Aside0.mk hB_
      clear hB_
      have H := H'.out
      clear H'
      replace H := Option.bind_eq_some_iff.mp H
      obtain ⟨t346, hm, H⟩ := H
      try dsimp only at H
      have H' := Aside0.mk H
      clear H
      have hcall := laws_eqEmergencyS.calls k _ _ t342 _ _ t327 t346 W13 (Go.Proofs.YtplfbjbbnjlnkaaM.S_C HO13_0.out) (Go.Proofs.YtplfbjbbnjlnkaaM.S_len HO13_0.out) (Go.Proofs.YtplfbjbbnjlnkaaM.S_C HO8_0.out) (Go.Proofs.YtplfbjbbnjlnkaaM.S_len HO8_0.out) hm
      rw [Go.Proofs.YtplfbjbbnjlnkaaM.S_n HO13_0.out, Go.Proofs.YtplfbjbbnjlnkaaM.S_n HO8_0.out] at hcall
      clear hm
      go_wp2_with fail
      refine hcall.mono ?_
      rintro e W14 ⟨rfl, hb⟩
      clear hcall
      have Z14 := Aside0.mk hb.size
      have h_ := Kd.R_below HO6_0.out hb
      clear HO6_0
      have HO6_0 := Aside0.mk h_
      clear h_
      have h_ := Kd.R_below HO6_1.out hb
      clear HO6_1
      have HO6_1 := Aside0.mk h_
      clear h_
      have h_ := Kd.S_below HO7_0.out hb
      clear HO7_0
      have HO7_0 := Aside0.mk h_
      clear h_
      have h_ := Kd.S_below HO8_0.out hb
      clear HO8_0
      have HO8_0 := Aside0.mk h_
      clear h_
      have h_ := Kd.R_below HO9_0.out hb
      clear HO9_0
      have HO9_0 := Aside0.mk h_
      clear h_
      have h_ := Kd.R_below HO9_1.out hb
      clear HO9_1
      have HO9_1 := Aside0.mk h_
      clear h_
      have h_ := Kd.S_below HO12_0.out hb
      clear HO12_0
      have HO12_0 := Aside0.mk h_
      clear h_
      have h_ := Kd.S_below HO13_0.out hb
      clear HO13_0
      have HO13_0 := Aside0.mk h_
      clear h_
      have h_ := blk_below BK1.out hb
      clear BK1 c_BK1 z_BK1
      have BK1 := Aside0.mk h_
      have c_BK1 := blk_cell h_
      have z_BK1 := blk_frozen h_
      clear h_
      have h_ := blk_below BK10.out hb
      clear BK10 c_BK10 z_BK10
      have BK10 := Aside0.mk h_
      have c_BK10 := blk_cell h_
      have z_BK10 := blk_frozen h_
      clear h_
      have hB_ := below_step HB.out hb
      clear HB hb
      have HB := Aside0.mk hB_
      clear hB_
      have H := H'.out
      clear H'
      by_cases c15 : t346 = true
      · rw [if_pos c15] at H
        subst c15
        by_cases c16 : (t345 != t330) = true
        · rw [if_pos c16] at H
          have c16_1 : (t345 != t330) = true := by revert c16; cases t345 <;> cases t330 <;> decide
          have c16_2 : (!t345 == t330) = true := by revert c16; cases t345 <;> cases t330 <;> decide
          clear c16
          obtain rfl := Option.some.inj H
          clear H
          go_wp2
          go_ret
          exact ⟨rfl, HB.out⟩
        · rw [if_neg c16] at H
          have c16_1 : (t345 != t330) = false := by revert c16; cases t345 <;> cases t330 <;> decide
          have c16_2 : (!t345 == t330) = false := by revert c16; cases t345 <;> cases t330 <;> decide
          clear c16
          replace H := Option.bind_eq_some_iff.mp H
          obtain ⟨⟨t347, t350, t353⟩, hm, H⟩ := H
          try dsimp only at H
          have HM17 := Aside0.mk hm
          clear hm
          replace H := Option.bind_eq_some_iff.mp H
          obtain ⟨t354, hm, H⟩ := H
          try dsimp only at H
          have HM18 := Aside0.mk hm
          clear hm
          have H' := Aside0.mk H
          clear H
          try go_wp2
          have h_ := Kd.R_drew HO6_0.out
          clear HO6_0
          have HO6_0 := Aside0.mk h_
          clear h_
          have h_ := Kd.R_drew HO6_1.out
          clear HO6_1
          have HO6_1 := Aside0.mk h_
          clear h_
          have h_ := Kd.S_drew HO7_0.out
          clear HO7_0
          have HO7_0 := Aside0.mk h_
          clear h_
          have h_ := Kd.S_drew HO8_0.out
          clear HO8_0
          have HO8_0 := Aside0.mk h_
          clear h_
          have h_ := Kd.R_drew HO9_0.out
          clear HO9_0
          have HO9_0 := Aside0.mk h_
          clear h_
          have h_ := Kd.R_drew HO9_1.out
          clear HO9_1
          have HO9_1 := Aside0.mk h_
          clear h_
          have h_ := Kd.S_drew HO12_0.out
          clear HO12_0
          have HO12_0 := Aside0.mk h_
          clear h_
          have h_ := Kd.S_drew HO13_0.out
          clear HO13_0
          have HO13_0 := Aside0.mk h_
          clear h_
          have h_ := blk_drew BK1.out
          clear BK1 c_BK1 z_BK1
          have BK1 := Aside0.mk h_
          clear h_
          have h_ := blk_drew BK10.out
          clear BK10 c_BK10 z_BK10
          have BK10 := Aside0.mk h_
          clear h_
          have hB_ := below_drew1 HB.out
          clear HB
          have HB := Aside0.mk hB_
          clear hB_
          have Z19 : Aside0 (W14.heap.size ≤ W14.drew.heap.size) := ⟨Nat.le_refl _⟩
          refine start_ (n := 5) (S := fun w' => w'.cell? ⟨gb1, 0, none⟩ = some (.slice A0_0 l0_0.length c0_0) ∧ w'.cell? ⟨gb1, 1, none⟩ = some (.slice A0_1 l0_1.length c0_1) ∧ w'.cell? ⟨gb1, 2, none⟩ = some (.int .i64 a0_2) ∧ w'.cell? ⟨gb10, 0, none⟩ = some (.slice A9_0 n9_0 c9_0) ∧ w'.cell? ⟨gb10, 1, none⟩ = some (.slice A9_1 n9_1 c9_1) ∧ w'.cell? ⟨gb10, 2, none⟩ = some (.int .i64 t337)) (ds := []) #[false, false, false, false, false] (by kernel_rfl) rfl rfl ⟨(blk_cell BK1.out 0).trans rfl, (blk_cell BK1.out 1).trans rfl, (blk_cell BK1.out 2).trans rfl, (blk_cell BK10.out 0).trans rfl, (blk_cell BK10.out 1).trans rfl, (blk_cell BK10.out 2).trans rfl⟩ (fun hHeld => ?_)
          generalize W14.drew = W19 at Z19 HB BK1 BK10 HO6_0 HO6_1 HO7_0 HO8_0 HO9_0 HO9_1 HO12_0 HO13_0 hHeld ⊢
          have c_BK1 := blk_cell BK1.out
          have z_BK1 := blk_frozen BK1.out
          have c_BK10 := blk_cell BK10.out
          have z_BK10 := blk_frozen BK10.out
          refine take_ (i := 0) (N := some 62) (v := ?_) (a' := ?_) #[true, false, false, false, false] rfl rfl (by kernel_rfl) (fun _ _ _ h => h) (Or.inl ⟨by rfl, ?_⟩) hHeld ?_ ?_
          rotate_left
          · rintro w' ⟨s0, s1, s2, s3, s4, s5⟩
            go_simp
            with_reducible rfl
          rotate_left
          · simp only [Act.put, List.setIfInBounds_toArray, List.set_cons_zero, List.set_cons_succ, i64_w, i32_w]
            rfl
          refine take_ (i := 1) (N := some 63) (v := ?_) (a' := ?_) #[true, true, false, false, false] rfl rfl (by kernel_rfl) (fun _ _ _ h => h) (Or.inl ⟨by rfl, ?_⟩) hHeld ?_ ?_
          rotate_left
          · rintro w' ⟨s0, s1, s2, s3, s4, s5⟩
            go_simp
            with_reducible rfl
          rotate_left
          · simp only [Act.put, List.setIfInBounds_toArray, List.set_cons_zero, List.set_cons_succ, i64_w, i32_w]
            rfl
          refine one_ (i := 2) (N := some 64) #[true, true, true, false, false] rfl rfl (by kernel_rfl) (by decide) (fun K hK => ?_)
          have hcall := laws_toPlan.calls k _ _ l0_0 _ _ l0_1 a0_2 t347 t350 t353 W19 (Kd.C_below HR0_0.out HB.out) HC0_0.out (Kd.C_below HR0_1.out HB.out) HC0_1.out HM17.out
          refine goes_ Try.func42 (by kernel_rfl) rfl #[.agg #[.slice A0_0 l0_0.length c0_0, .slice A0_1 l0_1.length c0_1, .int .i64 a0_2]] (by rfl) rfl rfl (by (try simp only [List.map_toArray, List.map_cons, List.map_nil]); first | done | rfl) ?_
          refine hcall.mono ?_
          rintro e W20 ⟨v348, v351, rfl, ho0, ho1, hb⟩
          refine ⟨_, rfl, ?_⟩
          clear hcall
          have Z20 := Aside0.mk hb.size
          have h_ := Kd.R_below HO6_0.out hb
          clear HO6_0
          have HO6_0 := Aside0.mk h_
          clear h_
          have h_ := Kd.R_below HO6_1.out hb
          clear HO6_1
          have HO6_1 := Aside0.mk h_
          clear h_
          have h_ := Kd.S_below HO7_0.out hb
          clear HO7_0
          have HO7_0 := Aside0.mk h_
          clear h_
          have h_ := Kd.S_below HO8_0.out hb
          clear HO8_0
          have HO8_0 := Aside0.mk h_
          clear h_
          have h_ := Kd.R_below HO9_0.out hb
          clear HO9_0
          have HO9_0 := Aside0.mk h_
          clear h_
          have h_ := Kd.R_below HO9_1.out hb
          clear HO9_1
          have HO9_1 := Aside0.mk h_
          clear h_
          have h_ := Kd.S_below HO12_0.out hb
          clear HO12_0
          have HO12_0 := Aside0.mk h_
          clear h_
          have h_ := Kd.S_below HO13_0.out hb
          clear HO13_0
          have HO13_0 := Aside0.mk h_
          clear h_
          obtain ⟨A20_0, n20_0, c20_0, rfl, hn_, hr_⟩ := Go.Proofs.YtplfbjbbnjlnkaaM.R_made ho0 HB.out.size
          clear hn_ ho0
          have HO20_0 := Aside0.mk hr_
          clear hr_
          obtain ⟨A20_1, n20_1, c20_1, rfl, hn_, hr_⟩ := Go.Proofs.YtplfbjbbnjlnkaaM.R_made ho1 HB.out.size
          clear hn_ ho1
          have HO20_1 := Aside0.mk hr_
          clear hr_
          have h_ := blk_below BK1.out hb
          clear BK1 c_BK1 z_BK1
          have BK1 := Aside0.mk h_
          have c_BK1 := blk_cell h_
          have z_BK1 := blk_frozen h_
          clear h_
          have h_ := blk_below BK10.out hb
          clear BK10 c_BK10 z_BK10
          have BK10 := Aside0.mk h_
          have c_BK10 := blk_cell h_
          have z_BK10 := blk_frozen h_
          clear h_
          have hB_ := below_step HB.out hb
          clear HB hb
          have HB := Aside0.mk hB_
          clear hB_
          refine hK.out _ _ ⟨(blk_cell BK1.out 0).trans rfl, (blk_cell BK1.out 1).trans rfl, (blk_cell BK1.out 2).trans rfl, (blk_cell BK10.out 0).trans rfl, (blk_cell BK10.out 1).trans rfl, (blk_cell BK10.out 2).trans rfl⟩ (fun hHeld => ?_)
          clear hK K
          refine norm_ (a' := ?_) ?_ ?_
          rotate_left
          · show Act.put _ (some 64) _ = _
            simp only [Act.put, List.setIfInBounds_toArray, List.set_cons_zero, List.set_cons_succ, i64_w, i32_w]
            rfl
          refine one_ (i := 3) (N := some 65) #[true, true, true, true, false] rfl rfl (by kernel_rfl) (by decide) (fun K hK => ?_)
          have hcall := laws_eqPlan.calls k _ _ t331 _ _ t334 t337 _ _ t347 _ _ t350 t353 t354 W20 (Go.Proofs.YtplfbjbbnjlnkaaM.R_C HO9_0.out) (Go.Proofs.YtplfbjbbnjlnkaaM.R_len HO9_0.out) (Go.Proofs.YtplfbjbbnjlnkaaM.R_C HO9_1.out) (Go.Proofs.YtplfbjbbnjlnkaaM.R_len HO9_1.out) (Go.Proofs.YtplfbjbbnjlnkaaM.R_C HO20_0.out) (Go.Proofs.YtplfbjbbnjlnkaaM.R_len HO20_0.out) (Go.Proofs.YtplfbjbbnjlnkaaM.R_C HO20_1.out) (Go.Proofs.YtplfbjbbnjlnkaaM.R_len HO20_1.out) HM18.out
          rw [Go.Proofs.YtplfbjbbnjlnkaaM.R_n HO9_0.out, Go.Proofs.YtplfbjbbnjlnkaaM.R_n HO9_1.out, Go.Proofs.YtplfbjbbnjlnkaaM.R_n HO20_0.out, Go.Proofs.YtplfbjbbnjlnkaaM.R_n HO20_1.out] at hcall
          refine goes_ Try.func45 (by kernel_rfl) rfl #[.agg #[.slice A9_0 n9_0 c9_0, .slice A9_1 n9_1 c9_1, .int .i64 t337], .agg #[.slice A20_0 n20_0 c20_0, .slice A20_1 n20_1 c20_1, .int .i64 t353]] (by rfl) rfl rfl (by (try simp only [List.map_toArray, List.map_cons, List.map_nil]); first | done | rfl) ?_
          refine hcall.mono ?_
          rintro e W21 ⟨rfl, hb⟩
          refine ⟨_, rfl, ?_⟩
          clear hcall
          have Z21 := Aside0.mk hb.size
          have h_ := Kd.R_below HO6_0.out hb
          clear HO6_0
          have HO6_0 := Aside0.mk h_
          clear h_
          have h_ := Kd.R_below HO6_1.out hb
          clear HO6_1
          have HO6_1 := Aside0.mk h_
          clear h_
          have h_ := Kd.S_below HO7_0.out hb
          clear HO7_0
          have HO7_0 := Aside0.mk h_
          clear h_
          have h_ := Kd.S_below HO8_0.out hb
          clear HO8_0
          have HO8_0 := Aside0.mk h_
          clear h_
          have h_ := Kd.R_below HO9_0.out hb
          clear HO9_0
          have HO9_0 := Aside0.mk h_
          clear h_
          have h_ := Kd.R_below HO9_1.out hb
          clear HO9_1
          have HO9_1 := Aside0.mk h_
          clear h_
          have h_ := Kd.S_below HO12_0.out hb
          clear HO12_0
          have HO12_0 := Aside0.mk h_
          clear h_
          have h_ := Kd.S_below HO13_0.out hb
          clear HO13_0
          have HO13_0 := Aside0.mk h_
          clear h_
          have h_ := Kd.R_below HO20_0.out hb
          clear HO20_0
          have HO20_0 := Aside0.mk h_
          clear h_
          have h_ := Kd.R_below HO20_1.out hb
          clear HO20_1
          have HO20_1 := Aside0.mk h_
          clear h_
          have h_ := blk_below BK1.out hb
          clear BK1 c_BK1 z_BK1
          have BK1 := Aside0.mk h_
          have c_BK1 := blk_cell h_
          have z_BK1 := blk_frozen h_
          clear h_
          have h_ := blk_below BK10.out hb
          clear BK10 c_BK10 z_BK10
          have BK10 := Aside0.mk h_
          have c_BK10 := blk_cell h_
          have z_BK10 := blk_frozen h_
          clear h_
          have hB_ := below_step HB.out hb
          clear HB hb
          have HB := Aside0.mk hB_
          clear hB_
          refine hK.out _ _ ⟨(blk_cell BK1.out 0).trans rfl, (blk_cell BK1.out 1).trans rfl, (blk_cell BK1.out 2).trans rfl, (blk_cell BK10.out 0).trans rfl, (blk_cell BK10.out 1).trans rfl, (blk_cell BK10.out 2).trans rfl⟩ (fun hHeld => ?_)
          clear hK K
          refine norm_ (a' := ?_) ?_ ?_
          rotate_left
          · show Act.put _ (some 65) _ = _
            simp only [Act.put, List.setIfInBounds_toArray, List.set_cons_zero, List.set_cons_succ, i64_w, i32_w]
            rfl
          refine pure_ (i := 4) (N := some 66) (v := ?_) (a' := ?_) #[true, true, true, true, true] rfl rfl (by kernel_rfl) (fun _ _ _ h => h) (Or.inl ⟨by rfl, ?_⟩) ?_ ?_
          rotate_left
          · intro w'
            go_simp
            with_reducible rfl
          rotate_left
          · simp only [Act.put, List.setIfInBounds_toArray, List.set_cons_zero, List.set_cons_succ, i64_w, i32_w]
            rfl
          refine done_ (by kernel_rfl) ?_
          clear hHeld
          have H := H'.out
          clear H'
          by_cases c22 : t354 = true
          · rw [if_pos c22] at H
            subst c22
            replace H := Option.bind_eq_some_iff.mp H
            obtain ⟨t355, hm, H⟩ := H
            try dsimp only at H
            have H' := Aside0.mk H
            clear H
            have hcall := laws_toEmergencyS.calls k _ _ l1 t355 W21 (Kd.C_below HR1.out HB.out) HC1.out hm
            clear hm
            go_wp2_with fail
            refine hcall.mono ?_
            rintro e W23 ⟨v356, rfl, ho0, hb⟩
            clear hcall
            have Z23 := Aside0.mk hb.size
            have h_ := Kd.R_below HO6_0.out hb
            clear HO6_0
            have HO6_0 := Aside0.mk h_
            clear h_
            have h_ := Kd.R_below HO6_1.out hb
            clear HO6_1
            have HO6_1 := Aside0.mk h_
            clear h_
            have h_ := Kd.S_below HO7_0.out hb
            clear HO7_0
            have HO7_0 := Aside0.mk h_
            clear h_
            have h_ := Kd.S_below HO8_0.out hb
            clear HO8_0
            have HO8_0 := Aside0.mk h_
            clear h_
            have h_ := Kd.R_below HO9_0.out hb
            clear HO9_0
            have HO9_0 := Aside0.mk h_
            clear h_
            have h_ := Kd.R_below HO9_1.out hb
            clear HO9_1
            have HO9_1 := Aside0.mk h_
            clear h_
            have h_ := Kd.S_below HO12_0.out hb
            clear HO12_0
            have HO12_0 := Aside0.mk h_
            clear h_
            have h_ := Kd.S_below HO13_0.out hb
            clear HO13_0
            have HO13_0 := Aside0.mk h_
            clear h_
            have h_ := Kd.R_below HO20_0.out hb
            clear HO20_0
            have HO20_0 := Aside0.mk h_
            clear h_
            have h_ := Kd.R_below HO20_1.out hb
            clear HO20_1
            have HO20_1 := Aside0.mk h_
            clear h_
            obtain ⟨A23_0, n23_0, c23_0, rfl, hn_, hr_⟩ := Go.Proofs.YtplfbjbbnjlnkaaM.S_made ho0 HB.out.size
            clear hn_ ho0
            have HO23_0 := Aside0.mk hr_
            clear hr_
            have h_ := blk_below BK1.out hb
            clear BK1 c_BK1 z_BK1
            have BK1 := Aside0.mk h_
            have c_BK1 := blk_cell h_
            have z_BK1 := blk_frozen h_
            clear h_
            have h_ := blk_below BK10.out hb
            clear BK10 c_BK10 z_BK10
            have BK10 := Aside0.mk h_
            have c_BK10 := blk_cell h_
            have z_BK10 := blk_frozen h_
            clear h_
            have hB_ := below_step HB.out hb
            clear HB hb
            have HB := Aside0.mk hB_
            clear hB_
            have H := H'.out
            clear H'
            replace H := Option.bind_eq_some_iff.mp H
            obtain ⟨t358, hm, H⟩ := H
            try dsimp only at H
            have H' := Aside0.mk H
            clear H
            have hcall := laws_eqEmergencyS.calls k _ _ t339 _ _ t355 t358 W23 (Go.Proofs.YtplfbjbbnjlnkaaM.S_C HO12_0.out) (Go.Proofs.YtplfbjbbnjlnkaaM.S_len HO12_0.out) (Go.Proofs.YtplfbjbbnjlnkaaM.S_C HO23_0.out) (Go.Proofs.YtplfbjbbnjlnkaaM.S_len HO23_0.out) hm
            rw [Go.Proofs.YtplfbjbbnjlnkaaM.S_n HO12_0.out, Go.Proofs.YtplfbjbbnjlnkaaM.S_n HO23_0.out] at hcall
            clear hm
            go_wp2_with fail
            refine hcall.mono ?_
            rintro e W24 ⟨rfl, hb⟩
            clear hcall
            have Z24 := Aside0.mk hb.size
            have h_ := Kd.R_below HO6_0.out hb
            clear HO6_0
            have HO6_0 := Aside0.mk h_
            clear h_
            have h_ := Kd.R_below HO6_1.out hb
            clear HO6_1
            have HO6_1 := Aside0.mk h_
            clear h_
            have h_ := Kd.S_below HO7_0.out hb
            clear HO7_0
            have HO7_0 := Aside0.mk h_
            clear h_
            have h_ := Kd.S_below HO8_0.out hb
            clear HO8_0
            have HO8_0 := Aside0.mk h_
            clear h_
            have h_ := Kd.R_below HO9_0.out hb
            clear HO9_0
            have HO9_0 := Aside0.mk h_
            clear h_
            have h_ := Kd.R_below HO9_1.out hb
            clear HO9_1
            have HO9_1 := Aside0.mk h_
            clear h_
            have h_ := Kd.S_below HO12_0.out hb
            clear HO12_0
            have HO12_0 := Aside0.mk h_
            clear h_
            have h_ := Kd.S_below HO13_0.out hb
            clear HO13_0
            have HO13_0 := Aside0.mk h_
            clear h_
            have h_ := Kd.R_below HO20_0.out hb
            clear HO20_0
            have HO20_0 := Aside0.mk h_
            clear h_
            have h_ := Kd.R_below HO20_1.out hb
            clear HO20_1
            have HO20_1 := Aside0.mk h_
            clear h_
            have h_ := Kd.S_below HO23_0.out hb
            clear HO23_0
            have HO23_0 := Aside0.mk h_
            clear h_
            have h_ := blk_below BK1.out hb
            clear BK1 c_BK1 z_BK1
            have BK1 := Aside0.mk h_
            have c_BK1 := blk_cell h_
            have z_BK1 := blk_frozen h_
            clear h_
            have h_ := blk_below BK10.out hb
            clear BK10 c_BK10 z_BK10
            have BK10 := Aside0.mk h_
            have c_BK10 := blk_cell h_
            have z_BK10 := blk_frozen h_
            clear h_
            have hB_ := below_step HB.out hb
            clear HB hb
            have HB := Aside0.mk hB_
            clear hB_
            have H := H'.out
            clear H'
            by_cases c25 : t358 = true
            · rw [if_pos c25] at H
              subst c25
              replace H := Option.bind_eq_some_iff.mp H
              obtain ⟨⟨t359, t360, t361⟩, hm, H⟩ := H
              try dsimp only at H
              have H' := Aside0.mk H
              clear H
              have hcall := laws_markPlan.calls k (fun k_ => some k_ = (.slice A9_0 n9_0 c9_0 : Value).ownBlock) (.slice A9_0 n9_0 c9_0) t331 (fun k_ => some k_ = (.slice A9_1 n9_1 c9_1 : Value).ownBlock) (.slice A9_1 n9_1 c9_1) t334 t337 1 t359 t360 t361 w W24 HB.out (Kd.R_tight rfl HO9_0.out) (fun k_ a_ b_ => NE9_0_1.out k_ a_ b_) (Kd.R_tight rfl HO9_1.out) (fun k_ a_ b_ => NE9_0_1.out k_ b_ a_) hm
              clear hm
              go_wp2_with fail
              refine hcall.mono ?_
              rintro e W26 ⟨rfl, ho0, ho1, hb, hkp0⟩
              clear hcall
              clear HB
              have HB := Aside0.mk hb
              have hkp := Kept.mono hkp0 (S' := (fun k_ => W8.heap.size ≤ k_ ∧ k_ < W9.heap.size)) (fun _ h_ => by rcases h_ with h_ | h_ <;> first | exact HO9_0.out.1 _ h_.symm | exact HO9_1.out.1 _ h_.symm)
              clear hkp0
              have Z26 := Aside0.mk hkp.1
              have h_ := Go.Proofs.YtplfbjbbnjlnkaaM.R_else HO6_0.out hkp (by have := Z1.out; have := Z2.out; have := Z4.out; have := Z6.out; have := Z7.out; have := Z8.out; have := Z9.out; have := Z10.out; have := Z11.out; have := Z12.out; have := Z13.out; have := Z14.out; have := Z19.out; have := Z20.out; have := Z21.out; have := Z23.out; have := Z24.out; omega)
              clear HO6_0
              have HO6_0 := Aside0.mk h_
              clear h_
              have h_ := Go.Proofs.YtplfbjbbnjlnkaaM.R_else HO6_1.out hkp (by have := Z1.out; have := Z2.out; have := Z4.out; have := Z6.out; have := Z7.out; have := Z8.out; have := Z9.out; have := Z10.out; have := Z11.out; have := Z12.out; have := Z13.out; have := Z14.out; have := Z19.out; have := Z20.out; have := Z21.out; have := Z23.out; have := Z24.out; omega)
              clear HO6_1
              have HO6_1 := Aside0.mk h_
              clear h_
              have h_ := Go.Proofs.YtplfbjbbnjlnkaaM.S_else HO7_0.out hkp (by have := Z1.out; have := Z2.out; have := Z4.out; have := Z6.out; have := Z7.out; have := Z8.out; have := Z9.out; have := Z10.out; have := Z11.out; have := Z12.out; have := Z13.out; have := Z14.out; have := Z19.out; have := Z20.out; have := Z21.out; have := Z23.out; have := Z24.out; omega)
              clear HO7_0
              have HO7_0 := Aside0.mk h_
              clear h_
              have h_ := Go.Proofs.YtplfbjbbnjlnkaaM.S_else HO8_0.out hkp (by have := Z1.out; have := Z2.out; have := Z4.out; have := Z6.out; have := Z7.out; have := Z8.out; have := Z9.out; have := Z10.out; have := Z11.out; have := Z12.out; have := Z13.out; have := Z14.out; have := Z19.out; have := Z20.out; have := Z21.out; have := Z23.out; have := Z24.out; omega)
              clear HO8_0
              have HO8_0 := Aside0.mk h_
              clear h_
              have HO26_0 := Aside0.mk (Kd.R_reok rfl ho0 (fun k_ e_ => HO9_0.out.1 k_ e_))
              clear ho0 HO9_0
              have HO26_1 := Aside0.mk (Kd.R_reok rfl ho1 (fun k_ e_ => HO9_1.out.1 k_ e_))
              clear ho1 HO9_1
              have h_ := Go.Proofs.YtplfbjbbnjlnkaaM.S_else HO12_0.out hkp (by have := Z1.out; have := Z2.out; have := Z4.out; have := Z6.out; have := Z7.out; have := Z8.out; have := Z9.out; have := Z10.out; have := Z11.out; have := Z12.out; have := Z13.out; have := Z14.out; have := Z19.out; have := Z20.out; have := Z21.out; have := Z23.out; have := Z24.out; omega)
              clear HO12_0
              have HO12_0 := Aside0.mk h_
              clear h_
              have h_ := Go.Proofs.YtplfbjbbnjlnkaaM.S_else HO13_0.out hkp (by have := Z1.out; have := Z2.out; have := Z4.out; have := Z6.out; have := Z7.out; have := Z8.out; have := Z9.out; have := Z10.out; have := Z11.out; have := Z12.out; have := Z13.out; have := Z14.out; have := Z19.out; have := Z20.out; have := Z21.out; have := Z23.out; have := Z24.out; omega)
              clear HO13_0
              have HO13_0 := Aside0.mk h_
              clear h_
              have h_ := Go.Proofs.YtplfbjbbnjlnkaaM.R_else HO20_0.out hkp (by have := Z1.out; have := Z2.out; have := Z4.out; have := Z6.out; have := Z7.out; have := Z8.out; have := Z9.out; have := Z10.out; have := Z11.out; have := Z12.out; have := Z13.out; have := Z14.out; have := Z19.out; have := Z20.out; have := Z21.out; have := Z23.out; have := Z24.out; omega)
              clear HO20_0
              have HO20_0 := Aside0.mk h_
              clear h_
              have h_ := Go.Proofs.YtplfbjbbnjlnkaaM.R_else HO20_1.out hkp (by have := Z1.out; have := Z2.out; have := Z4.out; have := Z6.out; have := Z7.out; have := Z8.out; have := Z9.out; have := Z10.out; have := Z11.out; have := Z12.out; have := Z13.out; have := Z14.out; have := Z19.out; have := Z20.out; have := Z21.out; have := Z23.out; have := Z24.out; omega)
              clear HO20_1
              have HO20_1 := Aside0.mk h_
              clear h_
              have h_ := Go.Proofs.YtplfbjbbnjlnkaaM.S_else HO23_0.out hkp (by have := Z1.out; have := Z2.out; have := Z4.out; have := Z6.out; have := Z7.out; have := Z8.out; have := Z9.out; have := Z10.out; have := Z11.out; have := Z12.out; have := Z13.out; have := Z14.out; have := Z19.out; have := Z20.out; have := Z21.out; have := Z23.out; have := Z24.out; omega)
              clear HO23_0
              have HO23_0 := Aside0.mk h_
              clear h_
              have h_ := blk_kept BK1.out hkp (fun hp_ => by have := E1.out; have := Z1.out; have := Z2.out; have := Z4.out; have := Z6.out; have := Z7.out; have := Z8.out; have := Z9.out; have := Z10.out; have := Z11.out; have := Z12.out; have := Z13.out; have := Z14.out; have := Z19.out; have := Z20.out; have := Z21.out; have := Z23.out; have := Z24.out; have := Z26.out; obtain ⟨_, _⟩ := hp_; omega)
              clear BK1 c_BK1 z_BK1
              have BK1 := Aside0.mk h_
              have c_BK1 := blk_cell h_
              have z_BK1 := blk_frozen h_
              clear h_
              have h_ := blk_kept BK10.out hkp (fun hp_ => by have := E10.out; have := Z1.out; have := Z2.out; have := Z4.out; have := Z6.out; have := Z7.out; have := Z8.out; have := Z9.out; have := Z10.out; have := Z11.out; have := Z12.out; have := Z13.out; have := Z14.out; have := Z19.out; have := Z20.out; have := Z21.out; have := Z23.out; have := Z24.out; have := Z26.out; obtain ⟨_, _⟩ := hp_; omega)
              clear BK10 c_BK10 z_BK10
              have BK10 := Aside0.mk h_
              have c_BK10 := blk_cell h_
              have z_BK10 := blk_frozen h_
              clear h_
              clear hkp hb
              have H := H'.out
              clear H'
              replace H := Option.bind_eq_some_iff.mp H
              obtain ⟨⟨t362, t363⟩, hm, H⟩ := H
              try dsimp only at H
              have H' := Aside0.mk H
              clear H
              have hcall := laws_markEmergencyS.calls k (fun k_ => W11.heap.size ≤ k_ ∧ k_ < W12.heap.size) A12_0 n12_0 c12_0 t339 t359 t362 t363 w W26 HB.out HO12_0.out hm
              clear hm
              go_wp2_with fail
              refine hcall.mono ?_
              rintro e W27 ⟨rfl, ho, hb, hkp⟩
              clear hcall
              clear HB
              have HB := Aside0.mk hb
              have Z27 := Aside0.mk hkp.1
              have HO27 := Aside0.mk (ho)
              clear ho HO12_0
              have h_ := Go.Proofs.YtplfbjbbnjlnkaaM.R_else HO6_0.out hkp (by have := Z1.out; have := Z2.out; have := Z4.out; have := Z6.out; have := Z7.out; have := Z8.out; have := Z9.out; have := Z10.out; have := Z11.out; have := Z12.out; have := Z13.out; have := Z14.out; have := Z19.out; have := Z20.out; have := Z21.out; have := Z23.out; have := Z24.out; have := Z26.out; omega)
              clear HO6_0
              have HO6_0 := Aside0.mk h_
              clear h_
              have h_ := Go.Proofs.YtplfbjbbnjlnkaaM.R_else HO6_1.out hkp (by have := Z1.out; have := Z2.out; have := Z4.out; have := Z6.out; have := Z7.out; have := Z8.out; have := Z9.out; have := Z10.out; have := Z11.out; have := Z12.out; have := Z13.out; have := Z14.out; have := Z19.out; have := Z20.out; have := Z21.out; have := Z23.out; have := Z24.out; have := Z26.out; omega)
              clear HO6_1
              have HO6_1 := Aside0.mk h_
              clear h_
              have h_ := Go.Proofs.YtplfbjbbnjlnkaaM.S_else HO7_0.out hkp (by have := Z1.out; have := Z2.out; have := Z4.out; have := Z6.out; have := Z7.out; have := Z8.out; have := Z9.out; have := Z10.out; have := Z11.out; have := Z12.out; have := Z13.out; have := Z14.out; have := Z19.out; have := Z20.out; have := Z21.out; have := Z23.out; have := Z24.out; have := Z26.out; omega)
              clear HO7_0
              have HO7_0 := Aside0.mk h_
              clear h_
              have h_ := Go.Proofs.YtplfbjbbnjlnkaaM.S_else HO8_0.out hkp (by have := Z1.out; have := Z2.out; have := Z4.out; have := Z6.out; have := Z7.out; have := Z8.out; have := Z9.out; have := Z10.out; have := Z11.out; have := Z12.out; have := Z13.out; have := Z14.out; have := Z19.out; have := Z20.out; have := Z21.out; have := Z23.out; have := Z24.out; have := Z26.out; omega)
              clear HO8_0
              have HO8_0 := Aside0.mk h_
              clear h_
              have h_ := Go.Proofs.YtplfbjbbnjlnkaaM.R_else HO26_0.out hkp (by have := Z1.out; have := Z2.out; have := Z4.out; have := Z6.out; have := Z7.out; have := Z8.out; have := Z9.out; have := Z10.out; have := Z11.out; have := Z12.out; have := Z13.out; have := Z14.out; have := Z19.out; have := Z20.out; have := Z21.out; have := Z23.out; have := Z24.out; have := Z26.out; omega)
              clear HO26_0
              have HO26_0 := Aside0.mk h_
              clear h_
              have h_ := Go.Proofs.YtplfbjbbnjlnkaaM.R_else HO26_1.out hkp (by have := Z1.out; have := Z2.out; have := Z4.out; have := Z6.out; have := Z7.out; have := Z8.out; have := Z9.out; have := Z10.out; have := Z11.out; have := Z12.out; have := Z13.out; have := Z14.out; have := Z19.out; have := Z20.out; have := Z21.out; have := Z23.out; have := Z24.out; have := Z26.out; omega)
              clear HO26_1
              have HO26_1 := Aside0.mk h_
              clear h_
              have h_ := Go.Proofs.YtplfbjbbnjlnkaaM.S_else HO13_0.out hkp (by have := Z1.out; have := Z2.out; have := Z4.out; have := Z6.out; have := Z7.out; have := Z8.out; have := Z9.out; have := Z10.out; have := Z11.out; have := Z12.out; have := Z13.out; have := Z14.out; have := Z19.out; have := Z20.out; have := Z21.out; have := Z23.out; have := Z24.out; have := Z26.out; omega)
              clear HO13_0
              have HO13_0 := Aside0.mk h_
              clear h_
              have h_ := Go.Proofs.YtplfbjbbnjlnkaaM.R_else HO20_0.out hkp (by have := Z1.out; have := Z2.out; have := Z4.out; have := Z6.out; have := Z7.out; have := Z8.out; have := Z9.out; have := Z10.out; have := Z11.out; have := Z12.out; have := Z13.out; have := Z14.out; have := Z19.out; have := Z20.out; have := Z21.out; have := Z23.out; have := Z24.out; have := Z26.out; omega)
              clear HO20_0
              have HO20_0 := Aside0.mk h_
              clear h_
              have h_ := Go.Proofs.YtplfbjbbnjlnkaaM.R_else HO20_1.out hkp (by have := Z1.out; have := Z2.out; have := Z4.out; have := Z6.out; have := Z7.out; have := Z8.out; have := Z9.out; have := Z10.out; have := Z11.out; have := Z12.out; have := Z13.out; have := Z14.out; have := Z19.out; have := Z20.out; have := Z21.out; have := Z23.out; have := Z24.out; have := Z26.out; omega)
              clear HO20_1
              have HO20_1 := Aside0.mk h_
              clear h_
              have h_ := Go.Proofs.YtplfbjbbnjlnkaaM.S_else HO23_0.out hkp (by have := Z1.out; have := Z2.out; have := Z4.out; have := Z6.out; have := Z7.out; have := Z8.out; have := Z9.out; have := Z10.out; have := Z11.out; have := Z12.out; have := Z13.out; have := Z14.out; have := Z19.out; have := Z20.out; have := Z21.out; have := Z23.out; have := Z24.out; have := Z26.out; omega)
              clear HO23_0
              have HO23_0 := Aside0.mk h_
              clear h_
              have h_ := blk_kept BK1.out hkp (fun hp_ => by have := E1.out; have := Z1.out; have := Z2.out; have := Z4.out; have := Z6.out; have := Z7.out; have := Z8.out; have := Z9.out; have := Z10.out; have := Z11.out; have := Z12.out; have := Z13.out; have := Z14.out; have := Z19.out; have := Z20.out; have := Z21.out; have := Z23.out; have := Z24.out; have := Z26.out; have := Z27.out; obtain ⟨_, _⟩ := hp_; omega)
              clear BK1 c_BK1 z_BK1
              have BK1 := Aside0.mk h_
              have c_BK1 := blk_cell h_
              have z_BK1 := blk_frozen h_
              clear h_
              have h_ := blk_kept BK10.out hkp (fun hp_ => by have := E10.out; have := Z1.out; have := Z2.out; have := Z4.out; have := Z6.out; have := Z7.out; have := Z8.out; have := Z9.out; have := Z10.out; have := Z11.out; have := Z12.out; have := Z13.out; have := Z14.out; have := Z19.out; have := Z20.out; have := Z21.out; have := Z23.out; have := Z24.out; have := Z26.out; have := Z27.out; obtain ⟨_, _⟩ := hp_; omega)
              clear BK10 c_BK10 z_BK10
              have BK10 := Aside0.mk h_
              have c_BK10 := blk_cell h_
              have z_BK10 := blk_frozen h_
              clear h_
              clear hkp hb
              have H := H'.out
              clear H'
              by_cases c28 : t362 < 0
              · rw [if_pos c28] at H
                have c28_0 : decide (t362 < 0) = true := decide_eq_true c28
                clear c28
                obtain rfl := Option.some.inj H
                clear H
                go_wp2
                go_ret
                exact ⟨rfl, HB.out⟩
              · rw [if_neg c28] at H
                have c28_0 : decide (t362 < 0) = false := decide_eq_false c28
                clear c28
                replace H := Option.bind_eq_some_iff.mp H
                obtain ⟨t364, hm, H⟩ := H
                try dsimp only at H
                have H' := Aside0.mk H
                clear H
                have hcall := laws_eqEmergencyS.calls k _ _ t342 _ _ t327 t364 W27 (Go.Proofs.YtplfbjbbnjlnkaaM.S_C HO13_0.out) (Go.Proofs.YtplfbjbbnjlnkaaM.S_len HO13_0.out) (Go.Proofs.YtplfbjbbnjlnkaaM.S_C HO8_0.out) (Go.Proofs.YtplfbjbbnjlnkaaM.S_len HO8_0.out) hm
                rw [Go.Proofs.YtplfbjbbnjlnkaaM.S_n HO13_0.out, Go.Proofs.YtplfbjbbnjlnkaaM.S_n HO8_0.out] at hcall
                clear hm
                go_wp2_with fail
                refine hcall.mono ?_
                rintro e W29 ⟨rfl, hb⟩
                clear hcall
                have Z29 := Aside0.mk hb.size
                have h_ := Kd.R_below HO6_0.out hb
                clear HO6_0
                have HO6_0 := Aside0.mk h_
                clear h_
                have h_ := Kd.R_below HO6_1.out hb
                clear HO6_1
                have HO6_1 := Aside0.mk h_
                clear h_
                have h_ := Kd.S_below HO7_0.out hb
                clear HO7_0
                have HO7_0 := Aside0.mk h_
                clear h_
                have h_ := Kd.S_below HO8_0.out hb
                clear HO8_0
                have HO8_0 := Aside0.mk h_
                clear h_
                have h_ := Kd.R_below HO26_0.out hb
                clear HO26_0
                have HO26_0 := Aside0.mk h_
                clear h_
                have h_ := Kd.R_below HO26_1.out hb
                clear HO26_1
                have HO26_1 := Aside0.mk h_
                clear h_
                have h_ := Kd.S_below HO27.out hb
                clear HO27
                have HO27 := Aside0.mk h_
                clear h_
                have h_ := Kd.S_below HO13_0.out hb
                clear HO13_0
                have HO13_0 := Aside0.mk h_
                clear h_
                have h_ := Kd.R_below HO20_0.out hb
                clear HO20_0
                have HO20_0 := Aside0.mk h_
                clear h_
                have h_ := Kd.R_below HO20_1.out hb
                clear HO20_1
                have HO20_1 := Aside0.mk h_
                clear h_
                have h_ := Kd.S_below HO23_0.out hb
                clear HO23_0
                have HO23_0 := Aside0.mk h_
                clear h_
                have h_ := blk_below BK1.out hb
                clear BK1 c_BK1 z_BK1
                have BK1 := Aside0.mk h_
                have c_BK1 := blk_cell h_
                have z_BK1 := blk_frozen h_
                clear h_
                have h_ := blk_below BK10.out hb
                clear BK10 c_BK10 z_BK10
                have BK10 := Aside0.mk h_
                have c_BK10 := blk_cell h_
                have z_BK10 := blk_frozen h_
                clear h_
                have hB_ := below_step HB.out hb
                clear HB hb
                have HB := Aside0.mk hB_
                clear hB_
                have H := H'.out
                clear H'
                by_cases c30 : t364 = true
                · rw [if_pos c30] at H
                  subst c30
                  replace H := Option.bind_eq_some_iff.mp H
                  obtain ⟨⟨t365, t366⟩, hm, H⟩ := H
                  try dsimp only at H
                  have H' := Aside0.mk H
                  clear H
                  have hcall := laws_markEmergencyS.calls k (fun k_ => W12.heap.size ≤ k_ ∧ k_ < W13.heap.size) A13_0 n13_0 c13_0 t342 1 t365 t366 w W29 HB.out HO13_0.out hm
                  clear hm
                  go_wp2_with fail
                  refine hcall.mono ?_
                  rintro e W31 ⟨rfl, ho, hb, hkp⟩
                  clear hcall
                  clear HB
                  have HB := Aside0.mk hb
                  have Z31 := Aside0.mk hkp.1
                  have HO31 := Aside0.mk (ho)
                  clear ho HO13_0
                  have h_ := Go.Proofs.YtplfbjbbnjlnkaaM.R_else HO6_0.out hkp (by have := Z1.out; have := Z2.out; have := Z4.out; have := Z6.out; have := Z7.out; have := Z8.out; have := Z9.out; have := Z10.out; have := Z11.out; have := Z12.out; have := Z13.out; have := Z14.out; have := Z19.out; have := Z20.out; have := Z21.out; have := Z23.out; have := Z24.out; have := Z26.out; have := Z27.out; have := Z29.out; omega)
                  clear HO6_0
                  have HO6_0 := Aside0.mk h_
                  clear h_
                  have h_ := Go.Proofs.YtplfbjbbnjlnkaaM.R_else HO6_1.out hkp (by have := Z1.out; have := Z2.out; have := Z4.out; have := Z6.out; have := Z7.out; have := Z8.out; have := Z9.out; have := Z10.out; have := Z11.out; have := Z12.out; have := Z13.out; have := Z14.out; have := Z19.out; have := Z20.out; have := Z21.out; have := Z23.out; have := Z24.out; have := Z26.out; have := Z27.out; have := Z29.out; omega)
                  clear HO6_1
                  have HO6_1 := Aside0.mk h_
                  clear h_
                  have h_ := Go.Proofs.YtplfbjbbnjlnkaaM.S_else HO7_0.out hkp (by have := Z1.out; have := Z2.out; have := Z4.out; have := Z6.out; have := Z7.out; have := Z8.out; have := Z9.out; have := Z10.out; have := Z11.out; have := Z12.out; have := Z13.out; have := Z14.out; have := Z19.out; have := Z20.out; have := Z21.out; have := Z23.out; have := Z24.out; have := Z26.out; have := Z27.out; have := Z29.out; omega)
                  clear HO7_0
                  have HO7_0 := Aside0.mk h_
                  clear h_
                  have h_ := Go.Proofs.YtplfbjbbnjlnkaaM.S_else HO8_0.out hkp (by have := Z1.out; have := Z2.out; have := Z4.out; have := Z6.out; have := Z7.out; have := Z8.out; have := Z9.out; have := Z10.out; have := Z11.out; have := Z12.out; have := Z13.out; have := Z14.out; have := Z19.out; have := Z20.out; have := Z21.out; have := Z23.out; have := Z24.out; have := Z26.out; have := Z27.out; have := Z29.out; omega)
                  clear HO8_0
                  have HO8_0 := Aside0.mk h_
                  clear h_
                  have h_ := Go.Proofs.YtplfbjbbnjlnkaaM.R_else HO26_0.out hkp (by have := Z1.out; have := Z2.out; have := Z4.out; have := Z6.out; have := Z7.out; have := Z8.out; have := Z9.out; have := Z10.out; have := Z11.out; have := Z12.out; have := Z13.out; have := Z14.out; have := Z19.out; have := Z20.out; have := Z21.out; have := Z23.out; have := Z24.out; have := Z26.out; have := Z27.out; have := Z29.out; omega)
                  clear HO26_0
                  have HO26_0 := Aside0.mk h_
                  clear h_
                  have h_ := Go.Proofs.YtplfbjbbnjlnkaaM.R_else HO26_1.out hkp (by have := Z1.out; have := Z2.out; have := Z4.out; have := Z6.out; have := Z7.out; have := Z8.out; have := Z9.out; have := Z10.out; have := Z11.out; have := Z12.out; have := Z13.out; have := Z14.out; have := Z19.out; have := Z20.out; have := Z21.out; have := Z23.out; have := Z24.out; have := Z26.out; have := Z27.out; have := Z29.out; omega)
                  clear HO26_1
                  have HO26_1 := Aside0.mk h_
                  clear h_
                  have h_ := Go.Proofs.YtplfbjbbnjlnkaaM.S_else HO27.out hkp (by have := Z1.out; have := Z2.out; have := Z4.out; have := Z6.out; have := Z7.out; have := Z8.out; have := Z9.out; have := Z10.out; have := Z11.out; have := Z12.out; have := Z13.out; have := Z14.out; have := Z19.out; have := Z20.out; have := Z21.out; have := Z23.out; have := Z24.out; have := Z26.out; have := Z27.out; have := Z29.out; omega)
                  clear HO27
                  have HO27 := Aside0.mk h_
                  clear h_
                  have h_ := Go.Proofs.YtplfbjbbnjlnkaaM.R_else HO20_0.out hkp (by have := Z1.out; have := Z2.out; have := Z4.out; have := Z6.out; have := Z7.out; have := Z8.out; have := Z9.out; have := Z10.out; have := Z11.out; have := Z12.out; have := Z13.out; have := Z14.out; have := Z19.out; have := Z20.out; have := Z21.out; have := Z23.out; have := Z24.out; have := Z26.out; have := Z27.out; have := Z29.out; omega)
                  clear HO20_0
                  have HO20_0 := Aside0.mk h_
                  clear h_
                  have h_ := Go.Proofs.YtplfbjbbnjlnkaaM.R_else HO20_1.out hkp (by have := Z1.out; have := Z2.out; have := Z4.out; have := Z6.out; have := Z7.out; have := Z8.out; have := Z9.out; have := Z10.out; have := Z11.out; have := Z12.out; have := Z13.out; have := Z14.out; have := Z19.out; have := Z20.out; have := Z21.out; have := Z23.out; have := Z24.out; have := Z26.out; have := Z27.out; have := Z29.out; omega)
                  clear HO20_1
                  have HO20_1 := Aside0.mk h_
                  clear h_
                  have h_ := Go.Proofs.YtplfbjbbnjlnkaaM.S_else HO23_0.out hkp (by have := Z1.out; have := Z2.out; have := Z4.out; have := Z6.out; have := Z7.out; have := Z8.out; have := Z9.out; have := Z10.out; have := Z11.out; have := Z12.out; have := Z13.out; have := Z14.out; have := Z19.out; have := Z20.out; have := Z21.out; have := Z23.out; have := Z24.out; have := Z26.out; have := Z27.out; have := Z29.out; omega)
                  clear HO23_0
                  have HO23_0 := Aside0.mk h_
                  clear h_
                  have h_ := blk_kept BK1.out hkp (fun hp_ => by have := E1.out; have := Z1.out; have := Z2.out; have := Z4.out; have := Z6.out; have := Z7.out; have := Z8.out; have := Z9.out; have := Z10.out; have := Z11.out; have := Z12.out; have := Z13.out; have := Z14.out; have := Z19.out; have := Z20.out; have := Z21.out; have := Z23.out; have := Z24.out; have := Z26.out; have := Z27.out; have := Z29.out; have := Z31.out; obtain ⟨_, _⟩ := hp_; omega)
                  clear BK1 c_BK1 z_BK1
                  have BK1 := Aside0.mk h_
                  have c_BK1 := blk_cell h_
                  have z_BK1 := blk_frozen h_
                  clear h_
                  have h_ := blk_kept BK10.out hkp (fun hp_ => by have := E10.out; have := Z1.out; have := Z2.out; have := Z4.out; have := Z6.out; have := Z7.out; have := Z8.out; have := Z9.out; have := Z10.out; have := Z11.out; have := Z12.out; have := Z13.out; have := Z14.out; have := Z19.out; have := Z20.out; have := Z21.out; have := Z23.out; have := Z24.out; have := Z26.out; have := Z27.out; have := Z29.out; have := Z31.out; obtain ⟨_, _⟩ := hp_; omega)
                  clear BK10 c_BK10 z_BK10
                  have BK10 := Aside0.mk h_
                  have c_BK10 := blk_cell h_
                  have z_BK10 := blk_frozen h_
                  clear h_
                  clear hkp hb
                  have H := H'.out
                  clear H'
                  replace H := Option.bind_eq_some_iff.mp H
                  obtain ⟨t367, hm, H⟩ := H
                  try dsimp only at H
                  have H' := Aside0.mk H
                  clear H
                  have hcall := laws_heldEmergencyS.calls k _ _ t366 1 t367 W31 (Go.Proofs.YtplfbjbbnjlnkaaM.S_C HO31.out) (Go.Proofs.YtplfbjbbnjlnkaaM.S_len HO31.out) hm
                  rw [Go.Proofs.YtplfbjbbnjlnkaaM.S_n HO31.out] at hcall
                  clear hm
                  go_wp2_with fail
                  refine hcall.mono ?_
                  rintro e W32 ⟨rfl, hd⟩
                  clear hcall
                  have hb : Below W31.heap.size W31 W32 := hd.below
                  clear hd
                  have Z32 := Aside0.mk hb.size
                  have h_ := Kd.R_below HO6_0.out hb
                  clear HO6_0
                  have HO6_0 := Aside0.mk h_
                  clear h_
                  have h_ := Kd.R_below HO6_1.out hb
                  clear HO6_1
                  have HO6_1 := Aside0.mk h_
                  clear h_
                  have h_ := Kd.S_below HO7_0.out hb
                  clear HO7_0
                  have HO7_0 := Aside0.mk h_
                  clear h_
                  have h_ := Kd.S_below HO8_0.out hb
                  clear HO8_0
                  have HO8_0 := Aside0.mk h_
                  clear h_
                  have h_ := Kd.R_below HO26_0.out hb
                  clear HO26_0
                  have HO26_0 := Aside0.mk h_
                  clear h_
                  have h_ := Kd.R_below HO26_1.out hb
                  clear HO26_1
                  have HO26_1 := Aside0.mk h_
                  clear h_
                  have h_ := Kd.S_below HO27.out hb
                  clear HO27
                  have HO27 := Aside0.mk h_
                  clear h_
                  have h_ := Kd.S_below HO31.out hb
                  clear HO31
                  have HO31 := Aside0.mk h_
                  clear h_
                  have h_ := Kd.R_below HO20_0.out hb
                  clear HO20_0
                  have HO20_0 := Aside0.mk h_
                  clear h_
                  have h_ := Kd.R_below HO20_1.out hb
                  clear HO20_1
                  have HO20_1 := Aside0.mk h_
                  clear h_
                  have h_ := Kd.S_below HO23_0.out hb
                  clear HO23_0
                  have HO23_0 := Aside0.mk h_
                  clear h_
                  have h_ := blk_below BK1.out hb
                  clear BK1 c_BK1 z_BK1
                  have BK1 := Aside0.mk h_
                  have c_BK1 := blk_cell h_
                  have z_BK1 := blk_frozen h_
                  clear h_
                  have h_ := blk_below BK10.out hb
                  clear BK10 c_BK10 z_BK10
                  have BK10 := Aside0.mk h_
                  have c_BK10 := blk_cell h_
                  have z_BK10 := blk_frozen h_
                  clear h_
                  have hB_ := below_step HB.out hb
                  clear HB hb
                  have HB := Aside0.mk hB_
                  clear hB_
                  have H := H'.out
                  clear H'
                  by_cases c33 : t367 < 0
                  · rw [if_pos c33] at H
                    have c33_0 : decide (t367 < 0) = true := decide_eq_true c33
                    clear c33
                    obtain rfl := Option.some.inj H
                    clear H
                    go_wp2
                    go_ret
                    exact ⟨rfl, HB.out⟩
                  · rw [if_neg c33] at H
                    have c33_0 : decide (t367 < 0) = false := decide_eq_false c33
                    clear c33
                    by_cases c34 : t367 = t365
                    · rw [if_pos c34] at H
                      have c34_1 : (t367 == t365) = true := beq_iff_eq.mpr c34
                      have c34_2 : (t367 != t365) = false := bne_eq_false_iff_eq.mpr c34
                      have c34_0 : decide (t367 = t365) = true := decide_eq_true c34
                      clear c34
                      replace H := Option.bind_eq_some_iff.mp H
                      obtain ⟨⟨t368, t371, t374⟩, hm, H⟩ := H
                      try dsimp only at H
                      have H' := Aside0.mk H
                      clear H
                      have hcall := laws_toPlan.calls k _ _ l0_0 _ _ l0_1 a0_2 t368 t371 t374 W32 (Kd.C_below HR0_0.out HB.out) HC0_0.out (Kd.C_below HR0_1.out HB.out) HC0_1.out hm
                      clear hm
                      go_wp2_with fail
                      refine hcall.mono ?_
                      rintro e W35 ⟨v369, v372, rfl, ho0, ho1, hb⟩
                      clear hcall
                      have NE35_0_1 := Aside0.mk (fun k_ (h0_ : some k_ = (v369 : Value).ownBlock) (h1_ : some k_ = (v372 : Value).ownBlock) => (ho1.1 k_ h1_.symm) h0_)
                      have Z35 := Aside0.mk hb.size
                      have h_ := Kd.R_below HO6_0.out hb
                      clear HO6_0
                      have HO6_0 := Aside0.mk h_
                      clear h_
                      have h_ := Kd.R_below HO6_1.out hb
                      clear HO6_1
                      have HO6_1 := Aside0.mk h_
                      clear h_
                      have h_ := Kd.S_below HO7_0.out hb
                      clear HO7_0
                      have HO7_0 := Aside0.mk h_
                      clear h_
                      have h_ := Kd.S_below HO8_0.out hb
                      clear HO8_0
                      have HO8_0 := Aside0.mk h_
                      clear h_
                      have h_ := Kd.R_below HO26_0.out hb
                      clear HO26_0
                      have HO26_0 := Aside0.mk h_
                      clear h_
                      have h_ := Kd.R_below HO26_1.out hb
                      clear HO26_1
                      have HO26_1 := Aside0.mk h_
                      clear h_
                      have h_ := Kd.S_below HO27.out hb
                      clear HO27
                      have HO27 := Aside0.mk h_
                      clear h_
                      have h_ := Kd.S_below HO31.out hb
                      clear HO31
                      have HO31 := Aside0.mk h_
                      clear h_
                      have h_ := Kd.R_below HO20_0.out hb
                      clear HO20_0
                      have HO20_0 := Aside0.mk h_
                      clear h_
                      have h_ := Kd.R_below HO20_1.out hb
                      clear HO20_1
                      have HO20_1 := Aside0.mk h_
                      clear h_
                      have h_ := Kd.S_below HO23_0.out hb
                      clear HO23_0
                      have HO23_0 := Aside0.mk h_
                      clear h_
                      obtain ⟨A35_0, n35_0, c35_0, rfl, hn_, hr_⟩ := Go.Proofs.YtplfbjbbnjlnkaaM.R_made ho0 HB.out.size
                      clear hn_ ho0
                      have HO35_0 := Aside0.mk hr_
                      clear hr_
                      obtain ⟨A35_1, n35_1, c35_1, rfl, hn_, hr_⟩ := Go.Proofs.YtplfbjbbnjlnkaaM.R_made ho1 HB.out.size
                      clear hn_ ho1
                      have HO35_1 := Aside0.mk hr_
                      clear hr_
                      have h_ := blk_below BK1.out hb
                      clear BK1 c_BK1 z_BK1
                      have BK1 := Aside0.mk h_
                      have c_BK1 := blk_cell h_
                      have z_BK1 := blk_frozen h_
                      clear h_
                      have h_ := blk_below BK10.out hb
                      clear BK10 c_BK10 z_BK10
                      have BK10 := Aside0.mk h_
                      have c_BK10 := blk_cell h_
                      have z_BK10 := blk_frozen h_
                      clear h_
                      have hB_ := below_step HB.out hb
                      clear HB hb
                      have HB := Aside0.mk hB_
                      clear hB_
                      have H := H'.out
                      clear H'
                      replace H := Option.bind_eq_some_iff.mp H
                      obtain ⟨t375, hm, H⟩ := H
                      try dsimp only at H
                      have H' := Aside0.mk H
                      clear H
                      have hcall := laws_toEmergencyS.calls k _ _ l1 t375 W35 (Kd.C_below HR1.out HB.out) HC1.out hm
                      clear hm
                      go_wp2_with fail
                      refine hcall.mono ?_
                      rintro e W36 ⟨v376, rfl, ho0, hb⟩
                      clear hcall
                      have Z36 := Aside0.mk hb.size
                      have h_ := Kd.R_below HO6_0.out hb
                      clear HO6_0
                      have HO6_0 := Aside0.mk h_
                      clear h_
                      have h_ := Kd.R_below HO6_1.out hb
                      clear HO6_1
                      have HO6_1 := Aside0.mk h_
                      clear h_
                      have h_ := Kd.S_below HO7_0.out hb
                      clear HO7_0
                      have HO7_0 := Aside0.mk h_
                      clear h_
                      have h_ := Kd.S_below HO8_0.out hb
                      clear HO8_0
                      have HO8_0 := Aside0.mk h_
                      clear h_
                      have h_ := Kd.R_below HO26_0.out hb
                      clear HO26_0
                      have HO26_0 := Aside0.mk h_
                      clear h_
                      have h_ := Kd.R_below HO26_1.out hb
                      clear HO26_1
                      have HO26_1 := Aside0.mk h_
                      clear h_
                      have h_ := Kd.S_below HO27.out hb
                      clear HO27
                      have HO27 := Aside0.mk h_
                      clear h_
                      have h_ := Kd.S_below HO31.out hb
                      clear HO31
                      have HO31 := Aside0.mk h_
                      clear h_
                      have h_ := Kd.R_below HO20_0.out hb
                      clear HO20_0
                      have HO20_0 := Aside0.mk h_
                      clear h_
                      have h_ := Kd.R_below HO20_1.out hb
                      clear HO20_1
                      have HO20_1 := Aside0.mk h_
                      clear h_
                      have h_ := Kd.S_below HO23_0.out hb
                      clear HO23_0
                      have HO23_0 := Aside0.mk h_
                      clear h_
                      have h_ := Kd.R_below HO35_0.out hb
                      clear HO35_0
                      have HO35_0 := Aside0.mk h_
                      clear h_
                      have h_ := Kd.R_below HO35_1.out hb
                      clear HO35_1
                      have HO35_1 := Aside0.mk h_
                      clear h_
                      obtain ⟨A36_0, n36_0, c36_0, rfl, hn_, hr_⟩ := Go.Proofs.YtplfbjbbnjlnkaaM.S_made ho0 HB.out.size
                      clear hn_ ho0
                      have HO36_0 := Aside0.mk hr_
                      clear hr_
                      have h_ := blk_below BK1.out hb
                      clear BK1 c_BK1 z_BK1
                      have BK1 := Aside0.mk h_
                      have c_BK1 := blk_cell h_
                      have z_BK1 := blk_frozen h_
                      clear h_
                      have h_ := blk_below BK10.out hb
                      clear BK10 c_BK10 z_BK10
                      have BK10 := Aside0.mk h_
                      have c_BK10 := blk_cell h_
                      have z_BK10 := blk_frozen h_
                      clear h_
                      have hB_ := below_step HB.out hb
                      clear HB hb
                      have HB := Aside0.mk hB_
                      clear hB_
                      have H := H'.out
                      clear H'
                      replace H := Option.bind_eq_some_iff.mp H
                      obtain ⟨⟨t378, t381⟩, hm, H⟩ := H
                      try dsimp only at H
                      have H' := Aside0.mk H
                      clear H
                      have hcall := impl_DeclareEmergency.calls k _ _ t368 _ _ t371 t374 _ _ t375 a2 a3 t378 t381 W36 (Go.Proofs.YtplfbjbbnjlnkaaM.R_C HO35_0.out) (Go.Proofs.YtplfbjbbnjlnkaaM.R_len HO35_0.out) (Go.Proofs.YtplfbjbbnjlnkaaM.R_C HO35_1.out) (Go.Proofs.YtplfbjbbnjlnkaaM.R_len HO35_1.out) (Go.Proofs.YtplfbjbbnjlnkaaM.S_C HO36_0.out) (Go.Proofs.YtplfbjbbnjlnkaaM.S_len HO36_0.out) hm
                      rw [Go.Proofs.YtplfbjbbnjlnkaaM.R_n HO35_0.out, Go.Proofs.YtplfbjbbnjlnkaaM.R_n HO35_1.out, Go.Proofs.YtplfbjbbnjlnkaaM.S_n HO36_0.out] at hcall
                      clear hm
                      go_wp2_with fail
                      refine hcall.mono ?_
                      rintro e W37 ⟨v379, rfl, ho0, hb⟩
                      clear hcall
                      have Z37 := Aside0.mk hb.size
                      have h_ := Kd.R_below HO6_0.out hb
                      clear HO6_0
                      have HO6_0 := Aside0.mk h_
                      clear h_
                      have h_ := Kd.R_below HO6_1.out hb
                      clear HO6_1
                      have HO6_1 := Aside0.mk h_
                      clear h_
                      have h_ := Kd.S_below HO7_0.out hb
                      clear HO7_0
                      have HO7_0 := Aside0.mk h_
                      clear h_
                      have h_ := Kd.S_below HO8_0.out hb
                      clear HO8_0
                      have HO8_0 := Aside0.mk h_
                      clear h_
                      have h_ := Kd.R_below HO26_0.out hb
                      clear HO26_0
                      have HO26_0 := Aside0.mk h_
                      clear h_
                      have h_ := Kd.R_below HO26_1.out hb
                      clear HO26_1
                      have HO26_1 := Aside0.mk h_
                      clear h_
                      have h_ := Kd.S_below HO27.out hb
                      clear HO27
                      have HO27 := Aside0.mk h_
                      clear h_
                      have h_ := Kd.S_below HO31.out hb
                      clear HO31
                      have HO31 := Aside0.mk h_
                      clear h_
                      have h_ := Kd.R_below HO20_0.out hb
                      clear HO20_0
                      have HO20_0 := Aside0.mk h_
                      clear h_
                      have h_ := Kd.R_below HO20_1.out hb
                      clear HO20_1
                      have HO20_1 := Aside0.mk h_
                      clear h_
                      have h_ := Kd.S_below HO23_0.out hb
                      clear HO23_0
                      have HO23_0 := Aside0.mk h_
                      clear h_
                      have h_ := Kd.R_below HO35_0.out hb
                      clear HO35_0
                      have HO35_0 := Aside0.mk h_
                      clear h_
                      have h_ := Kd.R_below HO35_1.out hb
                      clear HO35_1
                      have HO35_1 := Aside0.mk h_
                      clear h_
                      have h_ := Kd.S_below HO36_0.out hb
                      clear HO36_0
                      have HO36_0 := Aside0.mk h_
                      clear h_
                      obtain ⟨A37_0, n37_0, c37_0, rfl, hn_, hr_⟩ := Go.Proofs.YtplfbjbbnjlnkaaM.S_made ho0 HB.out.size
                      clear hn_ ho0
                      have HO37_0 := Aside0.mk hr_
                      clear hr_
                      have h_ := blk_below BK1.out hb
                      clear BK1 c_BK1 z_BK1
                      have BK1 := Aside0.mk h_
                      have c_BK1 := blk_cell h_
                      have z_BK1 := blk_frozen h_
                      clear h_
                      have h_ := blk_below BK10.out hb
                      clear BK10 c_BK10 z_BK10
                      have BK10 := Aside0.mk h_
                      have c_BK10 := blk_cell h_
                      have z_BK10 := blk_frozen h_
                      clear h_
                      have hB_ := below_step HB.out hb
                      clear HB hb
                      have HB := Aside0.mk hB_
                      clear hB_
                      have H := H'.out
                      clear H'
                      replace H := Option.bind_eq_some_iff.mp H
                      obtain ⟨t382, hm, H⟩ := H
                      try dsimp only at H
                      have H' := Aside0.mk H
                      clear H
                      have hcall := laws_eqEmergencyS.calls k _ _ t378 _ _ t327 t382 W37 (Go.Proofs.YtplfbjbbnjlnkaaM.S_C HO37_0.out) (Go.Proofs.YtplfbjbbnjlnkaaM.S_len HO37_0.out) (Go.Proofs.YtplfbjbbnjlnkaaM.S_C HO8_0.out) (Go.Proofs.YtplfbjbbnjlnkaaM.S_len HO8_0.out) hm
                      rw [Go.Proofs.YtplfbjbbnjlnkaaM.S_n HO37_0.out, Go.Proofs.YtplfbjbbnjlnkaaM.S_n HO8_0.out] at hcall
                      clear hm
                      go_wp2_with fail
                      refine hcall.mono ?_
                      rintro e W38 ⟨rfl, hb⟩
                      clear hcall
                      have Z38 := Aside0.mk hb.size
                      have h_ := Kd.R_below HO6_0.out hb
                      clear HO6_0
                      have HO6_0 := Aside0.mk h_
                      clear h_
                      have h_ := Kd.R_below HO6_1.out hb
                      clear HO6_1
                      have HO6_1 := Aside0.mk h_
                      clear h_
                      have h_ := Kd.S_below HO7_0.out hb
                      clear HO7_0
                      have HO7_0 := Aside0.mk h_
                      clear h_
                      have h_ := Kd.S_below HO8_0.out hb
                      clear HO8_0
                      have HO8_0 := Aside0.mk h_
                      clear h_
                      have h_ := Kd.R_below HO26_0.out hb
                      clear HO26_0
                      have HO26_0 := Aside0.mk h_
                      clear h_
                      have h_ := Kd.R_below HO26_1.out hb
                      clear HO26_1
                      have HO26_1 := Aside0.mk h_
                      clear h_
                      have h_ := Kd.S_below HO27.out hb
                      clear HO27
                      have HO27 := Aside0.mk h_
                      clear h_
                      have h_ := Kd.S_below HO31.out hb
                      clear HO31
                      have HO31 := Aside0.mk h_
                      clear h_
                      have h_ := Kd.R_below HO20_0.out hb
                      clear HO20_0
                      have HO20_0 := Aside0.mk h_
                      clear h_
                      have h_ := Kd.R_below HO20_1.out hb
                      clear HO20_1
                      have HO20_1 := Aside0.mk h_
                      clear h_
                      have h_ := Kd.S_below HO23_0.out hb
                      clear HO23_0
                      have HO23_0 := Aside0.mk h_
                      clear h_
                      have h_ := Kd.R_below HO35_0.out hb
                      clear HO35_0
                      have HO35_0 := Aside0.mk h_
                      clear h_
                      have h_ := Kd.R_below HO35_1.out hb
                      clear HO35_1
                      have HO35_1 := Aside0.mk h_
                      clear h_
                      have h_ := Kd.S_below HO36_0.out hb
                      clear HO36_0
                      have HO36_0 := Aside0.mk h_
                      clear h_
                      have h_ := Kd.S_below HO37_0.out hb
                      clear HO37_0
                      have HO37_0 := Aside0.mk h_
                      clear h_
                      have h_ := blk_below BK1.out hb
                      clear BK1 c_BK1 z_BK1
                      have BK1 := Aside0.mk h_
                      have c_BK1 := blk_cell h_
                      have z_BK1 := blk_frozen h_
                      clear h_
                      have h_ := blk_below BK10.out hb
                      clear BK10 c_BK10 z_BK10
                      have BK10 := Aside0.mk h_
                      have c_BK10 := blk_cell h_
                      have z_BK10 := blk_frozen h_
                      clear h_
                      have hB_ := below_step HB.out hb
                      clear HB hb
                      have HB := Aside0.mk hB_
                      clear hB_
                      have H := H'.out
                      clear H'
                      by_cases c39 : t382 = true
                      · rw [if_pos c39] at H
                        subst c39
                        by_cases c40 : (t381 != t330) = true
                        · rw [if_pos c40] at H
                          have c40_1 : (t381 != t330) = true := by revert c40; cases t381 <;> cases t330 <;> decide
                          have c40_2 : (!t381 == t330) = true := by revert c40; cases t381 <;> cases t330 <;> decide
                          clear c40
                          obtain rfl := Option.some.inj H
                          clear H
                          go_wp2
                          go_ret
                          exact ⟨rfl, HB.out⟩
                        · rw [if_neg c40] at H
                          have c40_1 : (t381 != t330) = false := by revert c40; cases t381 <;> cases t330 <;> decide
                          have c40_2 : (!t381 == t330) = false := by revert c40; cases t381 <;> cases t330 <;> decide
                          clear c40
                          replace H := Option.bind_eq_some_iff.mp H
                          obtain ⟨t383, hm, H⟩ := H
                          try dsimp only at H
                          have H' := Aside0.mk H
                          clear H
                          have hcall := laws_heldEmergencyS.calls k _ _ t366 1 t383 W38 (Go.Proofs.YtplfbjbbnjlnkaaM.S_C HO31.out) (Go.Proofs.YtplfbjbbnjlnkaaM.S_len HO31.out) hm
                          rw [Go.Proofs.YtplfbjbbnjlnkaaM.S_n HO31.out] at hcall
                          clear hm
                          go_wp2_with fail
                          refine hcall.mono ?_
                          rintro e W41 ⟨rfl, hd⟩
                          clear hcall
                          have hb : Below W38.heap.size W38 W41 := hd.below
                          clear hd
                          have Z41 := Aside0.mk hb.size
                          have h_ := Kd.R_below HO6_0.out hb
                          clear HO6_0
                          have HO6_0 := Aside0.mk h_
                          clear h_
                          have h_ := Kd.R_below HO6_1.out hb
                          clear HO6_1
                          have HO6_1 := Aside0.mk h_
                          clear h_
                          have h_ := Kd.S_below HO7_0.out hb
                          clear HO7_0
                          have HO7_0 := Aside0.mk h_
                          clear h_
                          have h_ := Kd.S_below HO8_0.out hb
                          clear HO8_0
                          have HO8_0 := Aside0.mk h_
                          clear h_
                          have h_ := Kd.R_below HO26_0.out hb
                          clear HO26_0
                          have HO26_0 := Aside0.mk h_
                          clear h_
                          have h_ := Kd.R_below HO26_1.out hb
                          clear HO26_1
                          have HO26_1 := Aside0.mk h_
                          clear h_
                          have h_ := Kd.S_below HO27.out hb
                          clear HO27
                          have HO27 := Aside0.mk h_
                          clear h_
                          have h_ := Kd.S_below HO31.out hb
                          clear HO31
                          have HO31 := Aside0.mk h_
                          clear h_
                          have h_ := Kd.R_below HO20_0.out hb
                          clear HO20_0
                          have HO20_0 := Aside0.mk h_
                          clear h_
                          have h_ := Kd.R_below HO20_1.out hb
                          clear HO20_1
                          have HO20_1 := Aside0.mk h_
                          clear h_
                          have h_ := Kd.S_below HO23_0.out hb
                          clear HO23_0
                          have HO23_0 := Aside0.mk h_
                          clear h_
                          have h_ := Kd.R_below HO35_0.out hb
                          clear HO35_0
                          have HO35_0 := Aside0.mk h_
                          clear h_
                          have h_ := Kd.R_below HO35_1.out hb
                          clear HO35_1
                          have HO35_1 := Aside0.mk h_
                          clear h_
                          have h_ := Kd.S_below HO36_0.out hb
                          clear HO36_0
                          have HO36_0 := Aside0.mk h_
                          clear h_
                          have h_ := Kd.S_below HO37_0.out hb
                          clear HO37_0
                          have HO37_0 := Aside0.mk h_
                          clear h_
                          have h_ := blk_below BK1.out hb
                          clear BK1 c_BK1 z_BK1
                          have BK1 := Aside0.mk h_
                          have c_BK1 := blk_cell h_
                          have z_BK1 := blk_frozen h_
                          clear h_
                          have h_ := blk_below BK10.out hb
                          clear BK10 c_BK10 z_BK10
                          have BK10 := Aside0.mk h_
                          have c_BK10 := blk_cell h_
                          have z_BK10 := blk_frozen h_
                          clear h_
                          have hB_ := below_step HB.out hb
                          clear HB hb
                          have HB := Aside0.mk hB_
                          clear hB_
                          have H := H'.out
                          clear H'
                          by_cases c42 : t383 < 0
                          · rw [if_pos c42] at H
                            have c42_0 : decide (t383 < 0) = true := decide_eq_true c42
                            clear c42
                            obtain rfl := Option.some.inj H
                            clear H
                            go_wp2
                            go_ret
                            exact ⟨rfl, HB.out⟩
                          · rw [if_neg c42] at H
                            have c42_0 : decide (t383 < 0) = false := decide_eq_false c42
                            clear c42
                            by_cases c43 : t383 = t365
                            · rw [if_pos c43] at H
                              have c43_1 : (t383 == t365) = true := beq_iff_eq.mpr c43
                              have c43_2 : (t383 != t365) = false := bne_eq_false_iff_eq.mpr c43
                              have c43_0 : decide (t383 = t365) = true := decide_eq_true c43
                              clear c43
                              obtain rfl := Option.some.inj H
                              clear H
                              go_wp2
                              go_ret
                              exact ⟨rfl, HB.out⟩
                            · rw [if_neg c43] at H
                              have c43_1 : (t383 == t365) = false := beq_eq_false_iff_ne.mpr c43
                              have c43_2 : (t383 != t365) = true := bne_iff_ne.mpr c43
                              have c43_0 : decide (t383 = t365) = false := decide_eq_false c43
                              clear c43
                              obtain rfl := Option.some.inj H
                              clear H
                              go_wp2
                              go_ret
                              exact ⟨rfl, HB.out⟩
                      · rw [if_neg c39] at H
                        replace c39 : t382 = false := by simpa using c39
                        subst c39
                        obtain rfl := Option.some.inj H
                        clear H
                        go_wp2
                        go_ret
                        exact ⟨rfl, HB.out⟩
                    · rw [if_neg c34] at H
                      have c34_1 : (t367 == t365) = false := beq_eq_false_iff_ne.mpr c34
                      have c34_2 : (t367 != t365) = true := bne_iff_ne.mpr c34
                      have c34_0 : decide (t367 = t365) = false := decide_eq_false c34
                      clear c34
                      obtain rfl := Option.some.inj H
                      clear H
                      go_wp2
                      go_ret
                      exact ⟨rfl, HB.out⟩
                · rw [if_neg c30] at H
                  replace c30 : t364 = false := by simpa using c30
                  subst c30
                  obtain rfl := Option.some.inj H
                  clear H
                  go_wp2
                  go_ret
                  exact ⟨rfl, HB.out⟩
            · rw [if_neg c25] at H
              replace c25 : t358 = false := by simpa using c25
              subst c25
              obtain rfl := Option.some.inj H
              clear H
              go_wp2
              go_ret
              exact ⟨rfl, HB.out⟩
          · rw [if_neg c22] at H
            replace c22 : t354 = false := by simpa using c22
            subst c22
            obtain rfl := Option.some.inj H
            clear H
            go_wp2
            go_ret
            exact ⟨rfl, HB.out⟩
      · rw [if_neg c15] at H
        replace c15 : t346 = false := by simpa using c15
        subst c15
        obtain rfl := Option.some.inj H
        clear H
        go_wp2
        go_ret
        exact ⟨rfl, HB.out⟩

section
open Go.Proofs.YtplfbjbbnjlnkaaO
def g57 (x : S57) : Prop := (x.f0.length ≤ maxLen ∧ ∀ y_ ∈ x.f0, (Lit.int .i64 y_).wf = true) ∧ (x.f1.length ≤ maxLen ∧ ∀ y_ ∈ x.f1, (Lit.int .i64 y_).wf = true) ∧ (Lit.int .i64 x.f2).wf = true
theorem opens57 (n : Nat) : Opens Try.prog 57 k57 g57 n :=
  opens_imp (opens_iso (fun x : S57 => (x.f0, x.f1, x.f2)) (fun x => (⟨x.1, x.2.1, x.2.2⟩ : S57)) (fun _ => rfl) (opens_struct Try.underlying57 (by kernel_rfl) fun m _ => (fields_cons rfl (by kernel_rfl) (opens_slice Try.underlying46 (by kernel_rfl) fun m _ => (opens_int Try.underlying3 m)) (fields_cons rfl (by kernel_rfl) (opens_slice Try.underlying46 (by kernel_rfl) fun m _ => (opens_int Try.underlying3 m)) (fields_one rfl (by kernel_rfl) (opens_int Try.underlying3 m)))))) (fun _ h => h)
def g143 (x : S143) : Prop := (Lit.int .i64 x.f0).wf = true ∧ (Lit.int .i64 x.f1).wf = true ∧ (Lit.int .i64 x.f2).wf = true ∧ (Lit.int .i64 x.f3).wf = true ∧ (x.f4.length ≤ maxLen ∧ ∀ y_ ∈ x.f4, (Lit.int .i64 y_).wf = true) ∧ True
theorem opens143 (n : Nat) : Opens Try.prog 143 k143 g143 n :=
  opens_imp (opens_iso (fun x : S143 => (x.f0, x.f1, x.f2, x.f3, x.f4, x.f5)) (fun x => (⟨x.1, x.2.1, x.2.2.1, x.2.2.2.1, x.2.2.2.2.1, x.2.2.2.2.2⟩ : S143)) (fun _ => rfl) (opens_struct Try.underlying143 (by kernel_rfl) fun m _ => (fields_cons rfl (by kernel_rfl) (opens_int Try.underlying3 m) (fields_cons rfl (by kernel_rfl) (opens_int Try.underlying3 m) (fields_cons rfl (by kernel_rfl) (opens_int Try.underlying3 m) (fields_cons rfl (by kernel_rfl) (opens_int Try.underlying3 m) (fields_cons rfl (by kernel_rfl) (opens_slice Try.underlying46 (by kernel_rfl) fun m _ => (opens_int Try.underlying3 m)) (fields_one rfl (by kernel_rfl) (opens_bool Try.underlying4 m))))))))) (fun _ h => h)
end
/-- What is left to show of laws_FnExactDeclareEmergency: over numbers and lists alone. -/
def laws_FnExactDeclareEmergency.Pure : Prop := ∀ (x0 : S57) (l1 : List (S143)) (a2 : Int) (a3 : Int), g57 x0 → l1.length ≤ maxLen → (∀ y_ ∈ l1, g143 y_) → (Lit.int .i64 a2).wf = true → (Lit.int .i64 a3).wf = true → ∃ k, laws_FnExactDeclareEmergency.f k x0.f0 x0.f1 x0.f2 l1 a2 a3 = some true

end Go.Proofs.Ytplfbjbbnjlnkaa.QFnExactDeclareEmergency
