/- The machine side of FnExactAddGrant: what each function that it reaches computes, and that the machine's call gives just that. -/
import Derived.Test.YtplfbjbbnjlnkaaQFnExactAddGrantx0
import Derived.Test.YtplfbjbbnjlnkaaQFnExactAddGrantx1
import Derived.Test.YtplfbjbbnjlnkaaQFnExactAddGrantx2
import Derived.Test.YtplfbjbbnjlnkaaQFnExactAddGrantx3
import Derived.Test.YtplfbjbbnjlnkaaQFnExactAddGrantx5
import Derived.Test.YtplfbjbbnjlnkaaQFnExactAddGrantx7
import Derived.Test.YtplfbjbbnjlnkaaQFnExactAddGrantx8
namespace Go.Proofs.Ytplfbjbbnjlnkaa.QFnExactAddGrant
open Go.RowKit Go.Proofs.YtplfbjbbnjlnkaaW.PrintWords Go.Proofs.YtplfbjbbnjlnkaaW.PrintLast Go.Proofs.YtplfbjbbnjlnkaaW.PrintMore
attribute [local go_sem] max2_int min2_int max_two min_two max_three min_three max_four min_four   -- for this text's walks alone
set_option linter.unusedVariables false
set_option linter.unusedSimpArgs false

/-! ### laws_FnExactAddGrant: function 5 -/
def laws_FnExactAddGrant.f (k : Nat) (l0 : List (S48)) (a1_0 : Int) (a1_1 : Int) (a1_2 : Int) (l1_3 : List Int) (a1_4 : Int) (a1_5 : Int) (a1_6 : Bool) : Option (Bool) := (laws_szGrantS.f k l0 1048576).bind fun t251 => (if t251 < 0 then (some true) else ((laws_szGrant.f a1_0 a1_1 a1_2 l1_3 a1_4 a1_5 a1_6 t251).bind fun t252 => (if t252 < 0 then (some true) else ((laws_toGrantS.f k l0).bind fun t253 => ((laws_toGrant.f k a1_0 a1_1 a1_2 l1_3 a1_4 a1_5 a1_6).bind fun bt256 => ((spec_AddGrant.f k t253 bt256.1 bt256.2.1 bt256.2.2.1 bt256.2.2.2.1 bt256.2.2.2.2.1 bt256.2.2.2.2.2.1 bt256.2.2.2.2.2.2).bind fun bt265 => ((laws_toGrantS.f k l0).bind fun t269 => ((laws_toGrant.f k a1_0 a1_1 a1_2 l1_3 a1_4 a1_5 a1_6).bind fun bt272 => ((impl_AddGrant.f k t269 bt272.1 bt272.2.1 bt272.2.2.1 bt272.2.2.2.1 bt272.2.2.2.2.1 bt272.2.2.2.2.2.1 bt272.2.2.2.2.2.2).bind fun bt282 => ((laws_eqGrantS.f k bt282.1 bt265.1).bind fun t286 => (if t286 = true then (if (bt282.2 != bt265.2) = true then (some false) else ((laws_toGrantS.f k l0).bind fun t287 => ((laws_eqGrantS.f k t269 t287).bind fun t290 => (if t290 = true then ((laws_toGrant.f k a1_0 a1_1 a1_2 l1_3 a1_4 a1_5 a1_6).bind fun bt291 => ((laws_eqGrant.f k bt272.1 bt272.2.1 bt272.2.2.1 bt272.2.2.2.1 bt272.2.2.2.2.1 bt272.2.2.2.2.2.1 bt272.2.2.2.2.2.2 bt291.1 bt291.2.1 bt291.2.2.1 bt291.2.2.2.1 bt291.2.2.2.2.1 bt291.2.2.2.2.2.1 bt291.2.2.2.2.2.2).bind fun t300 => (if t300 = true then ((laws_markGrantS.f k t269 1).bind fun bt301 => ((laws_markGrant.f k bt272.1 bt272.2.1 bt272.2.2.1 bt272.2.2.2.1 bt272.2.2.2.2.1 bt272.2.2.2.2.2.1 bt272.2.2.2.2.2.2 bt301.1).bind fun bt303 => (if bt303.1 < 0 then (some false) else ((laws_eqGrantS.f k bt282.1 bt265.1).bind fun t305 => (if t305 = true then ((laws_markGrantS.f k bt282.1 1).bind fun bt306 => ((laws_heldGrantS.f k bt306.2 1).bind fun t308 => (if t308 < 0 then (some false) else (if t308 = bt306.1 then ((laws_toGrantS.f k l0).bind fun t309 => ((laws_toGrant.f k a1_0 a1_1 a1_2 l1_3 a1_4 a1_5 a1_6).bind fun bt312 => ((impl_AddGrant.f k t309 bt312.1 bt312.2.1 bt312.2.2.1 bt312.2.2.2.1 bt312.2.2.2.2.1 bt312.2.2.2.2.2.1 bt312.2.2.2.2.2.2).bind fun bt321 => ((laws_eqGrantS.f k bt321.1 bt265.1).bind fun t325 => (if t325 = true then (if (bt321.2 != bt265.2) = true then (some false) else ((laws_heldGrantS.f k bt306.2 1).bind fun t326 => (if t326 < 0 then (some false) else (if t326 = bt306.1 then (some true) else (some false))))) else (some false)))))) else (some false))))) else (some false)))))) else (some false)))) else (some false))))) else (some false))))))))))))
set_option maxHeartbeats 8000000 in
set_option maxRecDepth 100000 in
theorem laws_FnExactAddGrant.calls (k : Nat) (A0 : Option Addr) (c0 : Nat) (l0 : List (S48)) (a1_0 : Int) (a1_1 : Int) (a1_2 : Int) (A1_3 : Option Addr) (c1_3 : Nat) (l1_3 : List Int) (a1_4 : Int) (a1_5 : Int) (a1_6 : Bool) (r : Bool) (w : World) (hr0 : Kd.C k48 w A0 l0.length l0) (hc0 : l0.length ≤ c0) (hr1_3 : Kd.C (Kd.int .i64) w A1_3 l1_3.length l1_3) (hc1_3 : l1_3.length ≤ c1_3) (h : laws_FnExactAddGrant.f k l0 a1_0 a1_1 a1_2 l1_3 a1_4 a1_5 a1_6 = some r) :
    Calls Try.prog 5 #[.slice A0 l0.length c0, .agg #[.int .i64 a1_0, .int .i64 a1_1, .int .i64 a1_2, .slice A1_3 l1_3.length c1_3, .int .i64 a1_4, .int .i64 a1_5, .bool a1_6]] w fun e w' => e = .returned (.bool r) ∧ Below w.heap.size w w' := by
  have HR0 := Aside0.mk hr0
  have HC0 := Aside0.mk hc0
  clear hr0 hc0
  have HR1_3 := Aside0.mk hr1_3
  have HC1_3 := Aside0.mk hc1_3
  clear hr1_3 hc1_3
  have HB := Aside0.mk (Below.refl w.heap.size w)
  have H := h
  clear h
  unfold laws_FnExactAddGrant.f at H
  have hu48 := Try.underlying48
  have hu51 := Try.underlying51
  go_enter Try.func5, Try.ntmps5
  have H'' := Aside0.mk H
  clear H
  go_wp2_with (first | ((with_reducible refine gate_dst (N := 3) rfl ?_); refine box_event ?hg (N := 3) ?hd (cs := #[.int .i64 a1_0, .int .i64 a1_1, .int .i64 a1_2, .slice A1_3 l1_3.length c1_3, .int .i64 a1_4, .int .i64 a1_5, .bool a1_6]) (t := 48) ?hr ?_; (case hd => rfl); (case hg => rfl); (case hr => first | (go_simp; done) | (go_simp; rfl)); intro gb1 hg W1 hbox hb; have Z1 := Aside0.mk hb.size; have E1 := Aside0.mk (And.intro hg (blk_lt hbox)); have BK1 := Aside0.mk hbox; have c_BK1 := blk_cell hbox; have z_BK1 := blk_frozen hbox; have hB_ := below_step HB.out hb; clear HB hb hbox hg; have HB := Aside0.mk hB_; clear hB_))
  have H := H''.out
  clear H''
  replace H := Option.bind_eq_some_iff.mp H
  obtain ⟨t251, hm, H⟩ := H
  try dsimp only at H
  have H' := Aside0.mk H
  clear H
  have hcall := laws_szGrantS.calls k _ _ l0 1048576 t251 W1 (Kd.C_below HR0.out HB.out) HC0.out hm
  clear hm
  try go_wp2_with fail
  refine hcall.mono ?_
  rintro e W2 ⟨rfl, hb⟩
  clear hcall
  have Z2 := Aside0.mk hb.size
  have h_ := blk_below BK1.out hb
  clear BK1 c_BK1 z_BK1
  have BK1 := Aside0.mk h_
  have c_BK1 := blk_cell h_
  have z_BK1 := blk_frozen h_
  clear h_
  have hB_ := below_step HB.out hb
  clear HB hb
  have HB := Aside0.mk hB_
  clear hB_
  have H := H'.out
  clear H'
  by_cases c3 : t251 < 0
  · rw [if_pos c3] at H
    have c3_0 : decide (t251 < 0) = true := decide_eq_true c3
    clear c3
    obtain rfl := Option.some.inj H
    clear H
    go_wp2
    go_ret
    exact ⟨rfl, HB.out⟩
  · rw [if_neg c3] at H
    have c3_0 : decide (t251 < 0) = false := decide_eq_false c3
    clear c3
    replace H := Option.bind_eq_some_iff.mp H
    obtain ⟨t252, hm, H⟩ := H
    try dsimp only at H
    have H' := Aside0.mk H
    clear H
    have hcall := laws_szGrant.calls a1_0 a1_1 a1_2 _ _ l1_3 a1_4 a1_5 a1_6 t251 t252 W2 (Kd.C_below HR1_3.out HB.out) HC1_3.out hm
    clear hm
    go_wp2_with fail
    refine hcall.mono ?_
    rintro e W4 ⟨rfl, hb⟩
    clear hcall
    have Z4 := Aside0.mk hb.size
    have h_ := blk_below BK1.out hb
    clear BK1 c_BK1 z_BK1
    have BK1 := Aside0.mk h_
    have c_BK1 := blk_cell h_
    have z_BK1 := blk_frozen h_
    clear h_
    have hB_ := below_step HB.out hb
    clear HB hb
    have HB := Aside0.mk hB_
    clear hB_
    have H := H'.out
    clear H'
    by_cases c5 : t252 < 0
    · rw [if_pos c5] at H
      have c5_0 : decide (t252 < 0) = true := decide_eq_true c5
      clear c5
      obtain rfl := Option.some.inj H
      clear H
      go_wp2
      go_ret
      exact ⟨rfl, HB.out⟩
    · rw [if_neg c5] at H
      have c5_0 : decide (t252 < 0) = false := decide_eq_false c5
      clear c5
      replace H := Option.bind_eq_some_iff.mp H
      obtain ⟨t253, hm, H⟩ := H
      try dsimp only at H
      have HM6 := Aside0.mk hm
      clear hm
      replace H := Option.bind_eq_some_iff.mp H
      obtain ⟨⟨t256, t257, t258, t259, t262, t263, t264⟩, hm, H⟩ := H
      try dsimp only at H
      have HM7 := Aside0.mk hm
      clear hm
      replace H := Option.bind_eq_some_iff.mp H
      obtain ⟨⟨t265, t268⟩, hm, H⟩ := H
      try dsimp only at H
      have HM8 := Aside0.mk hm
      clear hm
      have H' := Aside0.mk H
      clear H
      try go_wp2
      have h_ := blk_drew BK1.out
      clear BK1 c_BK1 z_BK1
      have BK1 := Aside0.mk h_
      clear h_
      have hB_ := below_drew1 HB.out
      clear HB
      have HB := Aside0.mk hB_
      clear hB_
      have Z9 : Aside0 (W4.heap.size ≤ W4.drew.heap.size) := ⟨Nat.le_refl _⟩
      refine start_ (n := 10) (S := fun w' => w'.cell? ⟨gb1, 0, none⟩ = some (.int .i64 a1_0) ∧ w'.cell? ⟨gb1, 1, none⟩ = some (.int .i64 a1_1) ∧ w'.cell? ⟨gb1, 2, none⟩ = some (.int .i64 a1_2) ∧ w'.cell? ⟨gb1, 3, none⟩ = some (.slice A1_3 l1_3.length c1_3) ∧ w'.cell? ⟨gb1, 4, none⟩ = some (.int .i64 a1_4) ∧ w'.cell? ⟨gb1, 5, none⟩ = some (.int .i64 a1_5) ∧ w'.cell? ⟨gb1, 6, none⟩ = some (.bool a1_6)) (ds := []) #[false, false, false, false, false, false, false, false, false, false] (by kernel_rfl) rfl rfl ⟨(blk_cell BK1.out 0).trans rfl, (blk_cell BK1.out 1).trans rfl, (blk_cell BK1.out 2).trans rfl, (blk_cell BK1.out 3).trans rfl, (blk_cell BK1.out 4).trans rfl, (blk_cell BK1.out 5).trans rfl, (blk_cell BK1.out 6).trans rfl⟩ (fun hHeld => ?_)
      generalize W4.drew = W9 at Z9 HB BK1 hHeld ⊢
      have c_BK1 := blk_cell BK1.out
      have z_BK1 := blk_frozen BK1.out
      refine pure_ (i := 0) (N := some 28) (v := ?_) (a' := ?_) #[true, false, false, false, false, false, false, false, false, false] rfl rfl (by kernel_rfl) (fun _ _ _ h => h) (Or.inl ⟨by rfl, ?_⟩) ?_ ?_
      rotate_left
      · intro w'
        go_simp
        with_reducible rfl
      rotate_left
      · simp only [Act.put, List.setIfInBounds_toArray, List.set_cons_zero, List.set_cons_succ, i64_w, i32_w]
        rfl
      refine take_ (i := 2) (N := some 30) (v := ?_) (a' := ?_) #[true, false, true, false, false, false, false, false, false, false] rfl rfl (by kernel_rfl) (fun _ _ _ h => h) (Or.inl ⟨by rfl, ?_⟩) hHeld ?_ ?_
      rotate_left
      · rintro w' ⟨s0, s1, s2, s3, s4, s5, s6⟩
        go_simp
        with_reducible rfl
      rotate_left
      · simp only [Act.put, List.setIfInBounds_toArray, List.set_cons_zero, List.set_cons_succ, i64_w, i32_w]
        rfl
      refine one_ (i := 1) (N := some 29) #[true, true, true, false, false, false, false, false, false, false] rfl rfl (by kernel_rfl) (by decide) (fun K hK => ?_)
      have hcall := laws_toGrantS.calls k _ _ l0 t253 W9 (Kd.C_below HR0.out HB.out) HC0.out HM6.out
      refine goes_ Try.func28 (by kernel_rfl) rfl #[.slice A0 l0.length c0] (by rfl) rfl rfl (by (try simp only [List.map_toArray, List.map_cons, List.map_nil]); first | done | rfl) ?_
      refine hcall.mono ?_
      rintro e W10 ⟨v254, rfl, ho0, hb⟩
      refine ⟨_, rfl, ?_⟩
      clear hcall
      have Z10 := Aside0.mk hb.size
      obtain ⟨A10_0, n10_0, c10_0, rfl, hn_, hr_⟩ := Go.Proofs.YtplfbjbbnjlnkaaM.S_made ho0 HB.out.size
      clear hn_ ho0
      have HO10_0 := Aside0.mk hr_
      clear hr_
      have h_ := blk_below BK1.out hb
      clear BK1 c_BK1 z_BK1
      have BK1 := Aside0.mk h_
      have c_BK1 := blk_cell h_
      have z_BK1 := blk_frozen h_
      clear h_
      have hB_ := below_step HB.out hb
      clear HB hb
      have HB := Aside0.mk hB_
      clear hB_
      refine hK.out _ _ ⟨(blk_cell BK1.out 0).trans rfl, (blk_cell BK1.out 1).trans rfl, (blk_cell BK1.out 2).trans rfl, (blk_cell BK1.out 3).trans rfl, (blk_cell BK1.out 4).trans rfl, (blk_cell BK1.out 5).trans rfl, (blk_cell BK1.out 6).trans rfl⟩ (fun hHeld => ?_)
      clear hK K
      refine norm_ (a' := ?_) ?_ ?_
      rotate_left
      · show Act.put _ (some 29) _ = _
        simp only [Act.put, List.setIfInBounds_toArray, List.set_cons_zero, List.set_cons_succ, i64_w, i32_w]
        rfl
      refine one_ (i := 3) (N := some 31) #[true, true, true, true, false, false, false, false, false, false] rfl rfl (by kernel_rfl) (by decide) (fun K hK => ?_)
      have hcall := laws_toGrant.calls k a1_0 a1_1 a1_2 _ _ l1_3 a1_4 a1_5 a1_6 t256 t257 t258 t259 t262 t263 t264 W10 (Kd.C_below HR1_3.out HB.out) HC1_3.out HM7.out
      refine goes_ Try.func35 (by kernel_rfl) rfl #[.agg #[.int .i64 a1_0, .int .i64 a1_1, .int .i64 a1_2, .slice A1_3 l1_3.length c1_3, .int .i64 a1_4, .int .i64 a1_5, .bool a1_6]] (by rfl) rfl rfl (by (try simp only [List.map_toArray, List.map_cons, List.map_nil]); first | done | rfl) ?_
      refine hcall.mono ?_
      rintro e W11 ⟨v260, rfl, ho0, hb⟩
      refine ⟨_, rfl, ?_⟩
      clear hcall
      have Z11 := Aside0.mk hb.size
      have h_ := Kd.S_below HO10_0.out hb
      clear HO10_0
      have HO10_0 := Aside0.mk h_
      clear h_
      obtain ⟨A11_0, n11_0, c11_0, rfl, hn_, hr_⟩ := Go.Proofs.YtplfbjbbnjlnkaaM.R_made ho0 HB.out.size
      clear hn_ ho0
      have HO11_0 := Aside0.mk hr_
      clear hr_
      have h_ := blk_below BK1.out hb
      clear BK1 c_BK1 z_BK1
      have BK1 := Aside0.mk h_
      have c_BK1 := blk_cell h_
      have z_BK1 := blk_frozen h_
      clear h_
      have hB_ := below_step HB.out hb
      clear HB hb
      have HB := Aside0.mk hB_
      clear hB_
      refine hK.out _ _ ⟨(blk_cell BK1.out 0).trans rfl, (blk_cell BK1.out 1).trans rfl, (blk_cell BK1.out 2).trans rfl, (blk_cell BK1.out 3).trans rfl, (blk_cell BK1.out 4).trans rfl, (blk_cell BK1.out 5).trans rfl, (blk_cell BK1.out 6).trans rfl⟩ (fun hHeld => ?_)
      clear hK K
      refine norm_ (a' := ?_) ?_ ?_
      rotate_left
      · show Act.put _ (some 31) _ = _
        simp only [Act.put, List.setIfInBounds_toArray, List.set_cons_zero, List.set_cons_succ, i64_w, i32_w]
        rfl
      refine one_ (i := 4) (N := some 32) #[true, true, true, true, true, false, false, false, false, false] rfl rfl (by kernel_rfl) (by decide) (fun K hK => ?_)
      have hcall := spec_AddGrant.calls k _ _ t253 t256 t257 t258 _ _ t259 t262 t263 t264 t265 t268 W11 (Go.Proofs.YtplfbjbbnjlnkaaM.S_C HO10_0.out) (Go.Proofs.YtplfbjbbnjlnkaaM.S_len HO10_0.out) (Go.Proofs.YtplfbjbbnjlnkaaM.R_C HO11_0.out) (Go.Proofs.YtplfbjbbnjlnkaaM.R_len HO11_0.out) HM8.out
      rw [Go.Proofs.YtplfbjbbnjlnkaaM.S_n HO10_0.out, Go.Proofs.YtplfbjbbnjlnkaaM.R_n HO11_0.out] at hcall
      refine goes_ Try.func34 (by kernel_rfl) rfl #[.slice A10_0 n10_0 c10_0, .agg #[.int .i64 t256, .int .i64 t257, .int .i64 t258, .slice A11_0 n11_0 c11_0, .int .i64 t262, .int .i64 t263, .bool t264]] (by rfl) rfl rfl (by (try simp only [List.map_toArray, List.map_cons, List.map_nil]); first | done | rfl) ?_
      refine hcall.mono ?_
      rintro e W12 ⟨v266, rfl, ho0, hb⟩
      refine ⟨_, rfl, ?_⟩
      clear hcall
      have Z12 := Aside0.mk hb.size
      have h_ := Kd.S_below HO10_0.out hb
      clear HO10_0
      have HO10_0 := Aside0.mk h_
      clear h_
      have h_ := Kd.R_below HO11_0.out hb
      clear HO11_0
      have HO11_0 := Aside0.mk h_
      clear h_
      obtain ⟨A12_0, n12_0, c12_0, rfl, hn_, hr_⟩ := Go.Proofs.YtplfbjbbnjlnkaaM.S_made ho0 HB.out.size
      clear hn_ ho0
      have HO12_0 := Aside0.mk hr_
      clear hr_
      have h_ := blk_below BK1.out hb
      clear BK1 c_BK1 z_BK1
      have BK1 := Aside0.mk h_
      have c_BK1 := blk_cell h_
      have z_BK1 := blk_frozen h_
      clear h_
      have hB_ := below_step HB.out hb
      clear HB hb
      have HB := Aside0.mk hB_
      clear hB_
      refine hK.out _ _ ⟨(blk_cell BK1.out 0).trans rfl, (blk_cell BK1.out 1).trans rfl, (blk_cell BK1.out 2).trans rfl, (blk_cell BK1.out 3).trans rfl, (blk_cell BK1.out 4).trans rfl, (blk_cell BK1.out 5).trans rfl, (blk_cell BK1.out 6).trans rfl⟩ (fun hHeld => ?_)
      clear hK K
      refine norm_ (a' := ?_) ?_ ?_
      rotate_left
      · show Act.put _ (some 32) _ = _
        simp only [Act.put, List.setIfInBounds_toArray, List.set_cons_zero, List.set_cons_succ, i64_w, i32_w]
        rfl
      refine pure_ (i := 5) (N := some 27) (v := ?_) (a' := ?_) #[true, true, true, true, true, true, false, false, false, false] rfl rfl (by kernel_rfl) (fun _ _ _ h => h) (Or.inl ⟨by rfl, ?_⟩) ?_ ?_
      rotate_left
      · intro w'
        go_simp
        with_reducible rfl
      rotate_left
      · simp only [Act.put, List.setIfInBounds_toArray, List.set_cons_zero, List.set_cons_succ, i64_w, i32_w]
        rfl
      refine pure_ (i := 6) (N := some 33) (v := ?_) (a' := ?_) #[true, true, true, true, true, true, true, false, false, false] rfl rfl (by kernel_rfl) (fun _ _ _ h => h) (Or.inl ⟨by rfl, ?_⟩) ?_ ?_
      rotate_left
      · intro w'
        go_simp
        with_reducible rfl
      rotate_left
      · simp only [Act.put, List.setIfInBounds_toArray, List.set_cons_zero, List.set_cons_succ, i64_w, i32_w]
        rfl
      refine pure_ (i := 7) (N := some 34) (v := ?_) (a' := ?_) #[true, true, true, true, true, true, true, true, false, false] rfl rfl (by kernel_rfl) (fun _ _ _ h => h) (Or.inl ⟨by rfl, ?_⟩) ?_ ?_
      rotate_left
      · intro w'
        go_simp
        with_reducible rfl
      rotate_left
      · simp only [Act.put, List.setIfInBounds_toArray, List.set_cons_zero, List.set_cons_succ, i64_w, i32_w]
        rfl
      refine pure_ (i := 8) (N := some 6) (v := ?_) (a' := ?_) #[true, true, true, true, true, true, true, true, true, false] rfl rfl (by kernel_rfl) (fun _ _ _ h => h) (Or.inl ⟨by rfl, ?_⟩) ?_ ?_
      rotate_left
      · intro w'
        go_simp
        with_reducible rfl
      rotate_left
      · simp only [Act.put, List.setIfInBounds_toArray, List.set_cons_zero, List.set_cons_succ, i64_w, i32_w]
        rfl
      refine pure_ (i := 9) (N := some 7) (v := ?_) (a' := ?_) #[true, true, true, true, true, true, true, true, true, true] rfl rfl (by kernel_rfl) (fun _ _ _ h => h) (Or.inl ⟨by rfl, ?_⟩) ?_ ?_
      rotate_left
      · intro w'
        go_simp
        with_reducible rfl
      rotate_left
      · simp only [Act.put, List.setIfInBounds_toArray, List.set_cons_zero, List.set_cons_succ, i64_w, i32_w]
        rfl
      refine done_ (by kernel_rfl) ?_
      clear hHeld
      have H := H'.out
      clear H'
      replace H := Option.bind_eq_some_iff.mp H
      obtain ⟨t269, hm, H⟩ := H
      try dsimp only at H
      have H' := Aside0.mk H
      clear H
      have hcall := laws_toGrantS.calls k _ _ l0 t269 W12 (Kd.C_below HR0.out HB.out) HC0.out hm
      clear hm
      go_wp2_with fail
      refine hcall.mono ?_
      rintro e W13 ⟨v270, rfl, ho0, hb⟩
      clear hcall
      have Z13 := Aside0.mk hb.size
      have h_ := Kd.S_below HO10_0.out hb
      clear HO10_0
      have HO10_0 := Aside0.mk h_
      clear h_
      have h_ := Kd.R_below HO11_0.out hb
      clear HO11_0
      have HO11_0 := Aside0.mk h_
      clear h_
      have h_ := Kd.S_below HO12_0.out hb
      clear HO12_0
      have HO12_0 := Aside0.mk h_
      clear h_
      obtain ⟨A13_0, n13_0, c13_0, rfl, hn_, hr_⟩ := Go.Proofs.YtplfbjbbnjlnkaaM.S_made ho0 HB.out.size
      clear hn_ ho0
      have HO13_0 := Aside0.mk hr_
      clear hr_
      have h_ := blk_below BK1.out hb
      clear BK1 c_BK1 z_BK1
      have BK1 := Aside0.mk h_
      have c_BK1 := blk_cell h_
      have z_BK1 := blk_frozen h_
      clear h_
      have hB_ := below_step HB.out hb
      clear HB hb
      have HB := Aside0.mk hB_
      clear hB_
      have H := H'.out
      clear H'
      replace H := Option.bind_eq_some_iff.mp H
      obtain ⟨⟨t272, t273, t274, t275, t278, t279, t280⟩, hm, H⟩ := H
      try dsimp only at H
      have H' := Aside0.mk H
      clear H
      have hcall := laws_toGrant.calls k a1_0 a1_1 a1_2 _ _ l1_3 a1_4 a1_5 a1_6 t272 t273 t274 t275 t278 t279 t280 W13 (Kd.C_below HR1_3.out HB.out) HC1_3.out hm
      clear hm
      go_wp2_with fail
      refine hcall.mono ?_
      rintro e W14 ⟨v276, rfl, ho0, hb⟩
      clear hcall
      have Z14 := Aside0.mk hb.size
      have h_ := Kd.S_below HO10_0.out hb
      clear HO10_0
      have HO10_0 := Aside0.mk h_
      clear h_
      have h_ := Kd.R_below HO11_0.out hb
      clear HO11_0
      have HO11_0 := Aside0.mk h_
      clear h_
      have h_ := Kd.S_below HO12_0.out hb
      clear HO12_0
      have HO12_0 := Aside0.mk h_
      clear h_
      have h_ := Kd.S_below HO13_0.out hb
      clear HO13_0
      have HO13_0 := Aside0.mk h_
      clear h_
      obtain ⟨A14_0, n14_0, c14_0, rfl, hn_, hr_⟩ := Go.Proofs.YtplfbjbbnjlnkaaM.R_made ho0 HB.out.size
      clear hn_ ho0
      have HO14_0 := Aside0.mk hr_
      clear hr_
      have h_ := blk_below BK1.out hb
      clear BK1 c_BK1 z_BK1
      have BK1 := Aside0.mk h_
      have c_BK1 := blk_cell h_
      have z_BK1 := blk_frozen h_
      clear h_
      have hB_ := below_step HB.out hb
      clear HB hb
      have HB := Aside0.mk hB_
      clear hB_
      have H := H'.out
      clear H'
      have H'' := Aside0.mk H
      clear H
      go_wp2_with (first | ((with_reducible refine gate_dst (N := 9) rfl ?_); refine box_event ?hg (N := 9) ?hd (cs := #[.int .i64 0, .int .i64 0, .int .i64 0, .slice none 0 0, .int .i64 0, .int .i64 0, .bool false]) (t := 51) ?hr ?_; (case hd => rfl); (case hg => rfl); (case hr => first | (go_simp; done) | (go_simp; rfl)); intro gb15 hg W15 hbox hb; have Z15 := Aside0.mk hb.size; have E15 := Aside0.mk (And.intro hg (blk_lt hbox)); have h_ := Kd.S_below HO10_0.out hb; clear HO10_0; have HO10_0 := Aside0.mk h_; clear h_; have h_ := Kd.R_below HO11_0.out hb; clear HO11_0; have HO11_0 := Aside0.mk h_; clear h_; have h_ := Kd.S_below HO12_0.out hb; clear HO12_0; have HO12_0 := Aside0.mk h_; clear h_; have h_ := Kd.S_below HO13_0.out hb; clear HO13_0; have HO13_0 := Aside0.mk h_; clear h_; have h_ := Kd.R_below HO14_0.out hb; clear HO14_0; have HO14_0 := Aside0.mk h_; clear h_; have h_ := blk_below BK1.out hb; clear BK1 c_BK1 z_BK1; have BK1 := Aside0.mk h_; have c_BK1 := blk_cell h_; have z_BK1 := blk_frozen h_; clear h_; have BK15 := Aside0.mk hbox; have c_BK15 := blk_cell hbox; have z_BK15 := blk_frozen hbox; have hB_ := below_step HB.out hb; clear HB hb hbox hg; have HB := Aside0.mk hB_; clear hB_) | ((with_reducible refine gate_store (t := 51) (p := 9) rfl ?_); refine store_event (t := 51) (p := 9) (v := ?vo_s16) (w1 := (((((((W15.setCell ⟨gb15, 0, none⟩ (.int .i64 t272)).setCell ⟨gb15, 1, none⟩ (.int .i64 t273)).setCell ⟨gb15, 2, none⟩ (.int .i64 t274)).setCell ⟨gb15, 3, none⟩ (.slice A14_0 n14_0 c14_0)).setCell ⟨gb15, 4, none⟩ (.int .i64 t278)).setCell ⟨gb15, 5, none⟩ (.int .i64 t279)).setCell ⟨gb15, 6, none⟩ (.bool t280))) ?hg ?ho ?hn ?hr ?_; (case ho => rfl); (case hg => rfl); (case hn => rfl); (case hr => first | (go_simp; done) | (go_simp; rfl)); intro W16 hw; have hk_ : Kept W15 W16 (fun k_ => k_ = gb15) := (by rw [hw]; exact Kept.setCell (Kept.setCell (Kept.setCell (Kept.setCell (Kept.setCell (Kept.setCell (Kept.setCell (Kept.refl W15 (fun k_ => k_ = gb15)) (.inl rfl) _) (.inl rfl) _) (.inl rfl) _) (.inl rfl) _) (.inl rfl) _) (.inl rfl) _) (.inl rfl) _); have hge_ : w.heap.size ≤ gb15 := (by have := E15.out.1; have := HB.out.size; have := Z1.out; have := Z2.out; have := Z4.out; have := Z9.out; have := Z10.out; have := Z11.out; have := Z12.out; have := Z13.out; have := Z14.out; have := Z15.out; omega); have Z16 := Aside0.mk hk_.1; have h_ := Kd.S_step HO10_0.out (fun k_ h1_ h2_ => hk_.2 k_ h2_ (fun h3_ => by obtain ⟨_, _⟩ := h1_; have := E15.out; have := Z1.out; have := Z2.out; have := Z4.out; have := Z9.out; have := Z10.out; have := Z11.out; have := Z12.out; have := Z13.out; have := Z14.out; have := Z15.out; omega)); clear HO10_0; have HO10_0 := Aside0.mk h_; clear h_; have h_ := Kd.R_step HO11_0.out (fun k_ h1_ h2_ => hk_.2 k_ h2_ (fun h3_ => by obtain ⟨_, _⟩ := h1_; have := E15.out; have := Z1.out; have := Z2.out; have := Z4.out; have := Z9.out; have := Z10.out; have := Z11.out; have := Z12.out; have := Z13.out; have := Z14.out; have := Z15.out; omega)); clear HO11_0; have HO11_0 := Aside0.mk h_; clear h_; have h_ := Kd.S_step HO12_0.out (fun k_ h1_ h2_ => hk_.2 k_ h2_ (fun h3_ => by obtain ⟨_, _⟩ := h1_; have := E15.out; have := Z1.out; have := Z2.out; have := Z4.out; have := Z9.out; have := Z10.out; have := Z11.out; have := Z12.out; have := Z13.out; have := Z14.out; have := Z15.out; omega)); clear HO12_0; have HO12_0 := Aside0.mk h_; clear h_; have h_ := Kd.S_step HO13_0.out (fun k_ h1_ h2_ => hk_.2 k_ h2_ (fun h3_ => by obtain ⟨_, _⟩ := h1_; have := E15.out; have := Z1.out; have := Z2.out; have := Z4.out; have := Z9.out; have := Z10.out; have := Z11.out; have := Z12.out; have := Z13.out; have := Z14.out; have := Z15.out; omega)); clear HO13_0; have HO13_0 := Aside0.mk h_; clear h_; have h_ := Kd.R_step HO14_0.out (fun k_ h1_ h2_ => hk_.2 k_ h2_ (fun h3_ => by obtain ⟨_, _⟩ := h1_; have := E15.out; have := Z1.out; have := Z2.out; have := Z4.out; have := Z9.out; have := Z10.out; have := Z11.out; have := Z12.out; have := Z13.out; have := Z14.out; have := Z15.out; omega)); clear HO14_0; have HO14_0 := Aside0.mk h_; clear h_; have h_ := blk_kept BK1.out hk_ (fun hp_ => by have := E1.out; have := E15.out; have := Z1.out; have := Z2.out; have := Z4.out; have := Z9.out; have := Z10.out; have := Z11.out; have := Z12.out; have := Z13.out; have := Z14.out; have := Z15.out; omega); clear BK1 c_BK1 z_BK1; have BK1 := Aside0.mk h_; have c_BK1 := blk_cell h_; have z_BK1 := blk_frozen h_; clear h_; have h_ := blk_set (blk_set (blk_set (blk_set (blk_set (blk_set (blk_set (BK15.out) 0 (.int .i64 t272)) 1 (.int .i64 t273)) 2 (.int .i64 t274)) 3 (.slice A14_0 n14_0 c14_0)) 4 (.int .i64 t278)) 5 (.int .i64 t279)) 6 (.bool t280); rw [← hw] at h_; simp only [List.setIfInBounds_toArray, List.set_cons_zero, List.set_cons_succ] at h_; clear BK15 c_BK15 z_BK15; have BK15 := Aside0.mk h_; have c_BK15 := blk_cell h_; have z_BK15 := blk_frozen h_; clear h_; have hB_ : Below w.heap.size w W16 := (by rw [hw]; exact below_set (below_set (below_set (below_set (below_set (below_set (below_set (HB.out) hge_) hge_) hge_) hge_) hge_) hge_) hge_); clear HB hw hk_ hge_; have HB := Aside0.mk hB_; clear hB_))
      have H := H''.out
      clear H''
      replace H := Option.bind_eq_some_iff.mp H
      obtain ⟨⟨t282, t285⟩, hm, H⟩ := H
      try dsimp only at H
      have H' := Aside0.mk H
      clear H
      have hcall := impl_AddGrant.calls k _ _ t269 t272 t273 t274 _ _ t275 t278 t279 t280 t282 t285 W16 (Go.Proofs.YtplfbjbbnjlnkaaM.S_C HO13_0.out) (Go.Proofs.YtplfbjbbnjlnkaaM.S_len HO13_0.out) (Go.Proofs.YtplfbjbbnjlnkaaM.R_C HO14_0.out) (Go.Proofs.YtplfbjbbnjlnkaaM.R_len HO14_0.out) hm
      rw [Go.Proofs.YtplfbjbbnjlnkaaM.S_n HO13_0.out, Go.Proofs.YtplfbjbbnjlnkaaM.R_n HO14_0.out] at hcall
      clear hm
      try go_wp2_with fail
      refine hcall.mono ?_
      rintro e W17 ⟨v283, rfl, ho0, hb⟩
      clear hcall
      have Z17 := Aside0.mk hb.size
      have h_ := Kd.S_below HO10_0.out hb
      clear HO10_0
      have HO10_0 := Aside0.mk h_
      clear h_
      have h_ := Kd.R_below HO11_0.out hb
      clear HO11_0
      have HO11_0 := Aside0.mk h_
      clear h_
      have h_ := Kd.S_below HO12_0.out hb
      clear HO12_0
      have HO12_0 := Aside0.mk h_
      clear h_
      have h_ := Kd.S_below HO13_0.out hb
      clear HO13_0
      have HO13_0 := Aside0.mk h_
      clear h_
      have h_ := Kd.R_below HO14_0.out hb
      clear HO14_0
      have HO14_0 := Aside0.mk h_
      clear h_
      obtain ⟨A17_0, n17_0, c17_0, rfl, hn_, hr_⟩ := Go.Proofs.YtplfbjbbnjlnkaaM.S_made ho0 HB.out.size
      clear hn_ ho0
      have HO17_0 := Aside0.mk hr_
      clear hr_
      have h_ := blk_below BK1.out hb
      clear BK1 c_BK1 z_BK1
      have BK1 := Aside0.mk h_
      have c_BK1 := blk_cell h_
      have z_BK1 := blk_frozen h_
      clear h_
      have h_ := blk_below BK15.out hb
      clear BK15 c_BK15 z_BK15
      have BK15 := Aside0.mk h_
      have c_BK15 := blk_cell h_
      have z_BK15 := blk_frozen h_
      clear h_
      have hB_ := below_step HB.out hb
      clear HB hb
      have HB := Aside0.mk hB_
      clear hB_
      have H := H'.out
      clear H'
      replace H := Option.bind_eq_some_iff.mp H
      obtain ⟨t286, hm, H⟩ := H
      try dsimp only at H
      have H' := Aside0.mk H
      clear H
      have hcall := laws_eqGrantS.calls k _ _ t282 _ _ t265 t286 W17 (Go.Proofs.YtplfbjbbnjlnkaaM.S_C HO17_0.out) (Go.Proofs.YtplfbjbbnjlnkaaM.S_len HO17_0.out) (Go.Proofs.YtplfbjbbnjlnkaaM.S_C HO12_0.out) (Go.Proofs.YtplfbjbbnjlnkaaM.S_len HO12_0.out) hm
      rw [Go.Proofs.YtplfbjbbnjlnkaaM.S_n HO17_0.out, Go.Proofs.YtplfbjbbnjlnkaaM.S_n HO12_0.out] at hcall
      clear hm
      go_wp2_with fail
      refine hcall.mono ?_
      rintro e W18 ⟨rfl, hb⟩
      clear hcall
      have Z18 := Aside0.mk hb.size
      have h_ := Kd.S_below HO10_0.out hb
      clear HO10_0
      have HO10_0 := Aside0.mk h_
      clear h_
      have h_ := Kd.R_below HO11_0.out hb
      clear HO11_0
      have HO11_0 := Aside0.mk h_
      clear h_
      have h_ := Kd.S_below HO12_0.out hb
      clear HO12_0
      have HO12_0 := Aside0.mk h_
      clear h_
      have h_ := Kd.S_below HO13_0.out hb
      clear HO13_0
      have HO13_0 := Aside0.mk h_
      clear h_
      have h_ := Kd.R_below HO14_0.out hb
      clear HO14_0
      have HO14_0 := Aside0.mk h_
      clear h_
      have h_ := Kd.S_below HO17_0.out hb
      clear HO17_0
      have HO17_0 := Aside0.mk h_
      clear h_
      have h_ := blk_below BK1.out hb
      clear BK1 c_BK1 z_BK1
      have BK1 := Aside0.mk h_
      have c_BK1 := blk_cell h_
      have z_BK1 := blk_frozen h_
      clear h_
      have h_ := blk_below BK15.out hb
      clear BK15 c_BK15 z_BK15
      have BK15 := Aside0.mk h_
      have c_BK15 := blk_cell h_
      have z_BK15 := blk_frozen h_
      clear h_
      have hB_ := below_step HB.out hb
      clear HB hb
      have HB := Aside0.mk hB_
      clear hB_
      have H := H'.out
      clear H'
      by_cases c19 : t286 = true
      · rw [if_pos c19] at H
        subst c19
        by_cases c20 : (t285 != t268) = true
        · rw [if_pos c20] at H
          have c20_1 : (t285 != t268) = true := by revert c20; cases t285 <;> cases t268 <;> decide
          have c20_2 : (!t285 == t268) = true := by revert c20; cases t285 <;> cases t268 <;> decide
          clear c20
          obtain rfl := Option.some.inj H
          clear H
          go_wp2
          go_ret
          exact ⟨rfl, HB.out⟩
        · rw [if_neg c20] at H
          have c20_1 : (t285 != t268) = false := by revert c20; cases t285 <;> cases t268 <;> decide
          have c20_2 : (!t285 == t268) = false := by revert c20; cases t285 <;> cases t268 <;> decide
          clear c20
          replace H := Option.bind_eq_some_iff.mp H
          obtain ⟨t287, hm, H⟩ := H
          try dsimp only at H
          have H' := Aside0.mk H
          clear H
          have hcall := laws_toGrantS.calls k _ _ l0 t287 W18 (Kd.C_below HR0.out HB.out) HC0.out hm
          clear hm
          go_wp2_with fail
          refine hcall.mono ?_
          rintro e W21 ⟨v288, rfl, ho0, hb⟩
          clear hcall
          have Z21 := Aside0.mk hb.size
          have h_ := Kd.S_below HO10_0.out hb
          clear HO10_0
          have HO10_0 := Aside0.mk h_
          clear h_
          have h_ := Kd.R_below HO11_0.out hb
          clear HO11_0
          have HO11_0 := Aside0.mk h_
          clear h_
          have h_ := Kd.S_below HO12_0.out hb
          clear HO12_0
          have HO12_0 := Aside0.mk h_
          clear h_
          have h_ := Kd.S_below HO13_0.out hb
          clear HO13_0
          have HO13_0 := Aside0.mk h_
          clear h_
          have h_ := Kd.R_below HO14_0.out hb
          clear HO14_0
          have HO14_0 := Aside0.mk h_
          clear h_
          have h_ := Kd.S_below HO17_0.out hb
          clear HO17_0
          have HO17_0 := Aside0.mk h_
          clear h_
          obtain ⟨A21_0, n21_0, c21_0, rfl, hn_, hr_⟩ := Go.Proofs.YtplfbjbbnjlnkaaM.S_made ho0 HB.out.size
          clear hn_ ho0
          have HO21_0 := Aside0.mk hr_
          clear hr_
          have h_ := blk_below BK1.out hb
          clear BK1 c_BK1 z_BK1
          have BK1 := Aside0.mk h_
          have c_BK1 := blk_cell h_
          have z_BK1 := blk_frozen h_
          clear h_
          have h_ := blk_below BK15.out hb
          clear BK15 c_BK15 z_BK15
          have BK15 := Aside0.mk h_
          have c_BK15 := blk_cell h_
          have z_BK15 := blk_frozen h_
          clear h_
          have hB_ := below_step HB.out hb
          clear HB hb
          have HB := Aside0.mk hB_
          clear hB_
          have H := H'.out
          clear H'
          replace H := Option.bind_eq_some_iff.mp H
          obtain ⟨t290, hm, H⟩ := H
          try dsimp only at H
          have H' := Aside0.mk H
          clear H
          have hcall := laws_eqGrantS.calls k _ _ t269 _ _ t287 t290 W21 (Go.Proofs.YtplfbjbbnjlnkaaM.S_C HO13_0.out) (Go.Proofs.YtplfbjbbnjlnkaaM.S_len HO13_0.out) (Go.Proofs.YtplfbjbbnjlnkaaM.S_C HO21_0.out) (Go.Proofs.YtplfbjbbnjlnkaaM.S_len HO21_0.out) hm
          rw [Go.Proofs.YtplfbjbbnjlnkaaM.S_n HO13_0.out, Go.Proofs.YtplfbjbbnjlnkaaM.S_n HO21_0.out] at hcall
          clear hm
          go_wp2_with fail
          refine hcall.mono ?_
          rintro e W22 ⟨rfl, hb⟩
          clear hcall
          have Z22 := Aside0.mk hb.size
          have h_ := Kd.S_below HO10_0.out hb
          clear HO10_0
          have HO10_0 := Aside0.mk h_
          clear h_
          have h_ := Kd.R_below HO11_0.out hb
          clear HO11_0
          have HO11_0 := Aside0.mk h_
          clear h_
          have h_ := Kd.S_below HO12_0.out hb
          clear HO12_0
          have HO12_0 := Aside0.mk h_
          clear h_
          have h_ := Kd.S_below HO13_0.out hb
          clear HO13_0
          have HO13_0 := Aside0.mk h_
          clear h_
          have h_ := Kd.R_below HO14_0.out hb
          clear HO14_0
          have HO14_0 := Aside0.mk h_
          clear h_
          have h_ := Kd.S_below HO17_0.out hb
          clear HO17_0
          have HO17_0 := Aside0.mk h_
          clear h_
          have h_ := Kd.S_below HO21_0.out hb
          clear HO21_0
          have HO21_0 := Aside0.mk h_
          clear h_
          have h_ := blk_below BK1.out hb
          clear BK1 c_BK1 z_BK1
          have BK1 := Aside0.mk h_
          have c_BK1 := blk_cell h_
          have z_BK1 := blk_frozen h_
          clear h_
          have h_ := blk_below BK15.out hb
          clear BK15 c_BK15 z_BK15
          have BK15 := Aside0.mk h_
          have c_BK15 := blk_cell h_
          have z_BK15 := blk_frozen h_
          clear h_
          have hB_ := below_step HB.out hb
          clear HB hb
          have HB := Aside0.mk hB_
          clear hB_
          have H := H'.out
          clear H'
          by_cases c23 : t290 = true
          · rw [if_pos c23] at H
            subst c23
            replace H := Option.bind_eq_some_iff.mp H
            obtain ⟨⟨t291, t292, t293, t294, t297, t298, t299⟩, hm, H⟩ := H
            try dsimp only at H
            have HM24 := Aside0.mk hm
            clear hm
            replace H := Option.bind_eq_some_iff.mp H
            obtain ⟨t300, hm, H⟩ := H
            try dsimp only at H
            have HM25 := Aside0.mk hm
            clear hm
            have H' := Aside0.mk H
            clear H
            try go_wp2
            have h_ := Kd.S_drew HO10_0.out
            clear HO10_0
            have HO10_0 := Aside0.mk h_
            clear h_
            have h_ := Kd.R_drew HO11_0.out
            clear HO11_0
            have HO11_0 := Aside0.mk h_
            clear h_
            have h_ := Kd.S_drew HO12_0.out
            clear HO12_0
            have HO12_0 := Aside0.mk h_
            clear h_
            have h_ := Kd.S_drew HO13_0.out
            clear HO13_0
            have HO13_0 := Aside0.mk h_
            clear h_
            have h_ := Kd.R_drew HO14_0.out
            clear HO14_0
            have HO14_0 := Aside0.mk h_
            clear h_
            have h_ := Kd.S_drew HO17_0.out
            clear HO17_0
            have HO17_0 := Aside0.mk h_
            clear h_
            have h_ := Kd.S_drew HO21_0.out
            clear HO21_0
            have HO21_0 := Aside0.mk h_
            clear h_
            have h_ := blk_drew BK1.out
            clear BK1 c_BK1 z_BK1
            have BK1 := Aside0.mk h_
            clear h_
            have h_ := blk_drew BK15.out
            clear BK15 c_BK15 z_BK15
            have BK15 := Aside0.mk h_
            clear h_
            have hB_ := below_drew1 HB.out
            clear HB
            have HB := Aside0.mk hB_
            clear hB_
            have Z26 : Aside0 (W22.heap.size ≤ W22.drew.heap.size) := ⟨Nat.le_refl _⟩
            refine start_ (n := 5) (S := fun w' => w'.cell? ⟨gb1, 0, none⟩ = some (.int .i64 a1_0) ∧ w'.cell? ⟨gb1, 1, none⟩ = some (.int .i64 a1_1) ∧ w'.cell? ⟨gb1, 2, none⟩ = some (.int .i64 a1_2) ∧ w'.cell? ⟨gb1, 3, none⟩ = some (.slice A1_3 l1_3.length c1_3) ∧ w'.cell? ⟨gb1, 4, none⟩ = some (.int .i64 a1_4) ∧ w'.cell? ⟨gb1, 5, none⟩ = some (.int .i64 a1_5) ∧ w'.cell? ⟨gb1, 6, none⟩ = some (.bool a1_6) ∧ w'.cell? ⟨gb15, 0, none⟩ = some (.int .i64 t272) ∧ w'.cell? ⟨gb15, 1, none⟩ = some (.int .i64 t273) ∧ w'.cell? ⟨gb15, 2, none⟩ = some (.int .i64 t274) ∧ w'.cell? ⟨gb15, 3, none⟩ = some (.slice A14_0 n14_0 c14_0) ∧ w'.cell? ⟨gb15, 4, none⟩ = some (.int .i64 t278) ∧ w'.cell? ⟨gb15, 5, none⟩ = some (.int .i64 t279) ∧ w'.cell? ⟨gb15, 6, none⟩ = some (.bool t280)) (ds := []) #[false, false, false, false, false] (by kernel_rfl) rfl rfl ⟨(blk_cell BK1.out 0).trans rfl, (blk_cell BK1.out 1).trans rfl, (blk_cell BK1.out 2).trans rfl, (blk_cell BK1.out 3).trans rfl, (blk_cell BK1.out 4).trans rfl, (blk_cell BK1.out 5).trans rfl, (blk_cell BK1.out 6).trans rfl, (blk_cell BK15.out 0).trans rfl, (blk_cell BK15.out 1).trans rfl, (blk_cell BK15.out 2).trans rfl, (blk_cell BK15.out 3).trans rfl, (blk_cell BK15.out 4).trans rfl, (blk_cell BK15.out 5).trans rfl, (blk_cell BK15.out 6).trans rfl⟩ (fun hHeld => ?_)
            generalize W22.drew = W26 at Z26 HB BK1 BK15 HO10_0 HO11_0 HO12_0 HO13_0 HO14_0 HO17_0 HO21_0 hHeld ⊢
            have c_BK1 := blk_cell BK1.out
            have z_BK1 := blk_frozen BK1.out
            have c_BK15 := blk_cell BK15.out
            have z_BK15 := blk_frozen BK15.out
            refine take_ (i := 0) (N := some 59) (v := ?_) (a' := ?_) #[true, false, false, false, false] rfl rfl (by kernel_rfl) (fun _ _ _ h => h) (Or.inl ⟨by rfl, ?_⟩) hHeld ?_ ?_
            rotate_left
            · rintro w' ⟨s0, s1, s2, s3, s4, s5, s6, s7, s8, s9, s10, s11, s12, s13⟩
              go_simp
              with_reducible rfl
            rotate_left
            · simp only [Act.put, List.setIfInBounds_toArray, List.set_cons_zero, List.set_cons_succ, i64_w, i32_w]
              rfl
            refine take_ (i := 1) (N := some 60) (v := ?_) (a' := ?_) #[true, true, false, false, false] rfl rfl (by kernel_rfl) (fun _ _ _ h => h) (Or.inl ⟨by rfl, ?_⟩) hHeld ?_ ?_
            rotate_left
            · rintro w' ⟨s0, s1, s2, s3, s4, s5, s6, s7, s8, s9, s10, s11, s12, s13⟩
              go_simp
              with_reducible rfl
            rotate_left
            · simp only [Act.put, List.setIfInBounds_toArray, List.set_cons_zero, List.set_cons_succ, i64_w, i32_w]
              rfl
            refine one_ (i := 2) (N := some 61) #[true, true, true, false, false] rfl rfl (by kernel_rfl) (by decide) (fun K hK => ?_)
            have hcall := laws_toGrant.calls k a1_0 a1_1 a1_2 _ _ l1_3 a1_4 a1_5 a1_6 t291 t292 t293 t294 t297 t298 t299 W26 (Kd.C_below HR1_3.out HB.out) HC1_3.out HM24.out
            refine goes_ Try.func35 (by kernel_rfl) rfl #[.agg #[.int .i64 a1_0, .int .i64 a1_1, .int .i64 a1_2, .slice A1_3 l1_3.length c1_3, .int .i64 a1_4, .int .i64 a1_5, .bool a1_6]] (by rfl) rfl rfl (by (try simp only [List.map_toArray, List.map_cons, List.map_nil]); first | done | rfl) ?_
            refine hcall.mono ?_
            rintro e W27 ⟨v295, rfl, ho0, hb⟩
            refine ⟨_, rfl, ?_⟩
            clear hcall
            have Z27 := Aside0.mk hb.size
            have h_ := Kd.S_below HO10_0.out hb
            clear HO10_0
            have HO10_0 := Aside0.mk h_
            clear h_
            have h_ := Kd.R_below HO11_0.out hb
            clear HO11_0
            have HO11_0 := Aside0.mk h_
            clear h_
            have h_ := Kd.S_below HO12_0.out hb
            clear HO12_0
            have HO12_0 := Aside0.mk h_
            clear h_
            have h_ := Kd.S_below HO13_0.out hb
            clear HO13_0
            have HO13_0 := Aside0.mk h_
            clear h_
            have h_ := Kd.R_below HO14_0.out hb
            clear HO14_0
            have HO14_0 := Aside0.mk h_
            clear h_
            have h_ := Kd.S_below HO17_0.out hb
            clear HO17_0
            have HO17_0 := Aside0.mk h_
            clear h_
            have h_ := Kd.S_below HO21_0.out hb
            clear HO21_0
            have HO21_0 := Aside0.mk h_
            clear h_
            obtain ⟨A27_0, n27_0, c27_0, rfl, hn_, hr_⟩ := Go.Proofs.YtplfbjbbnjlnkaaM.R_made ho0 HB.out.size
            clear hn_ ho0
            have HO27_0 := Aside0.mk hr_
            clear hr_
            have h_ := blk_below BK1.out hb
            clear BK1 c_BK1 z_BK1
            have BK1 := Aside0.mk h_
            have c_BK1 := blk_cell h_
            have z_BK1 := blk_frozen h_
            clear h_
            have h_ := blk_below BK15.out hb
            clear BK15 c_BK15 z_BK15
            have BK15 := Aside0.mk h_
            have c_BK15 := blk_cell h_
            have z_BK15 := blk_frozen h_
            clear h_
            have hB_ := below_step HB.out hb
            clear HB hb
            have HB := Aside0.mk hB_
            clear hB_
            refine hK.out _ _ ⟨(blk_cell BK1.out 0).trans rfl, (blk_cell BK1.out 1).trans rfl, (blk_cell BK1.out 2).trans rfl, (blk_cell BK1.out 3).trans rfl, (blk_cell BK1.out 4).trans rfl, (blk_cell BK1.out 5).trans rfl, (blk_cell BK1.out 6).trans rfl, (blk_cell BK15.out 0).trans rfl, (blk_cell BK15.out 1).trans rfl, (blk_cell BK15.out 2).trans rfl, (blk_cell BK15.out 3).trans rfl, (blk_cell BK15.out 4).trans rfl, (blk_cell BK15.out 5).trans rfl, (blk_cell BK15.out 6).trans rfl⟩ (fun hHeld => ?_)
            clear hK K
            refine norm_ (a' := ?_) ?_ ?_
            rotate_left
            · show Act.put _ (some 61) _ = _
              simp only [Act.put, List.setIfInBounds_toArray, List.set_cons_zero, List.set_cons_succ, i64_w, i32_w]
              rfl
            refine one_ (i := 3) (N := some 62) #[true, true, true, true, false] rfl rfl (by kernel_rfl) (by decide) (fun K hK => ?_)
            have hcall := laws_eqGrant.calls k t272 t273 t274 _ _ t275 t278 t279 t280 t291 t292 t293 _ _ t294 t297 t298 t299 t300 W27 (Go.Proofs.YtplfbjbbnjlnkaaM.R_C HO14_0.out) (Go.Proofs.YtplfbjbbnjlnkaaM.R_len HO14_0.out) (Go.Proofs.YtplfbjbbnjlnkaaM.R_C HO27_0.out) (Go.Proofs.YtplfbjbbnjlnkaaM.R_len HO27_0.out) HM25.out
            rw [Go.Proofs.YtplfbjbbnjlnkaaM.R_n HO14_0.out, Go.Proofs.YtplfbjbbnjlnkaaM.R_n HO27_0.out] at hcall
            refine goes_ Try.func37 (by kernel_rfl) rfl #[.agg #[.int .i64 t272, .int .i64 t273, .int .i64 t274, .slice A14_0 n14_0 c14_0, .int .i64 t278, .int .i64 t279, .bool t280], .agg #[.int .i64 t291, .int .i64 t292, .int .i64 t293, .slice A27_0 n27_0 c27_0, .int .i64 t297, .int .i64 t298, .bool t299]] (by rfl) rfl rfl (by (try simp only [List.map_toArray, List.map_cons, List.map_nil]); first | done | rfl) ?_
            refine hcall.mono ?_
            rintro e W28 ⟨rfl, hb⟩
            refine ⟨_, rfl, ?_⟩
            clear hcall
            have Z28 := Aside0.mk hb.size
            have h_ := Kd.S_below HO10_0.out hb
            clear HO10_0
            have HO10_0 := Aside0.mk h_
            clear h_
            have h_ := Kd.R_below HO11_0.out hb
            clear HO11_0
            have HO11_0 := Aside0.mk h_
            clear h_
            have h_ := Kd.S_below HO12_0.out hb
            clear HO12_0
            have HO12_0 := Aside0.mk h_
            clear h_
            have h_ := Kd.S_below HO13_0.out hb
            clear HO13_0
            have HO13_0 := Aside0.mk h_
            clear h_
            have h_ := Kd.R_below HO14_0.out hb
            clear HO14_0
            have HO14_0 := Aside0.mk h_
            clear h_
            have h_ := Kd.S_below HO17_0.out hb
            clear HO17_0
            have HO17_0 := Aside0.mk h_
            clear h_
            have h_ := Kd.S_below HO21_0.out hb
            clear HO21_0
            have HO21_0 := Aside0.mk h_
            clear h_
            have h_ := Kd.R_below HO27_0.out hb
            clear HO27_0
            have HO27_0 := Aside0.mk h_
            clear h_
            have h_ := blk_below BK1.out hb
            clear BK1 c_BK1 z_BK1
            have BK1 := Aside0.mk h_
            have c_BK1 := blk_cell h_
            have z_BK1 := blk_frozen h_
            clear h_
            have h_ := blk_below BK15.out hb
            clear BK15 c_BK15 z_BK15
            have BK15 := Aside0.mk h_
            have c_BK15 := blk_cell h_
            have z_BK15 := blk_frozen h_
            clear h_
            have hB_ := below_step HB.out hb
            clear HB hb
            have HB := Aside0.mk hB_
            clear hB_
            refine hK.out _ _ ⟨(blk_cell BK1.out 0).trans rfl, (blk_cell BK1.out 1).trans rfl, (blk_cell BK1.out 2).trans rfl, (blk_cell BK1.out 3).trans rfl, (blk_cell BK1.out 4).trans rfl, (blk_cell BK1.out 5).trans rfl, (blk_cell BK1.out 6).trans rfl, (blk_cell BK15.out 0).trans rfl, (blk_cell BK15.out 1).trans rfl, (blk_cell BK15.out 2).trans rfl, (blk_cell BK15.out 3).trans rfl, (blk_cell BK15.out 4).trans rfl, (blk_cell BK15.out 5).trans rfl, (blk_cell BK15.out 6).trans rfl⟩ (fun hHeld => ?_)
            clear hK K
            refine norm_ (a' := ?_) ?_ ?_
            rotate_left
            · show Act.put _ (some 62) _ = _
              simp only [Act.put, List.setIfInBounds_toArray, List.set_cons_zero, List.set_cons_succ, i64_w, i32_w]
              rfl
            refine pure_ (i := 4) (N := some 63) (v := ?_) (a' := ?_) #[true, true, true, true, true] rfl rfl (by kernel_rfl) (fun _ _ _ h => h) (Or.inl ⟨by rfl, ?_⟩) ?_ ?_
            rotate_left
            · intro w'
              go_simp
              with_reducible rfl
            rotate_left
            · simp only [Act.put, List.setIfInBounds_toArray, List.set_cons_zero, List.set_cons_succ, i64_w, i32_w]
              rfl
            refine done_ (by kernel_rfl) ?_
            clear hHeld
            have H := H'.out
            clear H'
            by_cases c29 : t300 = true
            · rw [if_pos c29] at H
              subst c29
              replace H := Option.bind_eq_some_iff.mp H
              obtain ⟨⟨t301, t302⟩, hm, H⟩ := H
              try dsimp only at H
              have H' := Aside0.mk H
              clear H
              have hcall := laws_markGrantS.calls k (fun k_ => W12.heap.size ≤ k_ ∧ k_ < W13.heap.size) A13_0 n13_0 c13_0 t269 1 t301 t302 w W28 HB.out HO13_0.out hm
              clear hm
              go_wp2_with fail
              refine hcall.mono ?_
              rintro e W30 ⟨rfl, ho, hb, hkp⟩
              clear hcall
              clear HB
              have HB := Aside0.mk hb
              have Z30 := Aside0.mk hkp.1
              have HO30 := Aside0.mk (ho)
              clear ho HO13_0
              have h_ := Go.Proofs.YtplfbjbbnjlnkaaM.S_else HO10_0.out hkp (by have := Z1.out; have := Z2.out; have := Z4.out; have := Z9.out; have := Z10.out; have := Z11.out; have := Z12.out; have := Z13.out; have := Z14.out; have := Z15.out; have := Z16.out; have := Z17.out; have := Z18.out; have := Z21.out; have := Z22.out; have := Z26.out; have := Z27.out; have := Z28.out; omega)
              clear HO10_0
              have HO10_0 := Aside0.mk h_
              clear h_
              have h_ := Go.Proofs.YtplfbjbbnjlnkaaM.R_else HO11_0.out hkp (by have := Z1.out; have := Z2.out; have := Z4.out; have := Z9.out; have := Z10.out; have := Z11.out; have := Z12.out; have := Z13.out; have := Z14.out; have := Z15.out; have := Z16.out; have := Z17.out; have := Z18.out; have := Z21.out; have := Z22.out; have := Z26.out; have := Z27.out; have := Z28.out; omega)
              clear HO11_0
              have HO11_0 := Aside0.mk h_
              clear h_
              have h_ := Go.Proofs.YtplfbjbbnjlnkaaM.S_else HO12_0.out hkp (by have := Z1.out; have := Z2.out; have := Z4.out; have := Z9.out; have := Z10.out; have := Z11.out; have := Z12.out; have := Z13.out; have := Z14.out; have := Z15.out; have := Z16.out; have := Z17.out; have := Z18.out; have := Z21.out; have := Z22.out; have := Z26.out; have := Z27.out; have := Z28.out; omega)
              clear HO12_0
              have HO12_0 := Aside0.mk h_
              clear h_
              have h_ := Go.Proofs.YtplfbjbbnjlnkaaM.R_else HO14_0.out hkp (by have := Z1.out; have := Z2.out; have := Z4.out; have := Z9.out; have := Z10.out; have := Z11.out; have := Z12.out; have := Z13.out; have := Z14.out; have := Z15.out; have := Z16.out; have := Z17.out; have := Z18.out; have := Z21.out; have := Z22.out; have := Z26.out; have := Z27.out; have := Z28.out; omega)
              clear HO14_0
              have HO14_0 := Aside0.mk h_
              clear h_
              have h_ := Go.Proofs.YtplfbjbbnjlnkaaM.S_else HO17_0.out hkp (by have := Z1.out; have := Z2.out; have := Z4.out; have := Z9.out; have := Z10.out; have := Z11.out; have := Z12.out; have := Z13.out; have := Z14.out; have := Z15.out; have := Z16.out; have := Z17.out; have := Z18.out; have := Z21.out; have := Z22.out; have := Z26.out; have := Z27.out; have := Z28.out; omega)
              clear HO17_0
              have HO17_0 := Aside0.mk h_
              clear h_
              have h_ := Go.Proofs.YtplfbjbbnjlnkaaM.S_else HO21_0.out hkp (by have := Z1.out; have := Z2.out; have := Z4.out; have := Z9.out; have := Z10.out; have := Z11.out; have := Z12.out; have := Z13.out; have := Z14.out; have := Z15.out; have := Z16.out; have := Z17.out; have := Z18.out; have := Z21.out; have := Z22.out; have := Z26.out; have := Z27.out; have := Z28.out; omega)
              clear HO21_0
              have HO21_0 := Aside0.mk h_
              clear h_
              have h_ := Go.Proofs.YtplfbjbbnjlnkaaM.R_else HO27_0.out hkp (by have := Z1.out; have := Z2.out; have := Z4.out; have := Z9.out; have := Z10.out; have := Z11.out; have := Z12.out; have := Z13.out; have := Z14.out; have := Z15.out; have := Z16.out; have := Z17.out; have := Z18.out; have := Z21.out; have := Z22.out; have := Z26.out; have := Z27.out; have := Z28.out; omega)
              clear HO27_0
              have HO27_0 := Aside0.mk h_
              clear h_
              have h_ := blk_kept BK1.out hkp (fun hp_ => by have := E1.out; have := Z1.out; have := Z2.out; have := Z4.out; have := Z9.out; have := Z10.out; have := Z11.out; have := Z12.out; have := Z13.out; have := Z14.out; have := Z15.out; have := Z16.out; have := Z17.out; have := Z18.out; have := Z21.out; have := Z22.out; have := Z26.out; have := Z27.out; have := Z28.out; have := Z30.out; obtain ⟨_, _⟩ := hp_; omega)
              clear BK1 c_BK1 z_BK1
              have BK1 := Aside0.mk h_
              have c_BK1 := blk_cell h_
              have z_BK1 := blk_frozen h_
              clear h_
              have h_ := blk_kept BK15.out hkp (fun hp_ => by have := E15.out; have := Z1.out; have := Z2.out; have := Z4.out; have := Z9.out; have := Z10.out; have := Z11.out; have := Z12.out; have := Z13.out; have := Z14.out; have := Z15.out; have := Z16.out; have := Z17.out; have := Z18.out; have := Z21.out; have := Z22.out; have := Z26.out; have := Z27.out; have := Z28.out; have := Z30.out; obtain ⟨_, _⟩ := hp_; omega)
              clear BK15 c_BK15 z_BK15
              have BK15 := Aside0.mk h_
              have c_BK15 := blk_cell h_
              have z_BK15 := blk_frozen h_
              clear h_
              clear hkp hb
              have H := H'.out
              clear H'
              replace H := Option.bind_eq_some_iff.mp H
              obtain ⟨⟨t303, t304⟩, hm, H⟩ := H
              try dsimp only at H
              have H' := Aside0.mk H
              clear H
              have hcall := laws_markGrant.calls k t272 t273 t274 (fun k_ => W13.heap.size ≤ k_ ∧ k_ < W14.heap.size) (.slice A14_0 n14_0 c14_0) t275 t278 t279 t280 t301 t303 t304 w W30 HB.out HO14_0.out hm
              clear hm
              go_wp2_with fail
              refine hcall.mono ?_
              rintro e W31 ⟨rfl, ho, hb, hkp⟩
              clear hcall
              clear HB
              have HB := Aside0.mk hb
              have Z31 := Aside0.mk hkp.1
              have HO31 := Aside0.mk (Kd.R_reok rfl ho (fun k_ e_ => HO14_0.out.1 k_ e_))
              clear ho HO14_0
              have h_ := Go.Proofs.YtplfbjbbnjlnkaaM.S_else HO10_0.out hkp (by have := Z1.out; have := Z2.out; have := Z4.out; have := Z9.out; have := Z10.out; have := Z11.out; have := Z12.out; have := Z13.out; have := Z14.out; have := Z15.out; have := Z16.out; have := Z17.out; have := Z18.out; have := Z21.out; have := Z22.out; have := Z26.out; have := Z27.out; have := Z28.out; have := Z30.out; omega)
              clear HO10_0
              have HO10_0 := Aside0.mk h_
              clear h_
              have h_ := Go.Proofs.YtplfbjbbnjlnkaaM.R_else HO11_0.out hkp (by have := Z1.out; have := Z2.out; have := Z4.out; have := Z9.out; have := Z10.out; have := Z11.out; have := Z12.out; have := Z13.out; have := Z14.out; have := Z15.out; have := Z16.out; have := Z17.out; have := Z18.out; have := Z21.out; have := Z22.out; have := Z26.out; have := Z27.out; have := Z28.out; have := Z30.out; omega)
              clear HO11_0
              have HO11_0 := Aside0.mk h_
              clear h_
              have h_ := Go.Proofs.YtplfbjbbnjlnkaaM.S_else HO12_0.out hkp (by have := Z1.out; have := Z2.out; have := Z4.out; have := Z9.out; have := Z10.out; have := Z11.out; have := Z12.out; have := Z13.out; have := Z14.out; have := Z15.out; have := Z16.out; have := Z17.out; have := Z18.out; have := Z21.out; have := Z22.out; have := Z26.out; have := Z27.out; have := Z28.out; have := Z30.out; omega)
              clear HO12_0
              have HO12_0 := Aside0.mk h_
              clear h_
              have h_ := Go.Proofs.YtplfbjbbnjlnkaaM.S_else HO30.out hkp (by have := Z1.out; have := Z2.out; have := Z4.out; have := Z9.out; have := Z10.out; have := Z11.out; have := Z12.out; have := Z13.out; have := Z14.out; have := Z15.out; have := Z16.out; have := Z17.out; have := Z18.out; have := Z21.out; have := Z22.out; have := Z26.out; have := Z27.out; have := Z28.out; have := Z30.out; omega)
              clear HO30
              have HO30 := Aside0.mk h_
              clear h_
              have h_ := Go.Proofs.YtplfbjbbnjlnkaaM.S_else HO17_0.out hkp (by have := Z1.out; have := Z2.out; have := Z4.out; have := Z9.out; have := Z10.out; have := Z11.out; have := Z12.out; have := Z13.out; have := Z14.out; have := Z15.out; have := Z16.out; have := Z17.out; have := Z18.out; have := Z21.out; have := Z22.out; have := Z26.out; have := Z27.out; have := Z28.out; have := Z30.out; omega)
              clear HO17_0
              have HO17_0 := Aside0.mk h_
              clear h_
              have h_ := Go.Proofs.YtplfbjbbnjlnkaaM.S_else HO21_0.out hkp (by have := Z1.out; have := Z2.out; have := Z4.out; have := Z9.out; have := Z10.out; have := Z11.out; have := Z12.out; have := Z13.out; have := Z14.out; have := Z15.out; have := Z16.out; have := Z17.out; have := Z18.out; have := Z21.out; have := Z22.out; have := Z26.out; have := Z27.out; have := Z28.out; have := Z30.out; omega)
              clear HO21_0
              have HO21_0 := Aside0.mk h_
              clear h_
              have h_ := Go.Proofs.YtplfbjbbnjlnkaaM.R_else HO27_0.out hkp (by have := Z1.out; have := Z2.out; have := Z4.out; have := Z9.out; have := Z10.out; have := Z11.out; have := Z12.out; have := Z13.out; have := Z14.out; have := Z15.out; have := Z16.out; have := Z17.out; have := Z18.out; have := Z21.out; have := Z22.out; have := Z26.out; have := Z27.out; have := Z28.out; have := Z30.out; omega)
              clear HO27_0
              have HO27_0 := Aside0.mk h_
              clear h_
              have h_ := blk_kept BK1.out hkp (fun hp_ => by have := E1.out; have := Z1.out; have := Z2.out; have := Z4.out; have := Z9.out; have := Z10.out; have := Z11.out; have := Z12.out; have := Z13.out; have := Z14.out; have := Z15.out; have := Z16.out; have := Z17.out; have := Z18.out; have := Z21.out; have := Z22.out; have := Z26.out; have := Z27.out; have := Z28.out; have := Z30.out; have := Z31.out; obtain ⟨_, _⟩ := hp_; omega)
              clear BK1 c_BK1 z_BK1
              have BK1 := Aside0.mk h_
              have c_BK1 := blk_cell h_
              have z_BK1 := blk_frozen h_
              clear h_
              have h_ := blk_kept BK15.out hkp (fun hp_ => by have := E15.out; have := Z1.out; have := Z2.out; have := Z4.out; have := Z9.out; have := Z10.out; have := Z11.out; have := Z12.out; have := Z13.out; have := Z14.out; have := Z15.out; have := Z16.out; have := Z17.out; have := Z18.out; have := Z21.out; have := Z22.out; have := Z26.out; have := Z27.out; have := Z28.out; have := Z30.out; have := Z31.out; obtain ⟨_, _⟩ := hp_; omega)
              clear BK15 c_BK15 z_BK15
              have BK15 := Aside0.mk h_
              have c_BK15 := blk_cell h_
              have z_BK15 := blk_frozen h_
              clear h_
              clear hkp hb
              have H := H'.out
              clear H'
              by_cases c32 : t303 < 0
              · rw [if_pos c32] at H
                have c32_0 : decide (t303 < 0) = true := decide_eq_true c32
                clear c32
                obtain rfl := Option.some.inj H
                clear H
                go_wp2
                go_ret
                exact ⟨rfl, HB.out⟩
              · rw [if_neg c32] at H
                have c32_0 : decide (t303 < 0) = false := decide_eq_false c32
                clear c32
                replace H := Option.bind_eq_some_iff.mp H
                obtain ⟨t305, hm, H⟩ := H
                try dsimp only at H
                have H' := Aside0.mk H
                clear H
                have hcall := laws_eqGrantS.calls k _ _ t282 _ _ t265 t305 W31 (Go.Proofs.YtplfbjbbnjlnkaaM.S_C HO17_0.out) (Go.Proofs.YtplfbjbbnjlnkaaM.S_len HO17_0.out) (Go.Proofs.YtplfbjbbnjlnkaaM.S_C HO12_0.out) (Go.Proofs.YtplfbjbbnjlnkaaM.S_len HO12_0.out) hm
                rw [Go.Proofs.YtplfbjbbnjlnkaaM.S_n HO17_0.out, Go.Proofs.YtplfbjbbnjlnkaaM.S_n HO12_0.out] at hcall
                clear hm
                go_wp2_with fail
                refine hcall.mono ?_
                rintro e W33 ⟨rfl, hb⟩
                clear hcall
                have Z33 := Aside0.mk hb.size
                have h_ := Kd.S_below HO10_0.out hb
                clear HO10_0
                have HO10_0 := Aside0.mk h_
                clear h_
                have h_ := Kd.R_below HO11_0.out hb
                clear HO11_0
                have HO11_0 := Aside0.mk h_
                clear h_
                have h_ := Kd.S_below HO12_0.out hb
                clear HO12_0
                have HO12_0 := Aside0.mk h_
                clear h_
                have h_ := Kd.S_below HO30.out hb
                clear HO30
                have HO30 := Aside0.mk h_
                clear h_
                have h_ := Kd.R_below HO31.out hb
                clear HO31
                have HO31 := Aside0.mk h_
                clear h_
                have h_ := Kd.S_below HO17_0.out hb
                clear HO17_0
                have HO17_0 := Aside0.mk h_
                clear h_
                have h_ := Kd.S_below HO21_0.out hb
                clear HO21_0
                have HO21_0 := Aside0.mk h_
                clear h_
                have h_ := Kd.R_below HO27_0.out hb
                clear HO27_0
                have HO27_0 := Aside0.mk h_
                clear h_
                have h_ := blk_below BK1.out hb
                clear BK1 c_BK1 z_BK1
                have BK1 := Aside0.mk h_
                have c_BK1 := blk_cell h_
                have z_BK1 := blk_frozen h_
                clear h_
                have h_ := blk_below BK15.out hb
                clear BK15 c_BK15 z_BK15
                have BK15 := Aside0.mk h_
                have c_BK15 := blk_cell h_
                have z_BK15 := blk_frozen h_
                clear h_
                have hB_ := below_step HB.out hb
                clear HB hb
                have HB := Aside0.mk hB_
                clear hB_
                have H := H'.out
                clear H'
                by_cases c34 : t305 = true
                · rw [if_pos c34] at H
                  subst c34
                  replace H := Option.bind_eq_some_iff.mp H
                  obtain ⟨⟨t306, t307⟩, hm, H⟩ := H
                  try dsimp only at H
                  have H' := Aside0.mk H
                  clear H
                  have hcall := laws_markGrantS.calls k (fun k_ => W16.heap.size ≤ k_ ∧ k_ < W17.heap.size) A17_0 n17_0 c17_0 t282 1 t306 t307 w W33 HB.out HO17_0.out hm
                  clear hm
                  go_wp2_with fail
                  refine hcall.mono ?_
                  rintro e W35 ⟨rfl, ho, hb, hkp⟩
                  clear hcall
                  clear HB
                  have HB := Aside0.mk hb
                  have Z35 := Aside0.mk hkp.1
                  have HO35 := Aside0.mk (ho)
                  clear ho HO17_0
                  have h_ := Go.Proofs.YtplfbjbbnjlnkaaM.S_else HO10_0.out hkp (by have := Z1.out; have := Z2.out; have := Z4.out; have := Z9.out; have := Z10.out; have := Z11.out; have := Z12.out; have := Z13.out; have := Z14.out; have := Z15.out; have := Z16.out; have := Z17.out; have := Z18.out; have := Z21.out; have := Z22.out; have := Z26.out; have := Z27.out; have := Z28.out; have := Z30.out; have := Z31.out; have := Z33.out; omega)
                  clear HO10_0
                  have HO10_0 := Aside0.mk h_
                  clear h_
                  have h_ := Go.Proofs.YtplfbjbbnjlnkaaM.R_else HO11_0.out hkp (by have := Z1.out; have := Z2.out; have := Z4.out; have := Z9.out; have := Z10.out; have := Z11.out; have := Z12.out; have := Z13.out; have := Z14.out; have := Z15.out; have := Z16.out; have := Z17.out; have := Z18.out; have := Z21.out; have := Z22.out; have := Z26.out; have := Z27.out; have := Z28.out; have := Z30.out; have := Z31.out; have := Z33.out; omega)
                  clear HO11_0
                  have HO11_0 := Aside0.mk h_
                  clear h_
                  have h_ := Go.Proofs.YtplfbjbbnjlnkaaM.S_else HO12_0.out hkp (by have := Z1.out; have := Z2.out; have := Z4.out; have := Z9.out; have := Z10.out; have := Z11.out; have := Z12.out; have := Z13.out; have := Z14.out; have := Z15.out; have := Z16.out; have := Z17.out; have := Z18.out; have := Z21.out; have := Z22.out; have := Z26.out; have := Z27.out; have := Z28.out; have := Z30.out; have := Z31.out; have := Z33.out; omega)
                  clear HO12_0
                  have HO12_0 := Aside0.mk h_
                  clear h_
                  have h_ := Go.Proofs.YtplfbjbbnjlnkaaM.S_else HO30.out hkp (by have := Z1.out; have := Z2.out; have := Z4.out; have := Z9.out; have := Z10.out; have := Z11.out; have := Z12.out; have := Z13.out; have := Z14.out; have := Z15.out; have := Z16.out; have := Z17.out; have := Z18.out; have := Z21.out; have := Z22.out; have := Z26.out; have := Z27.out; have := Z28.out; have := Z30.out; have := Z31.out; have := Z33.out; omega)
                  clear HO30
                  have HO30 := Aside0.mk h_
                  clear h_
                  have h_ := Go.Proofs.YtplfbjbbnjlnkaaM.R_else HO31.out hkp (by have := Z1.out; have := Z2.out; have := Z4.out; have := Z9.out; have := Z10.out; have := Z11.out; have := Z12.out; have := Z13.out; have := Z14.out; have := Z15.out; have := Z16.out; have := Z17.out; have := Z18.out; have := Z21.out; have := Z22.out; have := Z26.out; have := Z27.out; have := Z28.out; have := Z30.out; have := Z31.out; have := Z33.out; omega)
                  clear HO31
                  have HO31 := Aside0.mk h_
                  clear h_
                  have h_ := Go.Proofs.YtplfbjbbnjlnkaaM.S_else HO21_0.out hkp (by have := Z1.out; have := Z2.out; have := Z4.out; have := Z9.out; have := Z10.out; have := Z11.out; have := Z12.out; have := Z13.out; have := Z14.out; have := Z15.out; have := Z16.out; have := Z17.out; have := Z18.out; have := Z21.out; have := Z22.out; have := Z26.out; have := Z27.out; have := Z28.out; have := Z30.out; have := Z31.out; have := Z33.out; omega)
                  clear HO21_0
                  have HO21_0 := Aside0.mk h_
                  clear h_
                  have h_ := Go.Proofs.YtplfbjbbnjlnkaaM.R_else HO27_0.out hkp (by have := Z1.out; have := Z2.out; have := Z4.out; have := Z9.out; have := Z10.out; have := Z11.out; have := Z12.out; have := Z13.out; have := Z14.out; have := Z15.out; have := Z16.out; have := Z17.out; have := Z18.out; have := Z21.out; have := Z22.out; have := Z26.out; have := Z27.out; have := Z28.out; have := Z30.out; have := Z31.out; have := Z33.out; omega)
                  clear HO27_0
                  have HO27_0 := Aside0.mk h_
                  clear h_
                  have h_ := blk_kept BK1.out hkp (fun hp_ => by have := E1.out; have := Z1.out; have := Z2.out; have := Z4.out; have := Z9.out; have := Z10.out; have := Z11.out; have := Z12.out; have := Z13.out; have := Z14.out; have := Z15.out; have := Z16.out; have := Z17.out; have := Z18.out; have := Z21.out; have := Z22.out; have := Z26.out; have := Z27.out; have := Z28.out; have := Z30.out; have := Z31.out; have := Z33.out; have := Z35.out; obtain ⟨_, _⟩ := hp_; omega)
                  clear BK1 c_BK1 z_BK1
                  have BK1 := Aside0.mk h_
                  have c_BK1 := blk_cell h_
                  have z_BK1 := blk_frozen h_
                  clear h_
                  have h_ := blk_kept BK15.out hkp (fun hp_ => by have := E15.out; have := Z1.out; have := Z2.out; have := Z4.out; have := Z9.out; have := Z10.out; have := Z11.out; have := Z12.out; have := Z13.out; have := Z14.out; have := Z15.out; have := Z16.out; have := Z17.out; have := Z18.out; have := Z21.out; have := Z22.out; have := Z26.out; have := Z27.out; have := Z28.out; have := Z30.out; have := Z31.out; have := Z33.out; have := Z35.out; obtain ⟨_, _⟩ := hp_; omega)
                  clear BK15 c_BK15 z_BK15
                  have BK15 := Aside0.mk h_
                  have c_BK15 := blk_cell h_
                  have z_BK15 := blk_frozen h_
                  clear h_
                  clear hkp hb
                  have H := H'.out
                  clear H'
                  replace H := Option.bind_eq_some_iff.mp H
                  obtain ⟨t308, hm, H⟩ := H
                  try dsimp only at H
                  have H' := Aside0.mk H
                  clear H
                  have hcall := laws_heldGrantS.calls k _ _ t307 1 t308 W35 (Go.Proofs.YtplfbjbbnjlnkaaM.S_C HO35.out) (Go.Proofs.YtplfbjbbnjlnkaaM.S_len HO35.out) hm
                  rw [Go.Proofs.YtplfbjbbnjlnkaaM.S_n HO35.out] at hcall
                  clear hm
                  go_wp2_with fail
                  refine hcall.mono ?_
                  rintro e W36 ⟨rfl, hd⟩
                  clear hcall
                  have hb : Below W35.heap.size W35 W36 := hd.below
                  clear hd
                  have Z36 := Aside0.mk hb.size
                  have h_ := Kd.S_below HO10_0.out hb
                  clear HO10_0
                  have HO10_0 := Aside0.mk h_
                  clear h_
                  have h_ := Kd.R_below HO11_0.out hb
                  clear HO11_0
                  have HO11_0 := Aside0.mk h_
                  clear h_
                  have h_ := Kd.S_below HO12_0.out hb
                  clear HO12_0
                  have HO12_0 := Aside0.mk h_
                  clear h_
                  have h_ := Kd.S_below HO30.out hb
                  clear HO30
                  have HO30 := Aside0.mk h_
                  clear h_
                  have h_ := Kd.R_below HO31.out hb
                  clear HO31
                  have HO31 := Aside0.mk h_
                  clear h_
                  have h_ := Kd.S_below HO35.out hb
                  clear HO35
                  have HO35 := Aside0.mk h_
                  clear h_
                  have h_ := Kd.S_below HO21_0.out hb
                  clear HO21_0
                  have HO21_0 := Aside0.mk h_
                  clear h_
                  have h_ := Kd.R_below HO27_0.out hb
                  clear HO27_0
                  have HO27_0 := Aside0.mk h_
                  clear h_
                  have h_ := blk_below BK1.out hb
                  clear BK1 c_BK1 z_BK1
                  have BK1 := Aside0.mk h_
                  have c_BK1 := blk_cell h_
                  have z_BK1 := blk_frozen h_
                  clear h_
                  have h_ := blk_below BK15.out hb
                  clear BK15 c_BK15 z_BK15
                  have BK15 := Aside0.mk h_
                  have c_BK15 := blk_cell h_
                  have z_BK15 := blk_frozen h_
                  clear h_
                  have hB_ := below_step HB.out hb
                  clear HB hb
                  have HB := Aside0.mk hB_
                  clear hB_
                  have H := H'.out
                  clear H'
                  by_cases c37 : t308 < 0
                  · rw [if_pos c37] at H
                    have c37_0 : decide (t308 < 0) = true := decide_eq_true c37
                    clear c37
                    obtain rfl := Option.some.inj H
                    clear H
                    go_wp2
                    go_ret
                    exact ⟨rfl, HB.out⟩
                  · rw [if_neg c37] at H
                    have c37_0 : decide (t308 < 0) = false := decide_eq_false c37
                    clear c37
                    by_cases c38 : t308 = t306
                    · rw [if_pos c38] at H
                      have c38_1 : (t308 == t306) = true := beq_iff_eq.mpr c38
                      have c38_2 : (t308 != t306) = false := bne_eq_false_iff_eq.mpr c38
                      have c38_0 : decide (t308 = t306) = true := decide_eq_true c38
                      clear c38
                      replace H := Option.bind_eq_some_iff.mp H
                      obtain ⟨t309, hm, H⟩ := H
                      try dsimp only at H
                      have HM39 := Aside0.mk hm
                      clear hm
                      replace H := Option.bind_eq_some_iff.mp H
                      obtain ⟨⟨t312, t313, t314, t315, t318, t319, t320⟩, hm, H⟩ := H
                      try dsimp only at H
                      have HM40 := Aside0.mk hm
                      clear hm
                      replace H := Option.bind_eq_some_iff.mp H
                      obtain ⟨⟨t321, t324⟩, hm, H⟩ := H
                      try dsimp only at H
                      have HM41 := Aside0.mk hm
                      clear hm
                      have H' := Aside0.mk H
                      clear H
                      try go_wp2
                      have h_ := Kd.S_drew HO10_0.out
                      clear HO10_0
                      have HO10_0 := Aside0.mk h_
                      clear h_
                      have h_ := Kd.R_drew HO11_0.out
                      clear HO11_0
                      have HO11_0 := Aside0.mk h_
                      clear h_
                      have h_ := Kd.S_drew HO12_0.out
                      clear HO12_0
                      have HO12_0 := Aside0.mk h_
                      clear h_
                      have h_ := Kd.S_drew HO30.out
                      clear HO30
                      have HO30 := Aside0.mk h_
                      clear h_
                      have h_ := Kd.R_drew HO31.out
                      clear HO31
                      have HO31 := Aside0.mk h_
                      clear h_
                      have h_ := Kd.S_drew HO35.out
                      clear HO35
                      have HO35 := Aside0.mk h_
                      clear h_
                      have h_ := Kd.S_drew HO21_0.out
                      clear HO21_0
                      have HO21_0 := Aside0.mk h_
                      clear h_
                      have h_ := Kd.R_drew HO27_0.out
                      clear HO27_0
                      have HO27_0 := Aside0.mk h_
                      clear h_
                      have h_ := blk_drew BK1.out
                      clear BK1 c_BK1 z_BK1
                      have BK1 := Aside0.mk h_
                      clear h_
                      have h_ := blk_drew BK15.out
                      clear BK15 c_BK15 z_BK15
                      have BK15 := Aside0.mk h_
                      clear h_
                      have hB_ := below_drew1 HB.out
                      clear HB
                      have HB := Aside0.mk hB_
                      clear hB_
                      have Z42 : Aside0 (W36.heap.size ≤ W36.drew.heap.size) := ⟨Nat.le_refl _⟩
                      refine start_ (n := 10) (S := fun w' => w'.cell? ⟨gb1, 0, none⟩ = some (.int .i64 a1_0) ∧ w'.cell? ⟨gb1, 1, none⟩ = some (.int .i64 a1_1) ∧ w'.cell? ⟨gb1, 2, none⟩ = some (.int .i64 a1_2) ∧ w'.cell? ⟨gb1, 3, none⟩ = some (.slice A1_3 l1_3.length c1_3) ∧ w'.cell? ⟨gb1, 4, none⟩ = some (.int .i64 a1_4) ∧ w'.cell? ⟨gb1, 5, none⟩ = some (.int .i64 a1_5) ∧ w'.cell? ⟨gb1, 6, none⟩ = some (.bool a1_6)) (ds := []) #[false, false, false, false, false, false, false, false, false, false] (by kernel_rfl) rfl rfl ⟨(blk_cell BK1.out 0).trans rfl, (blk_cell BK1.out 1).trans rfl, (blk_cell BK1.out 2).trans rfl, (blk_cell BK1.out 3).trans rfl, (blk_cell BK1.out 4).trans rfl, (blk_cell BK1.out 5).trans rfl, (blk_cell BK1.out 6).trans rfl⟩ (fun hHeld => ?_)
                      generalize W36.drew = W42 at Z42 HB BK1 BK15 HO10_0 HO11_0 HO12_0 HO30 HO31 HO35 HO21_0 HO27_0 hHeld ⊢
                      have c_BK1 := blk_cell BK1.out
                      have z_BK1 := blk_frozen BK1.out
                      have c_BK15 := blk_cell BK15.out
                      have z_BK15 := blk_frozen BK15.out
                      refine pure_ (i := 0) (N := some 95) (v := ?_) (a' := ?_) #[true, false, false, false, false, false, false, false, false, false] rfl rfl (by kernel_rfl) (fun _ _ _ h => h) (Or.inl ⟨by rfl, ?_⟩) ?_ ?_
                      rotate_left
                      · intro w'
                        go_simp
                        with_reducible rfl
                      rotate_left
                      · simp only [Act.put, List.setIfInBounds_toArray, List.set_cons_zero, List.set_cons_succ, i64_w, i32_w]
                        rfl
                      refine take_ (i := 2) (N := some 97) (v := ?_) (a' := ?_) #[true, false, true, false, false, false, false, false, false, false] rfl rfl (by kernel_rfl) (fun _ _ _ h => h) (Or.inl ⟨by rfl, ?_⟩) hHeld ?_ ?_
                      rotate_left
                      · rintro w' ⟨s0, s1, s2, s3, s4, s5, s6⟩
                        go_simp
                        with_reducible rfl
                      rotate_left
                      · simp only [Act.put, List.setIfInBounds_toArray, List.set_cons_zero, List.set_cons_succ, i64_w, i32_w]
                        rfl
                      refine one_ (i := 1) (N := some 96) #[true, true, true, false, false, false, false, false, false, false] rfl rfl (by kernel_rfl) (by decide) (fun K hK => ?_)
                      have hcall := laws_toGrantS.calls k _ _ l0 t309 W42 (Kd.C_below HR0.out HB.out) HC0.out HM39.out
                      refine goes_ Try.func28 (by kernel_rfl) rfl #[.slice A0 l0.length c0] (by rfl) rfl rfl (by (try simp only [List.map_toArray, List.map_cons, List.map_nil]); first | done | rfl) ?_
                      refine hcall.mono ?_
                      rintro e W43 ⟨v310, rfl, ho0, hb⟩
                      refine ⟨_, rfl, ?_⟩
                      clear hcall
                      have Z43 := Aside0.mk hb.size
                      have h_ := Kd.S_below HO10_0.out hb
                      clear HO10_0
                      have HO10_0 := Aside0.mk h_
                      clear h_
                      have h_ := Kd.R_below HO11_0.out hb
                      clear HO11_0
                      have HO11_0 := Aside0.mk h_
                      clear h_
                      have h_ := Kd.S_below HO12_0.out hb
                      clear HO12_0
                      have HO12_0 := Aside0.mk h_
                      clear h_
                      have h_ := Kd.S_below HO30.out hb
                      clear HO30
                      have HO30 := Aside0.mk h_
                      clear h_
                      have h_ := Kd.R_below HO31.out hb
                      clear HO31
                      have HO31 := Aside0.mk h_
                      clear h_
                      have h_ := Kd.S_below HO35.out hb
                      clear HO35
                      have HO35 := Aside0.mk h_
                      clear h_
                      have h_ := Kd.S_below HO21_0.out hb
                      clear HO21_0
                      have HO21_0 := Aside0.mk h_
                      clear h_
                      have h_ := Kd.R_below HO27_0.out hb
                      clear HO27_0
                      have HO27_0 := Aside0.mk h_
                      clear h_
                      obtain ⟨A43_0, n43_0, c43_0, rfl, hn_, hr_⟩ := Go.Proofs.YtplfbjbbnjlnkaaM.S_made ho0 HB.out.size
                      clear hn_ ho0
                      have HO43_0 := Aside0.mk hr_
                      clear hr_
                      have h_ := blk_below BK1.out hb
                      clear BK1 c_BK1 z_BK1
                      have BK1 := Aside0.mk h_
                      have c_BK1 := blk_cell h_
                      have z_BK1 := blk_frozen h_
                      clear h_
                      have h_ := blk_below BK15.out hb
                      clear BK15 c_BK15 z_BK15
                      have BK15 := Aside0.mk h_
                      have c_BK15 := blk_cell h_
                      have z_BK15 := blk_frozen h_
                      clear h_
                      have hB_ := below_step HB.out hb
                      clear HB hb
                      have HB := Aside0.mk hB_
                      clear hB_
                      refine hK.out _ _ ⟨(blk_cell BK1.out 0).trans rfl, (blk_cell BK1.out 1).trans rfl, (blk_cell BK1.out 2).trans rfl, (blk_cell BK1.out 3).trans rfl, (blk_cell BK1.out 4).trans rfl, (blk_cell BK1.out 5).trans rfl, (blk_cell BK1.out 6).trans rfl⟩ (fun hHeld => ?_)
                      clear hK K
                      refine norm_ (a' := ?_) ?_ ?_
                      rotate_left
                      · show Act.put _ (some 96) _ = _
                        simp only [Act.put, List.setIfInBounds_toArray, List.set_cons_zero, List.set_cons_succ, i64_w, i32_w]
                        rfl
                      refine one_ (i := 3) (N := some 98) #[true, true, true, true, false, false, false, false, false, false] rfl rfl (by kernel_rfl) (by decide) (fun K hK => ?_)
                      have hcall := laws_toGrant.calls k a1_0 a1_1 a1_2 _ _ l1_3 a1_4 a1_5 a1_6 t312 t313 t314 t315 t318 t319 t320 W43 (Kd.C_below HR1_3.out HB.out) HC1_3.out HM40.out
                      refine goes_ Try.func35 (by kernel_rfl) rfl #[.agg #[.int .i64 a1_0, .int .i64 a1_1, .int .i64 a1_2, .slice A1_3 l1_3.length c1_3, .int .i64 a1_4, .int .i64 a1_5, .bool a1_6]] (by rfl) rfl rfl (by (try simp only [List.map_toArray, List.map_cons, List.map_nil]); first | done | rfl) ?_
                      refine hcall.mono ?_
                      rintro e W44 ⟨v316, rfl, ho0, hb⟩
                      refine ⟨_, rfl, ?_⟩
                      clear hcall
                      have Z44 := Aside0.mk hb.size
                      have h_ := Kd.S_below HO10_0.out hb
                      clear HO10_0
                      have HO10_0 := Aside0.mk h_
                      clear h_
                      have h_ := Kd.R_below HO11_0.out hb
                      clear HO11_0
                      have HO11_0 := Aside0.mk h_
                      clear h_
                      have h_ := Kd.S_below HO12_0.out hb
                      clear HO12_0
                      have HO12_0 := Aside0.mk h_
                      clear h_
                      have h_ := Kd.S_below HO30.out hb
                      clear HO30
                      have HO30 := Aside0.mk h_
                      clear h_
                      have h_ := Kd.R_below HO31.out hb
                      clear HO31
                      have HO31 := Aside0.mk h_
                      clear h_
                      have h_ := Kd.S_below HO35.out hb
                      clear HO35
                      have HO35 := Aside0.mk h_
                      clear h_
                      have h_ := Kd.S_below HO21_0.out hb
                      clear HO21_0
                      have HO21_0 := Aside0.mk h_
                      clear h_
                      have h_ := Kd.R_below HO27_0.out hb
                      clear HO27_0
                      have HO27_0 := Aside0.mk h_
                      clear h_
                      have h_ := Kd.S_below HO43_0.out hb
                      clear HO43_0
                      have HO43_0 := Aside0.mk h_
                      clear h_
                      obtain ⟨A44_0, n44_0, c44_0, rfl, hn_, hr_⟩ := Go.Proofs.YtplfbjbbnjlnkaaM.R_made ho0 HB.out.size
                      clear hn_ ho0
                      have HO44_0 := Aside0.mk hr_
                      clear hr_
                      have h_ := blk_below BK1.out hb
                      clear BK1 c_BK1 z_BK1
                      have BK1 := Aside0.mk h_
                      have c_BK1 := blk_cell h_
                      have z_BK1 := blk_frozen h_
                      clear h_
                      have h_ := blk_below BK15.out hb
                      clear BK15 c_BK15 z_BK15
                      have BK15 := Aside0.mk h_
                      have c_BK15 := blk_cell h_
                      have z_BK15 := blk_frozen h_
                      clear h_
                      have hB_ := below_step HB.out hb
                      clear HB hb
                      have HB := Aside0.mk hB_
                      clear hB_
                      refine hK.out _ _ ⟨(blk_cell BK1.out 0).trans rfl, (blk_cell BK1.out 1).trans rfl, (blk_cell BK1.out 2).trans rfl, (blk_cell BK1.out 3).trans rfl, (blk_cell BK1.out 4).trans rfl, (blk_cell BK1.out 5).trans rfl, (blk_cell BK1.out 6).trans rfl⟩ (fun hHeld => ?_)
                      clear hK K
                      refine norm_ (a' := ?_) ?_ ?_
                      rotate_left
                      · show Act.put _ (some 98) _ = _
                        simp only [Act.put, List.setIfInBounds_toArray, List.set_cons_zero, List.set_cons_succ, i64_w, i32_w]
                        rfl
                      refine one_ (i := 4) (N := some 99) #[true, true, true, true, true, false, false, false, false, false] rfl rfl (by kernel_rfl) (by decide) (fun K hK => ?_)
                      have hcall := impl_AddGrant.calls k _ _ t309 t312 t313 t314 _ _ t315 t318 t319 t320 t321 t324 W44 (Go.Proofs.YtplfbjbbnjlnkaaM.S_C HO43_0.out) (Go.Proofs.YtplfbjbbnjlnkaaM.S_len HO43_0.out) (Go.Proofs.YtplfbjbbnjlnkaaM.R_C HO44_0.out) (Go.Proofs.YtplfbjbbnjlnkaaM.R_len HO44_0.out) HM41.out
                      rw [Go.Proofs.YtplfbjbbnjlnkaaM.S_n HO43_0.out, Go.Proofs.YtplfbjbbnjlnkaaM.R_n HO44_0.out] at hcall
                      refine goes_ Try.func36 (by kernel_rfl) rfl #[.slice A43_0 n43_0 c43_0, .agg #[.int .i64 t312, .int .i64 t313, .int .i64 t314, .slice A44_0 n44_0 c44_0, .int .i64 t318, .int .i64 t319, .bool t320]] (by rfl) rfl rfl (by (try simp only [List.map_toArray, List.map_cons, List.map_nil]); first | done | rfl) ?_
                      refine hcall.mono ?_
                      rintro e W45 ⟨v322, rfl, ho0, hb⟩
                      refine ⟨_, rfl, ?_⟩
                      clear hcall
                      have Z45 := Aside0.mk hb.size
                      have h_ := Kd.S_below HO10_0.out hb
                      clear HO10_0
                      have HO10_0 := Aside0.mk h_
                      clear h_
                      have h_ := Kd.R_below HO11_0.out hb
                      clear HO11_0
                      have HO11_0 := Aside0.mk h_
                      clear h_
                      have h_ := Kd.S_below HO12_0.out hb
                      clear HO12_0
                      have HO12_0 := Aside0.mk h_
                      clear h_
                      have h_ := Kd.S_below HO30.out hb
                      clear HO30
                      have HO30 := Aside0.mk h_
                      clear h_
                      have h_ := Kd.R_below HO31.out hb
                      clear HO31
                      have HO31 := Aside0.mk h_
                      clear h_
                      have h_ := Kd.S_below HO35.out hb
                      clear HO35
                      have HO35 := Aside0.mk h_
                      clear h_
                      have h_ := Kd.S_below HO21_0.out hb
                      clear HO21_0
                      have HO21_0 := Aside0.mk h_
                      clear h_
                      have h_ := Kd.R_below HO27_0.out hb
                      clear HO27_0
                      have HO27_0 := Aside0.mk h_
                      clear h_
                      have h_ := Kd.S_below HO43_0.out hb
                      clear HO43_0
                      have HO43_0 := Aside0.mk h_
                      clear h_
                      have h_ := Kd.R_below HO44_0.out hb
                      clear HO44_0
                      have HO44_0 := Aside0.mk h_
                      clear h_
                      obtain ⟨A45_0, n45_0, c45_0, rfl, hn_, hr_⟩ := Go.Proofs.YtplfbjbbnjlnkaaM.S_made ho0 HB.out.size
                      clear hn_ ho0
                      have HO45_0 := Aside0.mk hr_
                      clear hr_
                      have h_ := blk_below BK1.out hb
                      clear BK1 c_BK1 z_BK1
                      have BK1 := Aside0.mk h_
                      have c_BK1 := blk_cell h_
                      have z_BK1 := blk_frozen h_
                      clear h_
                      have h_ := blk_below BK15.out hb
                      clear BK15 c_BK15 z_BK15
                      have BK15 := Aside0.mk h_
                      have c_BK15 := blk_cell h_
                      have z_BK15 := blk_frozen h_
                      clear h_
                      have hB_ := below_step HB.out hb
                      clear HB hb
                      have HB := Aside0.mk hB_
                      clear hB_
                      refine hK.out _ _ ⟨(blk_cell BK1.out 0).trans rfl, (blk_cell BK1.out 1).trans rfl, (blk_cell BK1.out 2).trans rfl, (blk_cell BK1.out 3).trans rfl, (blk_cell BK1.out 4).trans rfl, (blk_cell BK1.out 5).trans rfl, (blk_cell BK1.out 6).trans rfl⟩ (fun hHeld => ?_)
                      clear hK K
                      refine norm_ (a' := ?_) ?_ ?_
                      rotate_left
                      · show Act.put _ (some 99) _ = _
                        simp only [Act.put, List.setIfInBounds_toArray, List.set_cons_zero, List.set_cons_succ, i64_w, i32_w]
                        rfl
                      refine pure_ (i := 5) (N := some 94) (v := ?_) (a' := ?_) #[true, true, true, true, true, true, false, false, false, false] rfl rfl (by kernel_rfl) (fun _ _ _ h => h) (Or.inl ⟨by rfl, ?_⟩) ?_ ?_
                      rotate_left
                      · intro w'
                        go_simp
                        with_reducible rfl
                      rotate_left
                      · simp only [Act.put, List.setIfInBounds_toArray, List.set_cons_zero, List.set_cons_succ, i64_w, i32_w]
                        rfl
                      refine pure_ (i := 6) (N := some 100) (v := ?_) (a' := ?_) #[true, true, true, true, true, true, true, false, false, false] rfl rfl (by kernel_rfl) (fun _ _ _ h => h) (Or.inl ⟨by rfl, ?_⟩) ?_ ?_
                      rotate_left
                      · intro w'
                        go_simp
                        with_reducible rfl
                      rotate_left
                      · simp only [Act.put, List.setIfInBounds_toArray, List.set_cons_zero, List.set_cons_succ, i64_w, i32_w]
                        rfl
                      refine pure_ (i := 7) (N := some 101) (v := ?_) (a' := ?_) #[true, true, true, true, true, true, true, true, false, false] rfl rfl (by kernel_rfl) (fun _ _ _ h => h) (Or.inl ⟨by rfl, ?_⟩) ?_ ?_
                      rotate_left
                      · intro w'
                        go_simp
                        with_reducible rfl
                      rotate_left
                      · simp only [Act.put, List.setIfInBounds_toArray, List.set_cons_zero, List.set_cons_succ, i64_w, i32_w]
                        rfl
                      refine pure_ (i := 8) (N := some 15) (v := ?_) (a' := ?_) #[true, true, true, true, true, true, true, true, true, false] rfl rfl (by kernel_rfl) (fun _ _ _ h => h) (Or.inl ⟨by rfl, ?_⟩) ?_ ?_
                      rotate_left
                      · intro w'
                        go_simp
                        with_reducible rfl
                      rotate_left
                      · simp only [Act.put, List.setIfInBounds_toArray, List.set_cons_zero, List.set_cons_succ, i64_w, i32_w]
                        rfl
                      refine pure_ (i := 9) (N := some 16) (v := ?_) (a' := ?_) #[true, true, true, true, true, true, true, true, true, true] rfl rfl (by kernel_rfl) (fun _ _ _ h => h) (Or.inl ⟨by rfl, ?_⟩) ?_ ?_
                      rotate_left
                      · intro w'
                        go_simp
                        with_reducible rfl
                      rotate_left
                      · simp only [Act.put, List.setIfInBounds_toArray, List.set_cons_zero, List.set_cons_succ, i64_w, i32_w]
                        rfl
                      refine done_ (by kernel_rfl) ?_
                      clear hHeld
                      have H := H'.out
                      clear H'
                      replace H := Option.bind_eq_some_iff.mp H
                      obtain ⟨t325, hm, H⟩ := H
                      try dsimp only at H
                      have H' := Aside0.mk H
                      clear H
                      have hcall := laws_eqGrantS.calls k _ _ t321 _ _ t265 t325 W45 (Go.Proofs.YtplfbjbbnjlnkaaM.S_C HO45_0.out) (Go.Proofs.YtplfbjbbnjlnkaaM.S_len HO45_0.out) (Go.Proofs.YtplfbjbbnjlnkaaM.S_C HO12_0.out) (Go.Proofs.YtplfbjbbnjlnkaaM.S_len HO12_0.out) hm
                      rw [Go.Proofs.YtplfbjbbnjlnkaaM.S_n HO45_0.out, Go.Proofs.YtplfbjbbnjlnkaaM.S_n HO12_0.out] at hcall
                      clear hm
                      go_wp2_with fail
                      refine hcall.mono ?_
                      rintro e W46 ⟨rfl, hb⟩
                      clear hcall
                      have Z46 := Aside0.mk hb.size
                      have h_ := Kd.S_below HO10_0.out hb
                      clear HO10_0
                      have HO10_0 := Aside0.mk h_
                      clear h_
                      have h_ := Kd.R_below HO11_0.out hb
                      clear HO11_0
                      have HO11_0 := Aside0.mk h_
                      clear h_
                      have h_ := Kd.S_below HO12_0.out hb
                      clear HO12_0
                      have HO12_0 := Aside0.mk h_
                      clear h_
                      have h_ := Kd.S_below HO30.out hb
                      clear HO30
                      have HO30 := Aside0.mk h_
                      clear h_
                      have h_ := Kd.R_below HO31.out hb
                      clear HO31
                      have HO31 := Aside0.mk h_
                      clear h_
                      have h_ := Kd.S_below HO35.out hb
                      clear HO35
                      have HO35 := Aside0.mk h_
                      clear h_
                      have h_ := Kd.S_below HO21_0.out hb
                      clear HO21_0
                      have HO21_0 := Aside0.mk h_
                      clear h_
                      have h_ := Kd.R_below HO27_0.out hb
                      clear HO27_0
                      have HO27_0 := Aside0.mk h_
                      clear h_
                      have h_ := Kd.S_below HO43_0.out hb
                      clear HO43_0
                      have HO43_0 := Aside0.mk h_
                      clear h_
                      have h_ := Kd.R_below HO44_0.out hb
                      clear HO44_0
                      have HO44_0 := Aside0.mk h_
                      clear h_
                      have h_ := Kd.S_below HO45_0.out hb
                      clear HO45_0
                      have HO45_0 := Aside0.mk h_
                      clear h_
                      have h_ := blk_below BK1.out hb
                      clear BK1 c_BK1 z_BK1
                      have BK1 := Aside0.mk h_
                      have c_BK1 := blk_cell h_
                      have z_BK1 := blk_frozen h_
                      clear h_
                      have h_ := blk_below BK15.out hb
                      clear BK15 c_BK15 z_BK15
                      have BK15 := Aside0.mk h_
                      have c_BK15 := blk_cell h_
                      have z_BK15 := blk_frozen h_
                      clear h_
                      have hB_ := below_step HB.out hb
                      clear HB hb
                      have HB := Aside0.mk hB_
                      clear hB_
                      have H := H'.out
                      clear H'
                      by_cases c47 : t325 = true
                      · rw [if_pos c47] at H
                        subst c47
                        by_cases c48 : (t324 != t268) = true
                        · rw [if_pos c48] at H
                          have c48_1 : (t324 != t268) = true := by revert c48; cases t324 <;> cases t268 <;> decide
                          have c48_2 : (!t324 == t268) = true := by revert c48; cases t324 <;> cases t268 <;> decide
                          clear c48
                          obtain rfl := Option.some.inj H
                          clear H
                          go_wp2
                          go_ret
                          exact ⟨rfl, HB.out⟩
                        · rw [if_neg c48] at H
                          have c48_1 : (t324 != t268) = false := by revert c48; cases t324 <;> cases t268 <;> decide
                          have c48_2 : (!t324 == t268) = false := by revert c48; cases t324 <;> cases t268 <;> decide
                          clear c48
                          replace H := Option.bind_eq_some_iff.mp H
                          obtain ⟨t326, hm, H⟩ := H
                          try dsimp only at H
                          have H' := Aside0.mk H
                          clear H
                          have hcall := laws_heldGrantS.calls k _ _ t307 1 t326 W46 (Go.Proofs.YtplfbjbbnjlnkaaM.S_C HO35.out) (Go.Proofs.YtplfbjbbnjlnkaaM.S_len HO35.out) hm
                          rw [Go.Proofs.YtplfbjbbnjlnkaaM.S_n HO35.out] at hcall
                          clear hm
                          go_wp2_with fail
                          refine hcall.mono ?_
                          rintro e W49 ⟨rfl, hd⟩
                          clear hcall
                          have hb : Below W46.heap.size W46 W49 := hd.below
                          clear hd
                          have Z49 := Aside0.mk hb.size
                          have h_ := Kd.S_below HO10_0.out hb
                          clear HO10_0
                          have HO10_0 := Aside0.mk h_
                          clear h_
                          have h_ := Kd.R_below HO11_0.out hb
                          clear HO11_0
                          have HO11_0 := Aside0.mk h_
                          clear h_
                          have h_ := Kd.S_below HO12_0.out hb
                          clear HO12_0
                          have HO12_0 := Aside0.mk h_
                          clear h_
                          have h_ := Kd.S_below HO30.out hb
                          clear HO30
                          have HO30 := Aside0.mk h_
                          clear h_
                          have h_ := Kd.R_below HO31.out hb
                          clear HO31
                          have HO31 := Aside0.mk h_
                          clear h_
                          have h_ := Kd.S_below HO35.out hb
                          clear HO35
                          have HO35 := Aside0.mk h_
                          clear h_
                          have h_ := Kd.S_below HO21_0.out hb
                          clear HO21_0
                          have HO21_0 := Aside0.mk h_
                          clear h_
                          have h_ := Kd.R_below HO27_0.out hb
                          clear HO27_0
                          have HO27_0 := Aside0.mk h_
                          clear h_
                          have h_ := Kd.S_below HO43_0.out hb
                          clear HO43_0
                          have HO43_0 := Aside0.mk h_
                          clear h_
                          have h_ := Kd.R_below HO44_0.out hb
                          clear HO44_0
                          have HO44_0 := Aside0.mk h_
                          clear h_
                          have h_ := Kd.S_below HO45_0.out hb
                          clear HO45_0
                          have HO45_0 := Aside0.mk h_
                          clear h_
                          have h_ := blk_below BK1.out hb
                          clear BK1 c_BK1 z_BK1
                          have BK1 := Aside0.mk h_
                          have c_BK1 := blk_cell h_
                          have z_BK1 := blk_frozen h_
                          clear h_
                          have h_ := blk_below BK15.out hb
                          clear BK15 c_BK15 z_BK15
                          have BK15 := Aside0.mk h_
                          have c_BK15 := blk_cell h_
                          have z_BK15 := blk_frozen h_
                          clear h_
                          have hB_ := below_step HB.out hb
                          clear HB hb
                          have HB := Aside0.mk hB_
                          clear hB_
                          have H := H'.out
                          clear H'
                          by_cases c50 : t326 < 0
                          · rw [if_pos c50] at H
                            have c50_0 : decide (t326 < 0) = true := decide_eq_true c50
                            clear c50
                            obtain rfl := Option.some.inj H
                            clear H
                            go_wp2
                            go_ret
                            exact ⟨rfl, HB.out⟩
                          · rw [if_neg c50] at H
                            have c50_0 : decide (t326 < 0) = false := decide_eq_false c50
                            clear c50
                            by_cases c51 : t326 = t306
                            · rw [if_pos c51] at H
                              have c51_1 : (t326 == t306) = true := beq_iff_eq.mpr c51
                              have c51_2 : (t326 != t306) = false := bne_eq_false_iff_eq.mpr c51
                              have c51_0 : decide (t326 = t306) = true := decide_eq_true c51
                              clear c51
                              obtain rfl := Option.some.inj H
                              clear H
                              go_wp2
                              go_ret
                              exact ⟨rfl, HB.out⟩
                            · rw [if_neg c51] at H
                              have c51_1 : (t326 == t306) = false := beq_eq_false_iff_ne.mpr c51
                              have c51_2 : (t326 != t306) = true := bne_iff_ne.mpr c51
                              have c51_0 : decide (t326 = t306) = false := decide_eq_false c51
                              clear c51
                              obtain rfl := Option.some.inj H
                              clear H
                              go_wp2
                              go_ret
                              exact ⟨rfl, HB.out⟩
                      · rw [if_neg c47] at H
                        replace c47 : t325 = false := by simpa using c47
                        subst c47
                        obtain rfl := Option.some.inj H
                        clear H
                        go_wp2
                        go_ret
                        exact ⟨rfl, HB.out⟩
                    · rw [if_neg c38] at H
                      have c38_1 : (t308 == t306) = false := beq_eq_false_iff_ne.mpr c38
                      have c38_2 : (t308 != t306) = true := bne_iff_ne.mpr c38
                      have c38_0 : decide (t308 = t306) = false := decide_eq_false c38
                      clear c38
                      obtain rfl := Option.some.inj H
                      clear H
                      go_wp2
                      go_ret
                      exact ⟨rfl, HB.out⟩
                · rw [if_neg c34] at H
                  replace c34 : t305 = false := by simpa using c34
                  subst c34
                  obtain rfl := Option.some.inj H
                  clear H
                  go_wp2
                  go_ret
                  exact ⟨rfl, HB.out⟩
            · rw [if_neg c29] at H
              replace c29 : t300 = false := by simpa using c29
              subst c29
              obtain rfl := Option.some.inj H
              clear H
              go_wp2
              go_ret
              exact ⟨rfl, HB.out⟩
          · rw [if_neg c23] at H
            replace c23 : t290 = false := by simpa using c23
            subst c23
            obtain rfl := Option.some.inj H
            clear H
            go_wp2
            go_ret
            exact ⟨rfl, HB.out⟩
      · rw [if_neg c19] at H
        replace c19 : t286 = false := by simpa using c19
        subst c19
        obtain rfl := Option.some.inj H
        clear H
        go_wp2
        go_ret
        exact ⟨rfl, HB.out⟩

section
open Go.Proofs.YtplfbjbbnjlnkaaO
def g48 (x : S48) : Prop := (Lit.int .i64 x.f0).wf = true ∧ (Lit.int .i64 x.f1).wf = true ∧ (Lit.int .i64 x.f2).wf = true ∧ (x.f3.length ≤ maxLen ∧ ∀ y_ ∈ x.f3, (Lit.int .i64 y_).wf = true) ∧ (Lit.int .i64 x.f4).wf = true ∧ (Lit.int .i64 x.f5).wf = true ∧ True
theorem opens48 (n : Nat) : Opens Try.prog 48 k48 g48 n :=
  opens_imp (opens_iso (fun x : S48 => (x.f0, x.f1, x.f2, x.f3, x.f4, x.f5, x.f6)) (fun x => (⟨x.1, x.2.1, x.2.2.1, x.2.2.2.1, x.2.2.2.2.1, x.2.2.2.2.2.1, x.2.2.2.2.2.2⟩ : S48)) (fun _ => rfl) (opens_struct Try.underlying48 (by kernel_rfl) fun m _ => (fields_cons rfl (by kernel_rfl) (opens_int Try.underlying3 m) (fields_cons rfl (by kernel_rfl) (opens_int Try.underlying3 m) (fields_cons rfl (by kernel_rfl) (opens_int Try.underlying3 m) (fields_cons rfl (by kernel_rfl) (opens_slice Try.underlying46 (by kernel_rfl) fun m _ => (opens_int Try.underlying3 m)) (fields_cons rfl (by kernel_rfl) (opens_int Try.underlying3 m) (fields_cons rfl (by kernel_rfl) (opens_int Try.underlying3 m) (fields_one rfl (by kernel_rfl) (opens_bool Try.underlying4 m)))))))))) (fun _ h => h)
end
/-- What is left to show of laws_FnExactAddGrant: over numbers and lists alone. -/
def laws_FnExactAddGrant.Pure : Prop := ∀ (l0 : List (S48)) (x1 : S48), l0.length ≤ maxLen → (∀ y_ ∈ l0, g48 y_) → g48 x1 → ∃ k, laws_FnExactAddGrant.f k l0 x1.f0 x1.f1 x1.f2 x1.f3 x1.f4 x1.f5 x1.f6 = some true

end Go.Proofs.Ytplfbjbbnjlnkaa.QFnExactAddGrant
