/- The machine side of FnExactPutSaved: what each function that it reaches computes, and that the machine's call gives just that. -/
import Derived.Test.YtoncnbcgpflhiaaQFnExactPutSavedx0
import Derived.Test.YtoncnbcgpflhiaaQFnExactPutSavedx2
import Derived.Test.YtoncnbcgpflhiaaQFnExactPutSavedx3
import Derived.Test.YtoncnbcgpflhiaaQFnExactPutSavedx4
namespace Go.Proofs.Ytoncnbcgpflhiaa.QFnExactPutSaved
open Go.RowKit Go.Proofs.YtoncnbcgpflhiaaW.PrintWords Go.Proofs.YtoncnbcgpflhiaaW.PrintLast Go.Proofs.YtoncnbcgpflhiaaW.PrintMore
attribute [local go_sem] max2_int min2_int max_two min_two max_three min_three max_four min_four   -- for this text's walks alone
set_option linter.unusedVariables false
set_option linter.unusedSimpArgs false

/-! ### laws_FnExactPutSaved: function 9 -/
def laws_FnExactPutSaved.f (k : Nat) (l0 : List (S68)) (a1_0 : Int) (a1_1 : Int) (a1_2 : Int) (a1_3 : Int) (a1_4 : Int) (a1_5 : Int) (a1_6 : Int) (a1_7 : Int) : Option (Bool) := (laws_szSavedS.f l0 1048576).bind fun t201 => (if t201 < 0 then (some true) else ((laws_toSavedS.f k l0).bind fun t202 => ((laws_toSaved.f a1_0 a1_1 a1_2 a1_3 a1_4 a1_5 a1_6 a1_7).bind fun bt205 => ((spec_PutSaved.f k t202 bt205.1 bt205.2.1 bt205.2.2.1 bt205.2.2.2.1 bt205.2.2.2.2.1 bt205.2.2.2.2.2.1 bt205.2.2.2.2.2.2.1 bt205.2.2.2.2.2.2.2).bind fun t213 => ((laws_toSavedS.f k l0).bind fun t216 => ((laws_toSaved.f a1_0 a1_1 a1_2 a1_3 a1_4 a1_5 a1_6 a1_7).bind fun bt219 => ((impl_PutSaved.f k t216 bt219.1 bt219.2.1 bt219.2.2.1 bt219.2.2.2.1 bt219.2.2.2.2.1 bt219.2.2.2.2.2.1 bt219.2.2.2.2.2.2.1 bt219.2.2.2.2.2.2.2).bind fun t227 => ((laws_eqSavedS.f k t227 t213).bind fun t230 => (if t230 = true then ((laws_toSavedS.f k l0).bind fun t231 => ((laws_eqSavedS.f k t216 t231).bind fun t234 => (if t234 = true then ((laws_markSavedS.f k t216 1).bind fun bt235 => (if bt235.1 < 0 then (some false) else ((laws_eqSavedS.f k t227 t213).bind fun t237 => (if t237 = true then ((laws_markSavedS.f k t227 1).bind fun bt238 => ((laws_heldSavedS.f k bt238.2 1).bind fun t240 => (if t240 < 0 then (some false) else (if t240 = bt238.1 then ((laws_toSavedS.f k l0).bind fun t241 => ((laws_toSaved.f a1_0 a1_1 a1_2 a1_3 a1_4 a1_5 a1_6 a1_7).bind fun bt244 => ((impl_PutSaved.f k t241 bt244.1 bt244.2.1 bt244.2.2.1 bt244.2.2.2.1 bt244.2.2.2.2.1 bt244.2.2.2.2.2.1 bt244.2.2.2.2.2.2.1 bt244.2.2.2.2.2.2.2).bind fun t252 => ((laws_eqSavedS.f k t252 t213).bind fun t255 => (if t255 = true then ((laws_heldSavedS.f k bt238.2 1).bind fun t256 => (if t256 < 0 then (some false) else (if t256 = bt238.1 then (some true) else (some false)))) else (some false)))))) else (some false))))) else (some false))))) else (some false)))) else (some false))))))))))
theorem laws_FnExactPutSaved.mono : ∀ a0 a1 a2 a3 a4 a5 a6 a7 a8 k, LeO (laws_FnExactPutSaved.f k a0 a1 a2 a3 a4 a5 a6 a7 a8) (laws_FnExactPutSaved.f (k + 1) a0 a1 a2 a3 a4 a5 a6 a7 a8) := by
  intro a0 a1 a2 a3 a4 a5 a6 a7 a8 k
  unfold laws_FnExactPutSaved.f
  repeat' first
      | (with_reducible exact impl_PutSaved.mono _ _ _ _ _ _ _ _ _ _)
      | (with_reducible exact laws_eqSavedS.mono _ _ _)
      | (with_reducible exact laws_heldSavedS.mono _ _ _)
      | (with_reducible exact laws_markSavedS.mono _ _ _)
      | (with_reducible exact laws_toSavedS.mono _ _)
      | (with_reducible exact spec_PutSaved.mono _ _ _ _ _ _ _ _ _ _)
      | (with_reducible exact LeO.refl _)
      | (with_reducible exact LeO.none _)
      | (with_reducible refine LeO.ite ?_ ?_)
      | (with_reducible refine LeO.bind ?_ (fun _ => ?_))
      | exact impl_PutSaved.mono _ _ _ _ _ _ _ _ _ _
      | exact laws_eqSavedS.mono _ _ _
      | exact laws_heldSavedS.mono _ _ _
      | exact laws_markSavedS.mono _ _ _
      | exact laws_toSavedS.mono _ _
      | exact spec_PutSaved.mono _ _ _ _ _ _ _ _ _ _
      | exact LeO.none _
      | refine LeO.ite ?_ ?_
      | refine LeO.bind ?_ (fun _ => ?_)
set_option maxHeartbeats 8000000 in
set_option maxRecDepth 100000 in
theorem laws_FnExactPutSaved.calls (k : Nat) (A0 : Option Addr) (c0 : Nat) (l0 : List (S68)) (a1_0 : Int) (a1_1 : Int) (a1_2 : Int) (a1_3 : Int) (a1_4 : Int) (a1_5 : Int) (a1_6 : Int) (a1_7 : Int) (r : Bool) (w : World) (hr0 : Kd.C k68 w A0 l0.length l0) (hc0 : l0.length ≤ c0) (h : laws_FnExactPutSaved.f k l0 a1_0 a1_1 a1_2 a1_3 a1_4 a1_5 a1_6 a1_7 = some r) :
    Calls Try.prog 9 #[.slice A0 l0.length c0, .agg #[.int .i64 a1_0, .int .i64 a1_1, .int .i64 a1_2, .int .i64 a1_3, .int .i64 a1_4, .int .i64 a1_5, .int .i64 a1_6, .int .i64 a1_7]] w fun e w' => e = .returned (.bool r) ∧ Below w.heap.size w w' := by
  have HR0 := Aside0.mk hr0
  have HC0 := Aside0.mk hc0
  clear hr0 hc0
  have HB := Aside0.mk (Below.refl w.heap.size w)
  have H := h
  clear h
  unfold laws_FnExactPutSaved.f at H
  have hu68 := Try.underlying68
  go_enter Try.func9, Try.ntmps9
  have H'' := Aside0.mk H
  clear H
  go_wp2_with (first | ((with_reducible refine gate_dst (N := 3) rfl ?_); refine box_event ?hg (N := 3) ?hd (cs := #[.int .i64 a1_0, .int .i64 a1_1, .int .i64 a1_2, .int .i64 a1_3, .int .i64 a1_4, .int .i64 a1_5, .int .i64 a1_6, .int .i64 a1_7]) (t := 68) ?hr ?_; (case hd => rfl); (case hg => rfl); (case hr => first | (go_simp; done) | (go_simp; rfl)); intro gb1 hg W1 hbox hb; have Z1 := Aside0.mk hb.size; have E1 := Aside0.mk (And.intro hg (blk_lt hbox)); have BK1 := Aside0.mk hbox; have c_BK1 := blk_cell hbox; have z_BK1 := blk_frozen hbox; have hB_ := below_step HB.out hb; clear HB hb hbox hg; have HB := Aside0.mk hB_; clear hB_))
  have H := H''.out
  clear H''
  replace H := Option.bind_eq_some_iff.mp H
  obtain ⟨t201, hm, H⟩ := H
  try dsimp only at H
  have H' := Aside0.mk H
  clear H
  have hcall := laws_szSavedS.calls _ _ l0 1048576 t201 W1 (Kd.C_below HR0.out HB.out) HC0.out hm
  clear hm
  try go_wp2_with fail
  refine hcall.mono ?_
  rintro e W2 ⟨rfl, hd⟩
  clear hcall
  have hb : Below W1.heap.size W1 W2 := hd.below
  clear hd
  have Z2 := Aside0.mk hb.size
  have h_ := blk_below BK1.out hb
  clear BK1 c_BK1 z_BK1
  have BK1 := Aside0.mk h_
  have c_BK1 := blk_cell h_
  have z_BK1 := blk_frozen h_
  clear h_
  have hB_ := below_step HB.out hb
  clear HB hb
  have HB := Aside0.mk hB_
  clear hB_
  have H := H'.out
  clear H'
  by_cases c3 : t201 < 0
  · rw [if_pos c3] at H
    have c3_0 : decide (t201 < 0) = true := decide_eq_true c3
    clear c3
    obtain rfl := Option.some.inj H
    clear H
    go_wp2
    go_ret
    exact ⟨rfl, HB.out⟩
  · rw [if_neg c3] at H
    have c3_0 : decide (t201 < 0) = false := decide_eq_false c3
    clear c3
    replace H := Option.bind_eq_some_iff.mp H
    obtain ⟨t202, hm, H⟩ := H
    try dsimp only at H
    have HM4 := Aside0.mk hm
    clear hm
    replace H := Option.bind_eq_some_iff.mp H
    obtain ⟨⟨t205, t206, t207, t208, t209, t210, t211, t212⟩, hm, H⟩ := H
    try dsimp only at H
    have HM5 := Aside0.mk hm
    clear hm
    replace H := Option.bind_eq_some_iff.mp H
    obtain ⟨t213, hm, H⟩ := H
    try dsimp only at H
    have HM6 := Aside0.mk hm
    clear hm
    have H' := Aside0.mk H
    clear H
    try go_wp2
    have h_ := blk_drew BK1.out
    clear BK1 c_BK1 z_BK1
    have BK1 := Aside0.mk h_
    clear h_
    have hB_ := below_drew1 HB.out
    clear HB
    have HB := Aside0.mk hB_
    clear hB_
    have Z7 : Aside0 (W2.heap.size ≤ W2.drew.heap.size) := ⟨Nat.le_refl _⟩
    refine start_ (n := 6) (S := fun w' => w'.cell? ⟨gb1, 0, none⟩ = some (.int .i64 a1_0) ∧ w'.cell? ⟨gb1, 1, none⟩ = some (.int .i64 a1_1) ∧ w'.cell? ⟨gb1, 2, none⟩ = some (.int .i64 a1_2) ∧ w'.cell? ⟨gb1, 3, none⟩ = some (.int .i64 a1_3) ∧ w'.cell? ⟨gb1, 4, none⟩ = some (.int .i64 a1_4) ∧ w'.cell? ⟨gb1, 5, none⟩ = some (.int .i64 a1_5) ∧ w'.cell? ⟨gb1, 6, none⟩ = some (.int .i64 a1_6) ∧ w'.cell? ⟨gb1, 7, none⟩ = some (.int .i64 a1_7)) (ds := []) #[false, false, false, false, false, false] (by kernel_rfl) rfl rfl ⟨(blk_cell BK1.out 0).trans rfl, (blk_cell BK1.out 1).trans rfl, (blk_cell BK1.out 2).trans rfl, (blk_cell BK1.out 3).trans rfl, (blk_cell BK1.out 4).trans rfl, (blk_cell BK1.out 5).trans rfl, (blk_cell BK1.out 6).trans rfl, (blk_cell BK1.out 7).trans rfl⟩ (fun hHeld => ?_)
    generalize W2.drew = W7 at Z7 HB BK1 hHeld ⊢
    have c_BK1 := blk_cell BK1.out
    have z_BK1 := blk_frozen BK1.out
    refine pure_ (i := 0) (N := some 18) (v := ?_) (a' := ?_) #[true, false, false, false, false, false] rfl rfl (by kernel_rfl) (fun _ _ _ h => h) (Or.inl ⟨by rfl, ?_⟩) ?_ ?_
    rotate_left
    · intro w'
      go_simp
      with_reducible rfl
    rotate_left
    · simp only [Act.put, List.setIfInBounds_toArray, List.set_cons_zero, List.set_cons_succ, i64_w, i32_w]
      rfl
    refine take_ (i := 2) (N := some 20) (v := ?_) (a' := ?_) #[true, false, true, false, false, false] rfl rfl (by kernel_rfl) (fun _ _ _ h => h) (Or.inl ⟨by rfl, ?_⟩) hHeld ?_ ?_
    rotate_left
    · rintro w' ⟨s0, s1, s2, s3, s4, s5, s6, s7⟩
      go_simp
      with_reducible rfl
    rotate_left
    · simp only [Act.put, List.setIfInBounds_toArray, List.set_cons_zero, List.set_cons_succ, i64_w, i32_w]
      rfl
    refine one_ (i := 1) (N := some 19) #[true, true, true, false, false, false] rfl rfl (by kernel_rfl) (by decide) (fun K hK => ?_)
    have hcall := laws_toSavedS.calls k _ _ l0 t202 W7 (Kd.C_below HR0.out HB.out) HC0.out HM4.out
    refine goes_ Try.func37 (by kernel_rfl) rfl #[.slice A0 l0.length c0] (by rfl) rfl rfl (by (try simp only [List.map_toArray, List.map_cons, List.map_nil]); first | done | rfl) ?_
    refine hcall.mono ?_
    rintro e W8 ⟨v203, rfl, ho0, hb⟩
    refine ⟨_, rfl, ?_⟩
    clear hcall
    have Z8 := Aside0.mk hb.size
    obtain ⟨A8_0, n8_0, c8_0, rfl, hn_, hr_⟩ := Go.Proofs.YtoncnbcgpflhiaaM.R_made ho0 HB.out.size
    clear hn_ ho0
    have HO8_0 := Aside0.mk hr_
    clear hr_
    have h_ := blk_below BK1.out hb
    clear BK1 c_BK1 z_BK1
    have BK1 := Aside0.mk h_
    have c_BK1 := blk_cell h_
    have z_BK1 := blk_frozen h_
    clear h_
    have hB_ := below_step HB.out hb
    clear HB hb
    have HB := Aside0.mk hB_
    clear hB_
    refine hK.out _ _ ⟨(blk_cell BK1.out 0).trans rfl, (blk_cell BK1.out 1).trans rfl, (blk_cell BK1.out 2).trans rfl, (blk_cell BK1.out 3).trans rfl, (blk_cell BK1.out 4).trans rfl, (blk_cell BK1.out 5).trans rfl, (blk_cell BK1.out 6).trans rfl, (blk_cell BK1.out 7).trans rfl⟩ (fun hHeld => ?_)
    clear hK K
    refine norm_ (a' := ?_) ?_ ?_
    rotate_left
    · show Act.put _ (some 19) _ = _
      simp only [Act.put, List.setIfInBounds_toArray, List.set_cons_zero, List.set_cons_succ, i64_w, i32_w]
      rfl
    refine one_ (i := 3) (N := some 21) #[true, true, true, true, false, false] rfl rfl (by kernel_rfl) (by decide) (fun K hK => ?_)
    have hcall := laws_toSaved.calls a1_0 a1_1 a1_2 a1_3 a1_4 a1_5 a1_6 a1_7 t205 t206 t207 t208 t209 t210 t211 t212 W8  HM5.out
    refine goes_ Try.func50 (by kernel_rfl) rfl #[.agg #[.int .i64 a1_0, .int .i64 a1_1, .int .i64 a1_2, .int .i64 a1_3, .int .i64 a1_4, .int .i64 a1_5, .int .i64 a1_6, .int .i64 a1_7]] (by rfl) rfl rfl (by (try simp only [List.map_toArray, List.map_cons, List.map_nil]); first | done | rfl) ?_
    refine hcall.mono ?_
    rintro e W9 ⟨rfl, hb⟩
    refine ⟨_, rfl, ?_⟩
    clear hcall
    have Z9 := Aside0.mk hb.size
    have h_ := Kd.R_below HO8_0.out hb
    clear HO8_0
    have HO8_0 := Aside0.mk h_
    clear h_
    have h_ := blk_below BK1.out hb
    clear BK1 c_BK1 z_BK1
    have BK1 := Aside0.mk h_
    have c_BK1 := blk_cell h_
    have z_BK1 := blk_frozen h_
    clear h_
    have hB_ := below_step HB.out hb
    clear HB hb
    have HB := Aside0.mk hB_
    clear hB_
    refine hK.out _ _ ⟨(blk_cell BK1.out 0).trans rfl, (blk_cell BK1.out 1).trans rfl, (blk_cell BK1.out 2).trans rfl, (blk_cell BK1.out 3).trans rfl, (blk_cell BK1.out 4).trans rfl, (blk_cell BK1.out 5).trans rfl, (blk_cell BK1.out 6).trans rfl, (blk_cell BK1.out 7).trans rfl⟩ (fun hHeld => ?_)
    clear hK K
    refine norm_ (a' := ?_) ?_ ?_
    rotate_left
    · show Act.put _ (some 21) _ = _
      simp only [Act.put, List.setIfInBounds_toArray, List.set_cons_zero, List.set_cons_succ, i64_w, i32_w]
      rfl
    refine one_ (i := 4) (N := some 22) #[true, true, true, true, true, false] rfl rfl (by kernel_rfl) (by decide) (fun K hK => ?_)
    have hcall := spec_PutSaved.calls k _ _ t202 t205 t206 t207 t208 t209 t210 t211 t212 t213 W9 (Go.Proofs.YtoncnbcgpflhiaaM.R_C HO8_0.out) (Go.Proofs.YtoncnbcgpflhiaaM.R_len HO8_0.out) HM6.out
    rw [Go.Proofs.YtoncnbcgpflhiaaM.R_n HO8_0.out] at hcall
    refine goes_ Try.func49 (by kernel_rfl) rfl #[.slice A8_0 n8_0 c8_0, .agg #[.int .i64 t205, .int .i64 t206, .int .i64 t207, .int .i64 t208, .int .i64 t209, .int .i64 t210, .int .i64 t211, .int .i64 t212]] (by rfl) rfl rfl (by (try simp only [List.map_toArray, List.map_cons, List.map_nil]); first | done | rfl) ?_
    refine hcall.mono ?_
    rintro e W10 ⟨v214, rfl, ho0, hb⟩
    refine ⟨_, rfl, ?_⟩
    clear hcall
    have Z10 := Aside0.mk hb.size
    have h_ := Kd.R_below HO8_0.out hb
    clear HO8_0
    have HO8_0 := Aside0.mk h_
    clear h_
    obtain ⟨A10_0, n10_0, c10_0, rfl, hn_, hr_⟩ := Go.Proofs.YtoncnbcgpflhiaaM.Q_made ho0 HB.out.size
    clear hn_ ho0
    have HO10_0 := Aside0.mk hr_
    clear hr_
    have h_ := blk_below BK1.out hb
    clear BK1 c_BK1 z_BK1
    have BK1 := Aside0.mk h_
    have c_BK1 := blk_cell h_
    have z_BK1 := blk_frozen h_
    clear h_
    have hB_ := below_step HB.out hb
    clear HB hb
    have HB := Aside0.mk hB_
    clear hB_
    refine hK.out _ _ ⟨(blk_cell BK1.out 0).trans rfl, (blk_cell BK1.out 1).trans rfl, (blk_cell BK1.out 2).trans rfl, (blk_cell BK1.out 3).trans rfl, (blk_cell BK1.out 4).trans rfl, (blk_cell BK1.out 5).trans rfl, (blk_cell BK1.out 6).trans rfl, (blk_cell BK1.out 7).trans rfl⟩ (fun hHeld => ?_)
    clear hK K
    refine norm_ (a' := ?_) ?_ ?_
    rotate_left
    · show Act.put _ (some 22) _ = _
      simp only [Act.put, List.setIfInBounds_toArray, List.set_cons_zero, List.set_cons_succ, i64_w, i32_w]
      rfl
    refine pure_ (i := 5) (N := some 6) (v := ?_) (a' := ?_) #[true, true, true, true, true, true] rfl rfl (by kernel_rfl) (fun _ _ _ h => h) (Or.inl ⟨by rfl, ?_⟩) ?_ ?_
    rotate_left
    · intro w'
      go_simp
      with_reducible rfl
    rotate_left
    · simp only [Act.put, List.setIfInBounds_toArray, List.set_cons_zero, List.set_cons_succ, i64_w, i32_w]
      rfl
    refine done_ (by kernel_rfl) ?_
    clear hHeld
    have H := H'.out
    clear H'
    replace H := Option.bind_eq_some_iff.mp H
    obtain ⟨t216, hm, H⟩ := H
    try dsimp only at H
    have H' := Aside0.mk H
    clear H
    have hcall := laws_toSavedS.calls k _ _ l0 t216 W10 (Kd.C_below HR0.out HB.out) HC0.out hm
    clear hm
    go_wp2_with fail
    refine hcall.mono ?_
    rintro e W11 ⟨v217, rfl, ho0, hb⟩
    clear hcall
    have Z11 := Aside0.mk hb.size
    have h_ := Kd.R_below HO8_0.out hb
    clear HO8_0
    have HO8_0 := Aside0.mk h_
    clear h_
    have h_ := Kd.Q_below HO10_0.out hb
    clear HO10_0
    have HO10_0 := Aside0.mk h_
    clear h_
    obtain ⟨A11_0, n11_0, c11_0, rfl, hn_, hr_⟩ := Go.Proofs.YtoncnbcgpflhiaaM.R_made ho0 HB.out.size
    clear hn_ ho0
    have HO11_0 := Aside0.mk hr_
    clear hr_
    have h_ := blk_below BK1.out hb
    clear BK1 c_BK1 z_BK1
    have BK1 := Aside0.mk h_
    have c_BK1 := blk_cell h_
    have z_BK1 := blk_frozen h_
    clear h_
    have hB_ := below_step HB.out hb
    clear HB hb
    have HB := Aside0.mk hB_
    clear hB_
    have H := H'.out
    clear H'
    replace H := Option.bind_eq_some_iff.mp H
    obtain ⟨⟨t219, t220, t221, t222, t223, t224, t225, t226⟩, hm, H⟩ := H
    try dsimp only at H
    have H' := Aside0.mk H
    clear H
    have hcall := laws_toSaved.calls a1_0 a1_1 a1_2 a1_3 a1_4 a1_5 a1_6 a1_7 t219 t220 t221 t222 t223 t224 t225 t226 W11  hm
    clear hm
    go_wp2_with fail
    refine hcall.mono ?_
    rintro e W12 ⟨rfl, hb⟩
    clear hcall
    have Z12 := Aside0.mk hb.size
    have h_ := Kd.R_below HO8_0.out hb
    clear HO8_0
    have HO8_0 := Aside0.mk h_
    clear h_
    have h_ := Kd.Q_below HO10_0.out hb
    clear HO10_0
    have HO10_0 := Aside0.mk h_
    clear h_
    have h_ := Kd.R_below HO11_0.out hb
    clear HO11_0
    have HO11_0 := Aside0.mk h_
    clear h_
    have h_ := blk_below BK1.out hb
    clear BK1 c_BK1 z_BK1
    have BK1 := Aside0.mk h_
    have c_BK1 := blk_cell h_
    have z_BK1 := blk_frozen h_
    clear h_
    have hB_ := below_step HB.out hb
    clear HB hb
    have HB := Aside0.mk hB_
    clear hB_
    have H := H'.out
    clear H'
    replace H := Option.bind_eq_some_iff.mp H
    obtain ⟨t227, hm, H⟩ := H
    try dsimp only at H
    have H' := Aside0.mk H
    clear H
    have hcall := impl_PutSaved.calls k _ _ t216 t219 t220 t221 t222 t223 t224 t225 t226 t227 W12 (Go.Proofs.YtoncnbcgpflhiaaM.R_C HO11_0.out) (Go.Proofs.YtoncnbcgpflhiaaM.R_len HO11_0.out) hm
    rw [Go.Proofs.YtoncnbcgpflhiaaM.R_n HO11_0.out] at hcall
    clear hm
    go_wp2_with fail
    refine hcall.mono ?_
    rintro e W13 ⟨v228, rfl, ho0, hb⟩
    clear hcall
    have Z13 := Aside0.mk hb.size
    have h_ := Kd.R_below HO8_0.out hb
    clear HO8_0
    have HO8_0 := Aside0.mk h_
    clear h_
    have h_ := Kd.Q_below HO10_0.out hb
    clear HO10_0
    have HO10_0 := Aside0.mk h_
    clear h_
    have h_ := Kd.R_below HO11_0.out hb
    clear HO11_0
    have HO11_0 := Aside0.mk h_
    clear h_
    obtain ⟨A13_0, n13_0, c13_0, rfl, hn_, hr_⟩ := Go.Proofs.YtoncnbcgpflhiaaM.Q_made ho0 HB.out.size
    clear hn_ ho0
    have HO13_0 := Aside0.mk hr_
    clear hr_
    have h_ := blk_below BK1.out hb
    clear BK1 c_BK1 z_BK1
    have BK1 := Aside0.mk h_
    have c_BK1 := blk_cell h_
    have z_BK1 := blk_frozen h_
    clear h_
    have hB_ := below_step HB.out hb
    clear HB hb
    have HB := Aside0.mk hB_
    clear hB_
    have H := H'.out
    clear H'
    replace H := Option.bind_eq_some_iff.mp H
    obtain ⟨t230, hm, H⟩ := H
    try dsimp only at H
    have H' := Aside0.mk H
    clear H
    have hcall := laws_eqSavedS.calls k _ _ t227 _ _ t213 t230 W13 (Go.Proofs.YtoncnbcgpflhiaaM.Q_C HO13_0.out) (Go.Proofs.YtoncnbcgpflhiaaM.Q_len HO13_0.out) (Go.Proofs.YtoncnbcgpflhiaaM.Q_C HO10_0.out) (Go.Proofs.YtoncnbcgpflhiaaM.Q_len HO10_0.out) hm
    rw [Go.Proofs.YtoncnbcgpflhiaaM.Q_n HO13_0.out, Go.Proofs.YtoncnbcgpflhiaaM.Q_n HO10_0.out] at hcall
    clear hm
    go_wp2_with fail
    refine hcall.mono ?_
    rintro e W14 ⟨rfl, hb⟩
    clear hcall
    have Z14 := Aside0.mk hb.size
    have h_ := Kd.R_below HO8_0.out hb
    clear HO8_0
    have HO8_0 := Aside0.mk h_
    clear h_
    have h_ := Kd.Q_below HO10_0.out hb
    clear HO10_0
    have HO10_0 := Aside0.mk h_
    clear h_
    have h_ := Kd.R_below HO11_0.out hb
    clear HO11_0
    have HO11_0 := Aside0.mk h_
    clear h_
    have h_ := Kd.Q_below HO13_0.out hb
    clear HO13_0
    have HO13_0 := Aside0.mk h_
    clear h_
    have h_ := blk_below BK1.out hb
    clear BK1 c_BK1 z_BK1
    have BK1 := Aside0.mk h_
    have c_BK1 := blk_cell h_
    have z_BK1 := blk_frozen h_
    clear h_
    have hB_ := below_step HB.out hb
    clear HB hb
    have HB := Aside0.mk hB_
    clear hB_
    have H := H'.out
    clear H'
    by_cases c15 : t230 = true
    · rw [if_pos c15] at H
      subst c15
      replace H := Option.bind_eq_some_iff.mp H
      obtain ⟨t231, hm, H⟩ := H
      try dsimp only at H
      have H' := Aside0.mk H
      clear H
      have hcall := laws_toSavedS.calls k _ _ l0 t231 W14 (Kd.C_below HR0.out HB.out) HC0.out hm
      clear hm
      go_wp2_with fail
      refine hcall.mono ?_
      rintro e W16 ⟨v232, rfl, ho0, hb⟩
      clear hcall
      have Z16 := Aside0.mk hb.size
      have h_ := Kd.R_below HO8_0.out hb
      clear HO8_0
      have HO8_0 := Aside0.mk h_
      clear h_
      have h_ := Kd.Q_below HO10_0.out hb
      clear HO10_0
      have HO10_0 := Aside0.mk h_
      clear h_
      have h_ := Kd.R_below HO11_0.out hb
      clear HO11_0
      have HO11_0 := Aside0.mk h_
      clear h_
      have h_ := Kd.Q_below HO13_0.out hb
      clear HO13_0
      have HO13_0 := Aside0.mk h_
      clear h_
      obtain ⟨A16_0, n16_0, c16_0, rfl, hn_, hr_⟩ := Go.Proofs.YtoncnbcgpflhiaaM.R_made ho0 HB.out.size
      clear hn_ ho0
      have HO16_0 := Aside0.mk hr_
      clear hr_
      have h_ := blk_below BK1.out hb
      clear BK1 c_BK1 z_BK1
      have BK1 := Aside0.mk h_
      have c_BK1 := blk_cell h_
      have z_BK1 := blk_frozen h_
      clear h_
      have hB_ := below_step HB.out hb
      clear HB hb
      have HB := Aside0.mk hB_
      clear hB_
      have H := H'.out
      clear H'
      replace H := Option.bind_eq_some_iff.mp H
      obtain ⟨t234, hm, H⟩ := H
      try dsimp only at H
      have H' := Aside0.mk H
      clear H
      have hcall := laws_eqSavedS.calls k _ _ t216 _ _ t231 t234 W16 (Go.Proofs.YtoncnbcgpflhiaaM.R_C HO11_0.out) (Go.Proofs.YtoncnbcgpflhiaaM.R_len HO11_0.out) (Go.Proofs.YtoncnbcgpflhiaaM.R_C HO16_0.out) (Go.Proofs.YtoncnbcgpflhiaaM.R_len HO16_0.out) hm
      rw [Go.Proofs.YtoncnbcgpflhiaaM.R_n HO11_0.out, Go.Proofs.YtoncnbcgpflhiaaM.R_n HO16_0.out] at hcall
      clear hm
      go_wp2_with fail
      refine hcall.mono ?_
      rintro e W17 ⟨rfl, hb⟩
      clear hcall
      have Z17 := Aside0.mk hb.size
      have h_ := Kd.R_below HO8_0.out hb
      clear HO8_0
      have HO8_0 := Aside0.mk h_
      clear h_
      have h_ := Kd.Q_below HO10_0.out hb
      clear HO10_0
      have HO10_0 := Aside0.mk h_
      clear h_
      have h_ := Kd.R_below HO11_0.out hb
      clear HO11_0
      have HO11_0 := Aside0.mk h_
      clear h_
      have h_ := Kd.Q_below HO13_0.out hb
      clear HO13_0
      have HO13_0 := Aside0.mk h_
      clear h_
      have h_ := Kd.R_below HO16_0.out hb
      clear HO16_0
      have HO16_0 := Aside0.mk h_
      clear h_
      have h_ := blk_below BK1.out hb
      clear BK1 c_BK1 z_BK1
      have BK1 := Aside0.mk h_
      have c_BK1 := blk_cell h_
      have z_BK1 := blk_frozen h_
      clear h_
      have hB_ := below_step HB.out hb
      clear HB hb
      have HB := Aside0.mk hB_
      clear hB_
      have H := H'.out
      clear H'
      by_cases c18 : t234 = true
      · rw [if_pos c18] at H
        subst c18
        replace H := Option.bind_eq_some_iff.mp H
        obtain ⟨⟨t235, t236⟩, hm, H⟩ := H
        try dsimp only at H
        have H' := Aside0.mk H
        clear H
        replace HO11_0 := Aside0.mk (Kd.Q_of_R HO11_0.out)
        have hcall := laws_markSavedS.calls k (fun k_ => W10.heap.size ≤ k_ ∧ k_ < W11.heap.size) A11_0 n11_0 c11_0 t216 1 t235 t236 w W17 HB.out HO11_0.out hm
        clear hm
        go_wp2_with fail
        refine hcall.mono ?_
        rintro e W19 ⟨rfl, ho, hb, hkp⟩
        clear hcall
        clear HB
        have HB := Aside0.mk hb
        have Z19 := Aside0.mk hkp.1
        have HO19 := Aside0.mk (ho)
        clear ho HO11_0
        have h_ := Go.Proofs.YtoncnbcgpflhiaaM.R_else HO8_0.out hkp (by have := Z1.out; have := Z2.out; have := Z7.out; have := Z8.out; have := Z9.out; have := Z10.out; have := Z11.out; have := Z12.out; have := Z13.out; have := Z14.out; have := Z16.out; have := Z17.out; omega)
        clear HO8_0
        have HO8_0 := Aside0.mk h_
        clear h_
        have h_ := Go.Proofs.YtoncnbcgpflhiaaM.Q_else HO10_0.out hkp (by have := Z1.out; have := Z2.out; have := Z7.out; have := Z8.out; have := Z9.out; have := Z10.out; have := Z11.out; have := Z12.out; have := Z13.out; have := Z14.out; have := Z16.out; have := Z17.out; omega)
        clear HO10_0
        have HO10_0 := Aside0.mk h_
        clear h_
        have h_ := Go.Proofs.YtoncnbcgpflhiaaM.Q_else HO13_0.out hkp (by have := Z1.out; have := Z2.out; have := Z7.out; have := Z8.out; have := Z9.out; have := Z10.out; have := Z11.out; have := Z12.out; have := Z13.out; have := Z14.out; have := Z16.out; have := Z17.out; omega)
        clear HO13_0
        have HO13_0 := Aside0.mk h_
        clear h_
        have h_ := Go.Proofs.YtoncnbcgpflhiaaM.R_else HO16_0.out hkp (by have := Z1.out; have := Z2.out; have := Z7.out; have := Z8.out; have := Z9.out; have := Z10.out; have := Z11.out; have := Z12.out; have := Z13.out; have := Z14.out; have := Z16.out; have := Z17.out; omega)
        clear HO16_0
        have HO16_0 := Aside0.mk h_
        clear h_
        have h_ := blk_kept BK1.out hkp (fun hp_ => by have := E1.out; have := Z1.out; have := Z2.out; have := Z7.out; have := Z8.out; have := Z9.out; have := Z10.out; have := Z11.out; have := Z12.out; have := Z13.out; have := Z14.out; have := Z16.out; have := Z17.out; have := Z19.out; obtain ⟨_, _⟩ := hp_; omega)
        clear BK1 c_BK1 z_BK1
        have BK1 := Aside0.mk h_
        have c_BK1 := blk_cell h_
        have z_BK1 := blk_frozen h_
        clear h_
        clear hkp hb
        have H := H'.out
        clear H'
        by_cases c20 : t235 < 0
        · rw [if_pos c20] at H
          have c20_0 : decide (t235 < 0) = true := decide_eq_true c20
          clear c20
          obtain rfl := Option.some.inj H
          clear H
          go_wp2
          go_ret
          exact ⟨rfl, HB.out⟩
        · rw [if_neg c20] at H
          have c20_0 : decide (t235 < 0) = false := decide_eq_false c20
          clear c20
          replace H := Option.bind_eq_some_iff.mp H
          obtain ⟨t237, hm, H⟩ := H
          try dsimp only at H
          have H' := Aside0.mk H
          clear H
          have hcall := laws_eqSavedS.calls k _ _ t227 _ _ t213 t237 W19 (Go.Proofs.YtoncnbcgpflhiaaM.Q_C HO13_0.out) (Go.Proofs.YtoncnbcgpflhiaaM.Q_len HO13_0.out) (Go.Proofs.YtoncnbcgpflhiaaM.Q_C HO10_0.out) (Go.Proofs.YtoncnbcgpflhiaaM.Q_len HO10_0.out) hm
          rw [Go.Proofs.YtoncnbcgpflhiaaM.Q_n HO13_0.out, Go.Proofs.YtoncnbcgpflhiaaM.Q_n HO10_0.out] at hcall
          clear hm
          go_wp2_with fail
          refine hcall.mono ?_
          rintro e W21 ⟨rfl, hb⟩
          clear hcall
          have Z21 := Aside0.mk hb.size
          have h_ := Kd.R_below HO8_0.out hb
          clear HO8_0
          have HO8_0 := Aside0.mk h_
          clear h_
          have h_ := Kd.Q_below HO10_0.out hb
          clear HO10_0
          have HO10_0 := Aside0.mk h_
          clear h_
          have h_ := Kd.Q_below HO19.out hb
          clear HO19
          have HO19 := Aside0.mk h_
          clear h_
          have h_ := Kd.Q_below HO13_0.out hb
          clear HO13_0
          have HO13_0 := Aside0.mk h_
          clear h_
          have h_ := Kd.R_below HO16_0.out hb
          clear HO16_0
          have HO16_0 := Aside0.mk h_
          clear h_
          have h_ := blk_below BK1.out hb
          clear BK1 c_BK1 z_BK1
          have BK1 := Aside0.mk h_
          have c_BK1 := blk_cell h_
          have z_BK1 := blk_frozen h_
          clear h_
          have hB_ := below_step HB.out hb
          clear HB hb
          have HB := Aside0.mk hB_
          clear hB_
          have H := H'.out
          clear H'
          by_cases c22 : t237 = true
          · rw [if_pos c22] at H
            subst c22
            replace H := Option.bind_eq_some_iff.mp H
            obtain ⟨⟨t238, t239⟩, hm, H⟩ := H
            try dsimp only at H
            have H' := Aside0.mk H
            clear H
            have hcall := laws_markSavedS.calls k (fun k_ => W12.heap.size ≤ k_ ∧ k_ < W13.heap.size) A13_0 n13_0 c13_0 t227 1 t238 t239 w W21 HB.out HO13_0.out hm
            clear hm
            go_wp2_with fail
            refine hcall.mono ?_
            rintro e W23 ⟨rfl, ho, hb, hkp⟩
            clear hcall
            clear HB
            have HB := Aside0.mk hb
            have Z23 := Aside0.mk hkp.1
            have HO23 := Aside0.mk (ho)
            clear ho HO13_0
            have h_ := Go.Proofs.YtoncnbcgpflhiaaM.R_else HO8_0.out hkp (by have := Z1.out; have := Z2.out; have := Z7.out; have := Z8.out; have := Z9.out; have := Z10.out; have := Z11.out; have := Z12.out; have := Z13.out; have := Z14.out; have := Z16.out; have := Z17.out; have := Z19.out; have := Z21.out; omega)
            clear HO8_0
            have HO8_0 := Aside0.mk h_
            clear h_
            have h_ := Go.Proofs.YtoncnbcgpflhiaaM.Q_else HO10_0.out hkp (by have := Z1.out; have := Z2.out; have := Z7.out; have := Z8.out; have := Z9.out; have := Z10.out; have := Z11.out; have := Z12.out; have := Z13.out; have := Z14.out; have := Z16.out; have := Z17.out; have := Z19.out; have := Z21.out; omega)
            clear HO10_0
            have HO10_0 := Aside0.mk h_
            clear h_
            have h_ := Go.Proofs.YtoncnbcgpflhiaaM.Q_else HO19.out hkp (by have := Z1.out; have := Z2.out; have := Z7.out; have := Z8.out; have := Z9.out; have := Z10.out; have := Z11.out; have := Z12.out; have := Z13.out; have := Z14.out; have := Z16.out; have := Z17.out; have := Z19.out; have := Z21.out; omega)
            clear HO19
            have HO19 := Aside0.mk h_
            clear h_
            have h_ := Go.Proofs.YtoncnbcgpflhiaaM.R_else HO16_0.out hkp (by have := Z1.out; have := Z2.out; have := Z7.out; have := Z8.out; have := Z9.out; have := Z10.out; have := Z11.out; have := Z12.out; have := Z13.out; have := Z14.out; have := Z16.out; have := Z17.out; have := Z19.out; have := Z21.out; omega)
            clear HO16_0
            have HO16_0 := Aside0.mk h_
            clear h_
            have h_ := blk_kept BK1.out hkp (fun hp_ => by have := E1.out; have := Z1.out; have := Z2.out; have := Z7.out; have := Z8.out; have := Z9.out; have := Z10.out; have := Z11.out; have := Z12.out; have := Z13.out; have := Z14.out; have := Z16.out; have := Z17.out; have := Z19.out; have := Z21.out; have := Z23.out; obtain ⟨_, _⟩ := hp_; omega)
            clear BK1 c_BK1 z_BK1
            have BK1 := Aside0.mk h_
            have c_BK1 := blk_cell h_
            have z_BK1 := blk_frozen h_
            clear h_
            clear hkp hb
            have H := H'.out
            clear H'
            replace H := Option.bind_eq_some_iff.mp H
            obtain ⟨t240, hm, H⟩ := H
            try dsimp only at H
            have H' := Aside0.mk H
            clear H
            have hcall := laws_heldSavedS.calls k _ _ t239 1 t240 W23 (Go.Proofs.YtoncnbcgpflhiaaM.Q_C HO23.out) (Go.Proofs.YtoncnbcgpflhiaaM.Q_len HO23.out) hm
            rw [Go.Proofs.YtoncnbcgpflhiaaM.Q_n HO23.out] at hcall
            clear hm
            go_wp2_with fail
            refine hcall.mono ?_
            rintro e W24 ⟨rfl, hd⟩
            clear hcall
            have hb : Below W23.heap.size W23 W24 := hd.below
            clear hd
            have Z24 := Aside0.mk hb.size
            have h_ := Kd.R_below HO8_0.out hb
            clear HO8_0
            have HO8_0 := Aside0.mk h_
            clear h_
            have h_ := Kd.Q_below HO10_0.out hb
            clear HO10_0
            have HO10_0 := Aside0.mk h_
            clear h_
            have h_ := Kd.Q_below HO19.out hb
            clear HO19
            have HO19 := Aside0.mk h_
            clear h_
            have h_ := Kd.Q_below HO23.out hb
            clear HO23
            have HO23 := Aside0.mk h_
            clear h_
            have h_ := Kd.R_below HO16_0.out hb
            clear HO16_0
            have HO16_0 := Aside0.mk h_
            clear h_
            have h_ := blk_below BK1.out hb
            clear BK1 c_BK1 z_BK1
            have BK1 := Aside0.mk h_
            have c_BK1 := blk_cell h_
            have z_BK1 := blk_frozen h_
            clear h_
            have hB_ := below_step HB.out hb
            clear HB hb
            have HB := Aside0.mk hB_
            clear hB_
            have H := H'.out
            clear H'
            by_cases c25 : t240 < 0
            · rw [if_pos c25] at H
              have c25_0 : decide (t240 < 0) = true := decide_eq_true c25
              clear c25
              obtain rfl := Option.some.inj H
              clear H
              go_wp2
              go_ret
              exact ⟨rfl, HB.out⟩
            · rw [if_neg c25] at H
              have c25_0 : decide (t240 < 0) = false := decide_eq_false c25
              clear c25
              by_cases c26 : t240 = t238
              · rw [if_pos c26] at H
                have c26_1 : (t240 == t238) = true := beq_iff_eq.mpr c26
                have c26_2 : (t240 != t238) = false := bne_eq_false_iff_eq.mpr c26
                have c26_0 : decide (t240 = t238) = true := decide_eq_true c26
                clear c26
                replace H := Option.bind_eq_some_iff.mp H
                obtain ⟨t241, hm, H⟩ := H
                try dsimp only at H
                have HM27 := Aside0.mk hm
                clear hm
                replace H := Option.bind_eq_some_iff.mp H
                obtain ⟨⟨t244, t245, t246, t247, t248, t249, t250, t251⟩, hm, H⟩ := H
                try dsimp only at H
                have HM28 := Aside0.mk hm
                clear hm
                replace H := Option.bind_eq_some_iff.mp H
                obtain ⟨t252, hm, H⟩ := H
                try dsimp only at H
                have HM29 := Aside0.mk hm
                clear hm
                have H' := Aside0.mk H
                clear H
                try go_wp2
                have h_ := Kd.R_drew HO8_0.out
                clear HO8_0
                have HO8_0 := Aside0.mk h_
                clear h_
                have h_ := Kd.Q_drew HO10_0.out
                clear HO10_0
                have HO10_0 := Aside0.mk h_
                clear h_
                have h_ := Kd.Q_drew HO19.out
                clear HO19
                have HO19 := Aside0.mk h_
                clear h_
                have h_ := Kd.Q_drew HO23.out
                clear HO23
                have HO23 := Aside0.mk h_
                clear h_
                have h_ := Kd.R_drew HO16_0.out
                clear HO16_0
                have HO16_0 := Aside0.mk h_
                clear h_
                have h_ := blk_drew BK1.out
                clear BK1 c_BK1 z_BK1
                have BK1 := Aside0.mk h_
                clear h_
                have hB_ := below_drew1 HB.out
                clear HB
                have HB := Aside0.mk hB_
                clear hB_
                have Z30 : Aside0 (W24.heap.size ≤ W24.drew.heap.size) := ⟨Nat.le_refl _⟩
                refine start_ (n := 6) (S := fun w' => w'.cell? ⟨gb1, 0, none⟩ = some (.int .i64 a1_0) ∧ w'.cell? ⟨gb1, 1, none⟩ = some (.int .i64 a1_1) ∧ w'.cell? ⟨gb1, 2, none⟩ = some (.int .i64 a1_2) ∧ w'.cell? ⟨gb1, 3, none⟩ = some (.int .i64 a1_3) ∧ w'.cell? ⟨gb1, 4, none⟩ = some (.int .i64 a1_4) ∧ w'.cell? ⟨gb1, 5, none⟩ = some (.int .i64 a1_5) ∧ w'.cell? ⟨gb1, 6, none⟩ = some (.int .i64 a1_6) ∧ w'.cell? ⟨gb1, 7, none⟩ = some (.int .i64 a1_7)) (ds := []) #[false, false, false, false, false, false] (by kernel_rfl) rfl rfl ⟨(blk_cell BK1.out 0).trans rfl, (blk_cell BK1.out 1).trans rfl, (blk_cell BK1.out 2).trans rfl, (blk_cell BK1.out 3).trans rfl, (blk_cell BK1.out 4).trans rfl, (blk_cell BK1.out 5).trans rfl, (blk_cell BK1.out 6).trans rfl, (blk_cell BK1.out 7).trans rfl⟩ (fun hHeld => ?_)
                generalize W24.drew = W30 at Z30 HB BK1 HO8_0 HO10_0 HO19 HO23 HO16_0 hHeld ⊢
                have c_BK1 := blk_cell BK1.out
                have z_BK1 := blk_frozen BK1.out
                refine pure_ (i := 0) (N := some 60) (v := ?_) (a' := ?_) #[true, false, false, false, false, false] rfl rfl (by kernel_rfl) (fun _ _ _ h => h) (Or.inl ⟨by rfl, ?_⟩) ?_ ?_
                rotate_left
                · intro w'
                  go_simp
                  with_reducible rfl
                rotate_left
                · simp only [Act.put, List.setIfInBounds_toArray, List.set_cons_zero, List.set_cons_succ, i64_w, i32_w]
                  rfl
                refine take_ (i := 2) (N := some 62) (v := ?_) (a' := ?_) #[true, false, true, false, false, false] rfl rfl (by kernel_rfl) (fun _ _ _ h => h) (Or.inl ⟨by rfl, ?_⟩) hHeld ?_ ?_
                rotate_left
                · rintro w' ⟨s0, s1, s2, s3, s4, s5, s6, s7⟩
                  go_simp
                  with_reducible rfl
                rotate_left
                · simp only [Act.put, List.setIfInBounds_toArray, List.set_cons_zero, List.set_cons_succ, i64_w, i32_w]
                  rfl
                refine one_ (i := 1) (N := some 61) #[true, true, true, false, false, false] rfl rfl (by kernel_rfl) (by decide) (fun K hK => ?_)
                have hcall := laws_toSavedS.calls k _ _ l0 t241 W30 (Kd.C_below HR0.out HB.out) HC0.out HM27.out
                refine goes_ Try.func37 (by kernel_rfl) rfl #[.slice A0 l0.length c0] (by rfl) rfl rfl (by (try simp only [List.map_toArray, List.map_cons, List.map_nil]); first | done | rfl) ?_
                refine hcall.mono ?_
                rintro e W31 ⟨v242, rfl, ho0, hb⟩
                refine ⟨_, rfl, ?_⟩
                clear hcall
                have Z31 := Aside0.mk hb.size
                have h_ := Kd.R_below HO8_0.out hb
                clear HO8_0
                have HO8_0 := Aside0.mk h_
                clear h_
                have h_ := Kd.Q_below HO10_0.out hb
                clear HO10_0
                have HO10_0 := Aside0.mk h_
                clear h_
                have h_ := Kd.Q_below HO19.out hb
                clear HO19
                have HO19 := Aside0.mk h_
                clear h_
                have h_ := Kd.Q_below HO23.out hb
                clear HO23
                have HO23 := Aside0.mk h_
                clear h_
                have h_ := Kd.R_below HO16_0.out hb
                clear HO16_0
                have HO16_0 := Aside0.mk h_
                clear h_
                obtain ⟨A31_0, n31_0, c31_0, rfl, hn_, hr_⟩ := Go.Proofs.YtoncnbcgpflhiaaM.R_made ho0 HB.out.size
                clear hn_ ho0
                have HO31_0 := Aside0.mk hr_
                clear hr_
                have h_ := blk_below BK1.out hb
                clear BK1 c_BK1 z_BK1
                have BK1 := Aside0.mk h_
                have c_BK1 := blk_cell h_
                have z_BK1 := blk_frozen h_
                clear h_
                have hB_ := below_step HB.out hb
                clear HB hb
                have HB := Aside0.mk hB_
                clear hB_
                refine hK.out _ _ ⟨(blk_cell BK1.out 0).trans rfl, (blk_cell BK1.out 1).trans rfl, (blk_cell BK1.out 2).trans rfl, (blk_cell BK1.out 3).trans rfl, (blk_cell BK1.out 4).trans rfl, (blk_cell BK1.out 5).trans rfl, (blk_cell BK1.out 6).trans rfl, (blk_cell BK1.out 7).trans rfl⟩ (fun hHeld => ?_)
                clear hK K
                refine norm_ (a' := ?_) ?_ ?_
                rotate_left
                · show Act.put _ (some 61) _ = _
                  simp only [Act.put, List.setIfInBounds_toArray, List.set_cons_zero, List.set_cons_succ, i64_w, i32_w]
                  rfl
                refine one_ (i := 3) (N := some 63) #[true, true, true, true, false, false] rfl rfl (by kernel_rfl) (by decide) (fun K hK => ?_)
                have hcall := laws_toSaved.calls a1_0 a1_1 a1_2 a1_3 a1_4 a1_5 a1_6 a1_7 t244 t245 t246 t247 t248 t249 t250 t251 W31  HM28.out
                refine goes_ Try.func50 (by kernel_rfl) rfl #[.agg #[.int .i64 a1_0, .int .i64 a1_1, .int .i64 a1_2, .int .i64 a1_3, .int .i64 a1_4, .int .i64 a1_5, .int .i64 a1_6, .int .i64 a1_7]] (by rfl) rfl rfl (by (try simp only [List.map_toArray, List.map_cons, List.map_nil]); first | done | rfl) ?_
                refine hcall.mono ?_
                rintro e W32 ⟨rfl, hb⟩
                refine ⟨_, rfl, ?_⟩
                clear hcall
                have Z32 := Aside0.mk hb.size
                have h_ := Kd.R_below HO8_0.out hb
                clear HO8_0
                have HO8_0 := Aside0.mk h_
                clear h_
                have h_ := Kd.Q_below HO10_0.out hb
                clear HO10_0
                have HO10_0 := Aside0.mk h_
                clear h_
                have h_ := Kd.Q_below HO19.out hb
                clear HO19
                have HO19 := Aside0.mk h_
                clear h_
                have h_ := Kd.Q_below HO23.out hb
                clear HO23
                have HO23 := Aside0.mk h_
                clear h_
                have h_ := Kd.R_below HO16_0.out hb
                clear HO16_0
                have HO16_0 := Aside0.mk h_
                clear h_
                have h_ := Kd.R_below HO31_0.out hb
                clear HO31_0
                have HO31_0 := Aside0.mk h_
                clear h_
                have h_ := blk_below BK1.out hb
                clear BK1 c_BK1 z_BK1
                have BK1 := Aside0.mk h_
                have c_BK1 := blk_cell h_
                have z_BK1 := blk_frozen h_
                clear h_
                have hB_ := below_step HB.out hb
                clear HB hb
                have HB := Aside0.mk hB_
                clear hB_
                refine hK.out _ _ ⟨(blk_cell BK1.out 0).trans rfl, (blk_cell BK1.out 1).trans rfl, (blk_cell BK1.out 2).trans rfl, (blk_cell BK1.out 3).trans rfl, (blk_cell BK1.out 4).trans rfl, (blk_cell BK1.out 5).trans rfl, (blk_cell BK1.out 6).trans rfl, (blk_cell BK1.out 7).trans rfl⟩ (fun hHeld => ?_)
                clear hK K
                refine norm_ (a' := ?_) ?_ ?_
                rotate_left
                · show Act.put _ (some 63) _ = _
                  simp only [Act.put, List.setIfInBounds_toArray, List.set_cons_zero, List.set_cons_succ, i64_w, i32_w]
                  rfl
                refine one_ (i := 4) (N := some 64) #[true, true, true, true, true, false] rfl rfl (by kernel_rfl) (by decide) (fun K hK => ?_)
                have hcall := impl_PutSaved.calls k _ _ t241 t244 t245 t246 t247 t248 t249 t250 t251 t252 W32 (Go.Proofs.YtoncnbcgpflhiaaM.R_C HO31_0.out) (Go.Proofs.YtoncnbcgpflhiaaM.R_len HO31_0.out) HM29.out
                rw [Go.Proofs.YtoncnbcgpflhiaaM.R_n HO31_0.out] at hcall
                refine goes_ Try.func51 (by kernel_rfl) rfl #[.slice A31_0 n31_0 c31_0, .agg #[.int .i64 t244, .int .i64 t245, .int .i64 t246, .int .i64 t247, .int .i64 t248, .int .i64 t249, .int .i64 t250, .int .i64 t251]] (by rfl) rfl rfl (by (try simp only [List.map_toArray, List.map_cons, List.map_nil]); first | done | rfl) ?_
                refine hcall.mono ?_
                rintro e W33 ⟨v253, rfl, ho0, hb⟩
                refine ⟨_, rfl, ?_⟩
                clear hcall
                have Z33 := Aside0.mk hb.size
                have h_ := Kd.R_below HO8_0.out hb
                clear HO8_0
                have HO8_0 := Aside0.mk h_
                clear h_
                have h_ := Kd.Q_below HO10_0.out hb
                clear HO10_0
                have HO10_0 := Aside0.mk h_
                clear h_
                have h_ := Kd.Q_below HO19.out hb
                clear HO19
                have HO19 := Aside0.mk h_
                clear h_
                have h_ := Kd.Q_below HO23.out hb
                clear HO23
                have HO23 := Aside0.mk h_
                clear h_
                have h_ := Kd.R_below HO16_0.out hb
                clear HO16_0
                have HO16_0 := Aside0.mk h_
                clear h_
                have h_ := Kd.R_below HO31_0.out hb
                clear HO31_0
                have HO31_0 := Aside0.mk h_
                clear h_
                obtain ⟨A33_0, n33_0, c33_0, rfl, hn_, hr_⟩ := Go.Proofs.YtoncnbcgpflhiaaM.Q_made ho0 HB.out.size
                clear hn_ ho0
                have HO33_0 := Aside0.mk hr_
                clear hr_
                have h_ := blk_below BK1.out hb
                clear BK1 c_BK1 z_BK1
                have BK1 := Aside0.mk h_
                have c_BK1 := blk_cell h_
                have z_BK1 := blk_frozen h_
                clear h_
                have hB_ := below_step HB.out hb
                clear HB hb
                have HB := Aside0.mk hB_
                clear hB_
                refine hK.out _ _ ⟨(blk_cell BK1.out 0).trans rfl, (blk_cell BK1.out 1).trans rfl, (blk_cell BK1.out 2).trans rfl, (blk_cell BK1.out 3).trans rfl, (blk_cell BK1.out 4).trans rfl, (blk_cell BK1.out 5).trans rfl, (blk_cell BK1.out 6).trans rfl, (blk_cell BK1.out 7).trans rfl⟩ (fun hHeld => ?_)
                clear hK K
                refine norm_ (a' := ?_) ?_ ?_
                rotate_left
                · show Act.put _ (some 64) _ = _
                  simp only [Act.put, List.setIfInBounds_toArray, List.set_cons_zero, List.set_cons_succ, i64_w, i32_w]
                  rfl
                refine pure_ (i := 5) (N := some 12) (v := ?_) (a' := ?_) #[true, true, true, true, true, true] rfl rfl (by kernel_rfl) (fun _ _ _ h => h) (Or.inl ⟨by rfl, ?_⟩) ?_ ?_
                rotate_left
                · intro w'
                  go_simp
                  with_reducible rfl
                rotate_left
                · simp only [Act.put, List.setIfInBounds_toArray, List.set_cons_zero, List.set_cons_succ, i64_w, i32_w]
                  rfl
                refine done_ (by kernel_rfl) ?_
                clear hHeld
                have H := H'.out
                clear H'
                replace H := Option.bind_eq_some_iff.mp H
                obtain ⟨t255, hm, H⟩ := H
                try dsimp only at H
                have H' := Aside0.mk H
                clear H
                have hcall := laws_eqSavedS.calls k _ _ t252 _ _ t213 t255 W33 (Go.Proofs.YtoncnbcgpflhiaaM.Q_C HO33_0.out) (Go.Proofs.YtoncnbcgpflhiaaM.Q_len HO33_0.out) (Go.Proofs.YtoncnbcgpflhiaaM.Q_C HO10_0.out) (Go.Proofs.YtoncnbcgpflhiaaM.Q_len HO10_0.out) hm
                rw [Go.Proofs.YtoncnbcgpflhiaaM.Q_n HO33_0.out, Go.Proofs.YtoncnbcgpflhiaaM.Q_n HO10_0.out] at hcall
                clear hm
                go_wp2_with fail
                refine hcall.mono ?_
                rintro e W34 ⟨rfl, hb⟩
                clear hcall
                have Z34 := Aside0.mk hb.size
                have h_ := Kd.R_below HO8_0.out hb
                clear HO8_0
                have HO8_0 := Aside0.mk h_
                clear h_
                have h_ := Kd.Q_below HO10_0.out hb
                clear HO10_0
                have HO10_0 := Aside0.mk h_
                clear h_
                have h_ := Kd.Q_below HO19.out hb
                clear HO19
                have HO19 := Aside0.mk h_
                clear h_
                have h_ := Kd.Q_below HO23.out hb
                clear HO23
                have HO23 := Aside0.mk h_
                clear h_
                have h_ := Kd.R_below HO16_0.out hb
                clear HO16_0
                have HO16_0 := Aside0.mk h_
                clear h_
                have h_ := Kd.R_below HO31_0.out hb
                clear HO31_0
                have HO31_0 := Aside0.mk h_
                clear h_
                have h_ := Kd.Q_below HO33_0.out hb
                clear HO33_0
                have HO33_0 := Aside0.mk h_
                clear h_
                have h_ := blk_below BK1.out hb
                clear BK1 c_BK1 z_BK1
                have BK1 := Aside0.mk h_
                have c_BK1 := blk_cell h_
                have z_BK1 := blk_frozen h_
                clear h_
                have hB_ := below_step HB.out hb
                clear HB hb
                have HB := Aside0.mk hB_
                clear hB_
                have H := H'.out
                clear H'
                by_cases c35 : t255 = true
                · rw [if_pos c35] at H
                  subst c35
                  replace H := Option.bind_eq_some_iff.mp H
                  obtain ⟨t256, hm, H⟩ := H
                  try dsimp only at H
                  have H' := Aside0.mk H
                  clear H
                  have hcall := laws_heldSavedS.calls k _ _ t239 1 t256 W34 (Go.Proofs.YtoncnbcgpflhiaaM.Q_C HO23.out) (Go.Proofs.YtoncnbcgpflhiaaM.Q_len HO23.out) hm
                  rw [Go.Proofs.YtoncnbcgpflhiaaM.Q_n HO23.out] at hcall
                  clear hm
                  go_wp2_with fail
                  refine hcall.mono ?_
                  rintro e W36 ⟨rfl, hd⟩
                  clear hcall
                  have hb : Below W34.heap.size W34 W36 := hd.below
                  clear hd
                  have Z36 := Aside0.mk hb.size
                  have h_ := Kd.R_below HO8_0.out hb
                  clear HO8_0
                  have HO8_0 := Aside0.mk h_
                  clear h_
                  have h_ := Kd.Q_below HO10_0.out hb
                  clear HO10_0
                  have HO10_0 := Aside0.mk h_
                  clear h_
                  have h_ := Kd.Q_below HO19.out hb
                  clear HO19
                  have HO19 := Aside0.mk h_
                  clear h_
                  have h_ := Kd.Q_below HO23.out hb
                  clear HO23
                  have HO23 := Aside0.mk h_
                  clear h_
                  have h_ := Kd.R_below HO16_0.out hb
                  clear HO16_0
                  have HO16_0 := Aside0.mk h_
                  clear h_
                  have h_ := Kd.R_below HO31_0.out hb
                  clear HO31_0
                  have HO31_0 := Aside0.mk h_
                  clear h_
                  have h_ := Kd.Q_below HO33_0.out hb
                  clear HO33_0
                  have HO33_0 := Aside0.mk h_
                  clear h_
                  have h_ := blk_below BK1.out hb
                  clear BK1 c_BK1 z_BK1
                  have BK1 := Aside0.mk h_
                  have c_BK1 := blk_cell h_
                  have z_BK1 := blk_frozen h_
                  clear h_
                  have hB_ := below_step HB.out hb
                  clear HB hb
                  have HB := Aside0.mk hB_
                  clear hB_
                  have H := H'.out
                  clear H'
                  by_cases c37 : t256 < 0
                  · rw [if_pos c37] at H
                    have c37_0 : decide (t256 < 0) = true := decide_eq_true c37
                    clear c37
                    obtain rfl := Option.some.inj H
                    clear H
                    go_wp2
                    go_ret
                    exact ⟨rfl, HB.out⟩
                  · rw [if_neg c37] at H
                    have c37_0 : decide (t256 < 0) = false := decide_eq_false c37
                    clear c37
                    by_cases c38 : t256 = t238
                    · rw [if_pos c38] at H
                      have c38_1 : (t256 == t238) = true := beq_iff_eq.mpr c38
                      have c38_2 : (t256 != t238) = false := bne_eq_false_iff_eq.mpr c38
                      have c38_0 : decide (t256 = t238) = true := decide_eq_true c38
                      clear c38
                      obtain rfl := Option.some.inj H
                      clear H
                      go_wp2
                      go_ret
                      exact ⟨rfl, HB.out⟩
                    · rw [if_neg c38] at H
                      have c38_1 : (t256 == t238) = false := beq_eq_false_iff_ne.mpr c38
                      have c38_2 : (t256 != t238) = true := bne_iff_ne.mpr c38
                      have c38_0 : decide (t256 = t238) = false := decide_eq_false c38
                      clear c38
                      obtain rfl := Option.some.inj H
                      clear H
                      go_wp2
                      go_ret
                      exact ⟨rfl, HB.out⟩
                · rw [if_neg c35] at H
                  replace c35 : t255 = false := by simpa using c35
                  subst c35
                  obtain rfl := Option.some.inj H
                  clear H
                  go_wp2
                  go_ret
                  exact ⟨rfl, HB.out⟩
              · rw [if_neg c26] at H
                have c26_1 : (t240 == t238) = false := beq_eq_false_iff_ne.mpr c26
                have c26_2 : (t240 != t238) = true := bne_iff_ne.mpr c26
                have c26_0 : decide (t240 = t238) = false := decide_eq_false c26
                clear c26
                obtain rfl := Option.some.inj H
                clear H
                go_wp2
                go_ret
                exact ⟨rfl, HB.out⟩
          · rw [if_neg c22] at H
            replace c22 : t237 = false := by simpa using c22
            subst c22
            obtain rfl := Option.some.inj H
            clear H
            go_wp2
            go_ret
            exact ⟨rfl, HB.out⟩
      · rw [if_neg c18] at H
        replace c18 : t234 = false := by simpa using c18
        subst c18
        obtain rfl := Option.some.inj H
        clear H
        go_wp2
        go_ret
        exact ⟨rfl, HB.out⟩
    · rw [if_neg c15] at H
      replace c15 : t230 = false := by simpa using c15
      subst c15
      obtain rfl := Option.some.inj H
      clear H
      go_wp2
      go_ret
      exact ⟨rfl, HB.out⟩

section
open Go.Proofs.YtoncnbcgpflhiaaO
def g66 (x : S66) : Prop := (Lit.int .i64 x.f0).wf = true ∧ (Lit.int .i64 x.f1).wf = true ∧ (Lit.int .i64 x.f2).wf = true ∧ (Lit.int .i64 x.f3).wf = true ∧ (Lit.int .i64 x.f4).wf = true ∧ (Lit.int .i64 x.f5).wf = true
theorem opens66 (n : Nat) : Opens Try.prog 66 k66 g66 n :=
  opens_imp (opens_iso (fun x : S66 => (x.f0, x.f1, x.f2, x.f3, x.f4, x.f5)) (fun x => (⟨x.1, x.2.1, x.2.2.1, x.2.2.2.1, x.2.2.2.2.1, x.2.2.2.2.2⟩ : S66)) (fun _ => rfl) (opens_struct Try.underlying66 (by kernel_rfl) fun m _ => (fields_cons rfl (by kernel_rfl) (opens_int Try.underlying3 m) (fields_cons rfl (by kernel_rfl) (opens_int Try.underlying3 m) (fields_cons rfl (by kernel_rfl) (opens_int Try.underlying3 m) (fields_cons rfl (by kernel_rfl) (opens_int Try.underlying3 m) (fields_cons rfl (by kernel_rfl) (opens_int Try.underlying3 m) (fields_one rfl (by kernel_rfl) (opens_int Try.underlying3 m))))))))) (fun _ h => h)
def g68 (x : S68) : Prop := g66 x.f0 ∧ (Lit.int .i64 x.f1).wf = true ∧ (Lit.int .i64 x.f2).wf = true
theorem opens68 (n : Nat) : Opens Try.prog 68 k68 g68 n :=
  opens_imp (opens_iso (fun x : S68 => (x.f0, x.f1, x.f2)) (fun x => (⟨x.1, x.2.1, x.2.2⟩ : S68)) (fun _ => rfl) (opens_struct Try.underlying68 (by kernel_rfl) fun m _ => (fields_cons rfl (by kernel_rfl) (opens66 m) (fields_cons rfl (by kernel_rfl) (opens_int Try.underlying3 m) (fields_one rfl (by kernel_rfl) (opens_int Try.underlying3 m)))))) (fun _ h => h)
end
/-- What is left to show of laws_FnExactPutSaved: over numbers and lists alone. -/
def laws_FnExactPutSaved.Pure : Prop := ∀ (l0 : List (S68)) (x1 : S68), l0.length ≤ maxLen → (∀ y_ ∈ l0, g68 y_) → g68 x1 → ∃ k, laws_FnExactPutSaved.f k l0 x1.f0.f0 x1.f0.f1 x1.f0.f2 x1.f0.f3 x1.f0.f4 x1.f0.f5 x1.f1 x1.f2 = some true

end Go.Proofs.Ytoncnbcgpflhiaa.QFnExactPutSaved
