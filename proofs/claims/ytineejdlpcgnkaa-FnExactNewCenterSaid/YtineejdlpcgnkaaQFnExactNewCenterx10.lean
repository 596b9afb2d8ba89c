/- The machine side of FnExactNewCenter: what each function that it reaches computes, and that the machine's call gives just that. -/
import Derived.Test.YtineejdlpcgnkaaQFnExactNewCenterx0
import Derived.Test.YtineejdlpcgnkaaQFnExactNewCenterx1
import Derived.Test.YtineejdlpcgnkaaQFnExactNewCenterx5
import Derived.Test.YtineejdlpcgnkaaQFnExactNewCenterx6
import Derived.Test.YtineejdlpcgnkaaQFnExactNewCenterx9
namespace Go.Proofs.Ytineejdlpcgnkaa.QFnExactNewCenter
open Go.RowKit Go.Proofs.YtineejdlpcgnkaaW.PrintWords Go.Proofs.YtineejdlpcgnkaaW.PrintLast Go.Proofs.YtineejdlpcgnkaaW.PrintMore
attribute [local go_sem] max2_int min2_int max_two min_two max_three min_three max_four min_four   -- for this text's walks alone
set_option linter.unusedVariables false
set_option linter.unusedSimpArgs false

/-! ### laws_FnExactNewCenter: function 7 -/
def laws_FnExactNewCenter.f (k : Nat)  : Option (Bool) := (spec_NewCenter.f).bind fun bt216 => ((impl_NewCenter.f).bind fun bt233 => ((laws_eqCenter.f k bt233.1 bt233.2.1 bt233.2.2.1 bt233.2.2.2.1 bt233.2.2.2.2.1 bt233.2.2.2.2.2 bt216.1 bt216.2.1 bt216.2.2.1 bt216.2.2.2.1 bt216.2.2.2.2.1 bt216.2.2.2.2.2).bind fun t250 => (if t250 = true then ((laws_markCenter.f k bt233.1 bt233.2.1 bt233.2.2.1 bt233.2.2.2.1 bt233.2.2.2.2.1 bt233.2.2.2.2.2 1).bind fun bt251 => ((laws_heldCenter.f k bt251.2 bt233.2.1 bt233.2.2.1 bt233.2.2.2.1 bt233.2.2.2.2.1 bt233.2.2.2.2.2 1).bind fun t253 => (if t253 < 0 then (some false) else (if t253 = bt251.1 then ((impl_NewCenter.f).bind fun bt254 => ((laws_eqCenter.f k bt254.1 bt254.2.1 bt254.2.2.1 bt254.2.2.2.1 bt254.2.2.2.2.1 bt254.2.2.2.2.2 bt216.1 bt216.2.1 bt216.2.2.1 bt216.2.2.2.1 bt216.2.2.2.2.1 bt216.2.2.2.2.2).bind fun t271 => (if t271 = true then ((laws_heldCenter.f k bt251.2 bt233.2.1 bt233.2.2.1 bt233.2.2.2.1 bt233.2.2.2.2.1 bt233.2.2.2.2.2 1).bind fun t272 => (if t272 < 0 then (some false) else (if t272 = bt251.1 then (some true) else (some false)))) else (some false)))) else (some false))))) else (some false))))
set_option maxHeartbeats 8000000 in
set_option maxRecDepth 100000 in
theorem laws_FnExactNewCenter.calls (k : Nat)  (r : Bool) (w : World) (h : laws_FnExactNewCenter.f k  = some r) :
    Calls Try.prog 7 #[] w fun e w' => e = .returned (.bool r) ∧ Below w.heap.size w w' := by
  have HB := Aside0.mk (Below.refl w.heap.size w)
  have H := h
  clear h
  unfold laws_FnExactNewCenter.f at H
  have hu64 := Try.underlying64
  go_enter Try.func7, Try.ntmps7
  replace H := Option.bind_eq_some_iff.mp H
  obtain ⟨⟨t216, t219, t222, t225, t228, t229⟩, hm, H⟩ := H
  try dsimp only at H
  have H' := Aside0.mk H
  clear H
  have hcall := spec_NewCenter.calls  t216 t219 t222 t225 t228 t229 w  hm
  clear hm
  go_wp2_with fail
  refine hcall.mono ?_
  rintro e W1 ⟨v217, v220, v223, v226, v230, rfl, ho0, ho1, ho2, ho3, ho4, hb⟩
  clear hcall
  have Z1 := Aside0.mk hb.size
  obtain ⟨A1_0, n1_0, c1_0, rfl, hn_, hr_⟩ := Go.Proofs.YtineejdlpcgnkaaM.S_made ho0 HB.out.size
  clear hn_ ho0
  have HO1_0 := Aside0.mk hr_
  clear hr_
  obtain ⟨A1_1, n1_1, c1_1, rfl, hn_, hr_⟩ := Go.Proofs.YtineejdlpcgnkaaM.R_made ho1 HB.out.size
  clear hn_ ho1
  have HO1_1 := Aside0.mk hr_
  clear hr_
  obtain ⟨A1_2, n1_2, c1_2, rfl, hn_, hr_⟩ := Go.Proofs.YtineejdlpcgnkaaM.R_made ho2 HB.out.size
  clear hn_ ho2
  have HO1_2 := Aside0.mk hr_
  clear hr_
  obtain ⟨A1_3, n1_3, c1_3, rfl, hn_, hr_⟩ := Go.Proofs.YtineejdlpcgnkaaM.R_made ho3 HB.out.size
  clear hn_ ho3
  have HO1_3 := Aside0.mk hr_
  clear hr_
  obtain ⟨A1_4, n1_4, c1_4, rfl, hn_, hr_⟩ := Go.Proofs.YtineejdlpcgnkaaM.R_made ho4 HB.out.size
  clear hn_ ho4
  have HO1_4 := Aside0.mk hr_
  clear hr_
  have hB_ := below_step HB.out hb
  clear HB hb
  have HB := Aside0.mk hB_
  clear hB_
  have H := H'.out
  clear H'
  have H'' := Aside0.mk H
  clear H
  go_wp2_with (first | ((with_reducible refine gate_dst (N := 1) rfl ?_); refine box_event ?hg (N := 1) ?hd (cs := #[.slice none 0 0, .slice none 0 0, .slice none 0 0, .slice none 0 0, .int .i64 0, .slice none 0 0]) (t := 64) ?hr ?_; (case hd => rfl); (case hg => rfl); (case hr => first | (go_simp; done) | (go_simp; rfl)); intro gb2 hg W2 hbox hb; have Z2 := Aside0.mk hb.size; have E2 := Aside0.mk (And.intro hg (blk_lt hbox)); have h_ := Kd.S_below HO1_0.out hb; clear HO1_0; have HO1_0 := Aside0.mk h_; clear h_; have h_ := Kd.R_below HO1_1.out hb; clear HO1_1; have HO1_1 := Aside0.mk h_; clear h_; have h_ := Kd.R_below HO1_2.out hb; clear HO1_2; have HO1_2 := Aside0.mk h_; clear h_; have h_ := Kd.R_below HO1_3.out hb; clear HO1_3; have HO1_3 := Aside0.mk h_; clear h_; have h_ := Kd.R_below HO1_4.out hb; clear HO1_4; have HO1_4 := Aside0.mk h_; clear h_; have BK2 := Aside0.mk hbox; have c_BK2 := blk_cell hbox; have z_BK2 := blk_frozen hbox; have hB_ := below_step HB.out hb; clear HB hb hbox hg; have HB := Aside0.mk hB_; clear hB_) | ((with_reducible refine gate_store (t := 64) (p := 1) rfl ?_); refine store_event (t := 64) (p := 1) (v := ?vo_s3) (w1 := ((((((W2.setCell ⟨gb2, 0, none⟩ (.slice A1_0 n1_0 c1_0)).setCell ⟨gb2, 1, none⟩ (.slice A1_1 n1_1 c1_1)).setCell ⟨gb2, 2, none⟩ (.slice A1_2 n1_2 c1_2)).setCell ⟨gb2, 3, none⟩ (.slice A1_3 n1_3 c1_3)).setCell ⟨gb2, 4, none⟩ (.int .i64 t228)).setCell ⟨gb2, 5, none⟩ (.slice A1_4 n1_4 c1_4))) ?hg ?ho ?hn ?hr ?_; (case ho => rfl); (case hg => rfl); (case hn => rfl); (case hr => first | (go_simp; done) | (go_simp; rfl)); intro W3 hw; have hk_ : Kept W2 W3 (fun k_ => k_ = gb2) := (by rw [hw]; exact Kept.setCell (Kept.setCell (Kept.setCell (Kept.setCell (Kept.setCell (Kept.setCell (Kept.refl W2 (fun k_ => k_ = gb2)) (.inl rfl) _) (.inl rfl) _) (.inl rfl) _) (.inl rfl) _) (.inl rfl) _) (.inl rfl) _); have hge_ : w.heap.size ≤ gb2 := (by have := E2.out.1; have := HB.out.size; have := Z1.out; have := Z2.out; omega); have Z3 := Aside0.mk hk_.1; have h_ := Kd.S_step HO1_0.out (fun k_ h1_ h2_ => hk_.2 k_ h2_ (fun h3_ => by obtain ⟨_, _⟩ := h1_; have := E2.out; have := Z1.out; have := Z2.out; omega)); clear HO1_0; have HO1_0 := Aside0.mk h_; clear h_; have h_ := Kd.R_step HO1_1.out (fun k_ h1_ h2_ => hk_.2 k_ h2_ (fun h3_ => by obtain ⟨_, _⟩ := h1_; have := E2.out; have := Z1.out; have := Z2.out; omega)); clear HO1_1; have HO1_1 := Aside0.mk h_; clear h_; have h_ := Kd.R_step HO1_2.out (fun k_ h1_ h2_ => hk_.2 k_ h2_ (fun h3_ => by obtain ⟨_, _⟩ := h1_; have := E2.out; have := Z1.out; have := Z2.out; omega)); clear HO1_2; have HO1_2 := Aside0.mk h_; clear h_; have h_ := Kd.R_step HO1_3.out (fun k_ h1_ h2_ => hk_.2 k_ h2_ (fun h3_ => by obtain ⟨_, _⟩ := h1_; have := E2.out; have := Z1.out; have := Z2.out; omega)); clear HO1_3; have HO1_3 := Aside0.mk h_; clear h_; have h_ := Kd.R_step HO1_4.out (fun k_ h1_ h2_ => hk_.2 k_ h2_ (fun h3_ => by obtain ⟨_, _⟩ := h1_; have := E2.out; have := Z1.out; have := Z2.out; omega)); clear HO1_4; have HO1_4 := Aside0.mk h_; clear h_; have h_ := blk_set (blk_set (blk_set (blk_set (blk_set (blk_set (BK2.out) 0 (.slice A1_0 n1_0 c1_0)) 1 (.slice A1_1 n1_1 c1_1)) 2 (.slice A1_2 n1_2 c1_2)) 3 (.slice A1_3 n1_3 c1_3)) 4 (.int .i64 t228)) 5 (.slice A1_4 n1_4 c1_4); rw [← hw] at h_; simp only [List.setIfInBounds_toArray, List.set_cons_zero, List.set_cons_succ] at h_; clear BK2 c_BK2 z_BK2; have BK2 := Aside0.mk h_; have c_BK2 := blk_cell h_; have z_BK2 := blk_frozen h_; clear h_; have hB_ : Below w.heap.size w W3 := (by rw [hw]; exact below_set (below_set (below_set (below_set (below_set (below_set (HB.out) hge_) hge_) hge_) hge_) hge_) hge_); clear HB hw hk_ hge_; have HB := Aside0.mk hB_; clear hB_))
  have H := H''.out
  clear H''
  replace H := Option.bind_eq_some_iff.mp H
  obtain ⟨⟨t233, t236, t239, t242, t245, t246⟩, hm, H⟩ := H
  try dsimp only at H
  have H' := Aside0.mk H
  clear H
  have hcall := impl_NewCenter.calls  t233 t236 t239 t242 t245 t246 W3  hm
  clear hm
  try go_wp2_with fail
  refine hcall.mono ?_
  rintro e W4 ⟨v234, v237, v240, v243, v247, rfl, ho0, ho1, ho2, ho3, ho4, hb⟩
  clear hcall
  have Z4 := Aside0.mk hb.size
  have h_ := Kd.S_below HO1_0.out hb
  clear HO1_0
  have HO1_0 := Aside0.mk h_
  clear h_
  have h_ := Kd.R_below HO1_1.out hb
  clear HO1_1
  have HO1_1 := Aside0.mk h_
  clear h_
  have h_ := Kd.R_below HO1_2.out hb
  clear HO1_2
  have HO1_2 := Aside0.mk h_
  clear h_
  have h_ := Kd.R_below HO1_3.out hb
  clear HO1_3
  have HO1_3 := Aside0.mk h_
  clear h_
  have h_ := Kd.R_below HO1_4.out hb
  clear HO1_4
  have HO1_4 := Aside0.mk h_
  clear h_
  obtain ⟨A4_0, n4_0, c4_0, rfl, hn_, hr_⟩ := Go.Proofs.YtineejdlpcgnkaaM.S_made ho0 HB.out.size
  clear hn_ ho0
  have HO4_0 := Aside0.mk hr_
  clear hr_
  obtain ⟨A4_1, n4_1, c4_1, rfl, hn_, hr_⟩ := Go.Proofs.YtineejdlpcgnkaaM.R_made ho1 HB.out.size
  clear hn_ ho1
  have HO4_1 := Aside0.mk hr_
  clear hr_
  obtain ⟨A4_2, n4_2, c4_2, rfl, hn_, hr_⟩ := Go.Proofs.YtineejdlpcgnkaaM.R_made ho2 HB.out.size
  clear hn_ ho2
  have HO4_2 := Aside0.mk hr_
  clear hr_
  obtain ⟨A4_3, n4_3, c4_3, rfl, hn_, hr_⟩ := Go.Proofs.YtineejdlpcgnkaaM.R_made ho3 HB.out.size
  clear hn_ ho3
  have HO4_3 := Aside0.mk hr_
  clear hr_
  obtain ⟨A4_4, n4_4, c4_4, rfl, hn_, hr_⟩ := Go.Proofs.YtineejdlpcgnkaaM.R_made ho4 HB.out.size
  clear hn_ ho4
  have HO4_4 := Aside0.mk hr_
  clear hr_
  have h_ := blk_below BK2.out hb
  clear BK2 c_BK2 z_BK2
  have BK2 := Aside0.mk h_
  have c_BK2 := blk_cell h_
  have z_BK2 := blk_frozen h_
  clear h_
  have hB_ := below_step HB.out hb
  clear HB hb
  have HB := Aside0.mk hB_
  clear hB_
  have H := H'.out
  clear H'
  have H'' := Aside0.mk H
  clear H
  go_wp2_with (first | ((with_reducible refine gate_dst (N := 2) rfl ?_); refine box_event ?hg (N := 2) ?hd (cs := #[.slice none 0 0, .slice none 0 0, .slice none 0 0, .slice none 0 0, .int .i64 0, .slice none 0 0]) (t := 64) ?hr ?_; (case hd => rfl); (case hg => rfl); (case hr => first | (go_simp; done) | (go_simp; rfl)); intro gb5 hg W5 hbox hb; have Z5 := Aside0.mk hb.size; have E5 := Aside0.mk (And.intro hg (blk_lt hbox)); have h_ := Kd.S_below HO1_0.out hb; clear HO1_0; have HO1_0 := Aside0.mk h_; clear h_; have h_ := Kd.R_below HO1_1.out hb; clear HO1_1; have HO1_1 := Aside0.mk h_; clear h_; have h_ := Kd.R_below HO1_2.out hb; clear HO1_2; have HO1_2 := Aside0.mk h_; clear h_; have h_ := Kd.R_below HO1_3.out hb; clear HO1_3; have HO1_3 := Aside0.mk h_; clear h_; have h_ := Kd.R_below HO1_4.out hb; clear HO1_4; have HO1_4 := Aside0.mk h_; clear h_; have h_ := Kd.S_below HO4_0.out hb; clear HO4_0; have HO4_0 := Aside0.mk h_; clear h_; have h_ := Kd.R_below HO4_1.out hb; clear HO4_1; have HO4_1 := Aside0.mk h_; clear h_; have h_ := Kd.R_below HO4_2.out hb; clear HO4_2; have HO4_2 := Aside0.mk h_; clear h_; have h_ := Kd.R_below HO4_3.out hb; clear HO4_3; have HO4_3 := Aside0.mk h_; clear h_; have h_ := Kd.R_below HO4_4.out hb; clear HO4_4; have HO4_4 := Aside0.mk h_; clear h_; have h_ := blk_below BK2.out hb; clear BK2 c_BK2 z_BK2; have BK2 := Aside0.mk h_; have c_BK2 := blk_cell h_; have z_BK2 := blk_frozen h_; clear h_; have BK5 := Aside0.mk hbox; have c_BK5 := blk_cell hbox; have z_BK5 := blk_frozen hbox; have hB_ := below_step HB.out hb; clear HB hb hbox hg; have HB := Aside0.mk hB_; clear hB_) | ((with_reducible refine gate_store (t := 64) (p := 2) rfl ?_); refine store_event (t := 64) (p := 2) (v := ?vo_s6) (w1 := ((((((W5.setCell ⟨gb5, 0, none⟩ (.slice A4_0 n4_0 c4_0)).setCell ⟨gb5, 1, none⟩ (.slice A4_1 n4_1 c4_1)).setCell ⟨gb5, 2, none⟩ (.slice A4_2 n4_2 c4_2)).setCell ⟨gb5, 3, none⟩ (.slice A4_3 n4_3 c4_3)).setCell ⟨gb5, 4, none⟩ (.int .i64 t245)).setCell ⟨gb5, 5, none⟩ (.slice A4_4 n4_4 c4_4))) ?hg ?ho ?hn ?hr ?_; (case ho => rfl); (case hg => rfl); (case hn => rfl); (case hr => first | (go_simp; done) | (go_simp; rfl)); intro W6 hw; have hk_ : Kept W5 W6 (fun k_ => k_ = gb5) := (by rw [hw]; exact Kept.setCell (Kept.setCell (Kept.setCell (Kept.setCell (Kept.setCell (Kept.setCell (Kept.refl W5 (fun k_ => k_ = gb5)) (.inl rfl) _) (.inl rfl) _) (.inl rfl) _) (.inl rfl) _) (.inl rfl) _) (.inl rfl) _); have hge_ : w.heap.size ≤ gb5 := (by have := E5.out.1; have := HB.out.size; have := Z1.out; have := Z2.out; have := Z3.out; have := Z4.out; have := Z5.out; omega); have Z6 := Aside0.mk hk_.1; have h_ := Kd.S_step HO1_0.out (fun k_ h1_ h2_ => hk_.2 k_ h2_ (fun h3_ => by obtain ⟨_, _⟩ := h1_; have := E5.out; have := Z1.out; have := Z2.out; have := Z3.out; have := Z4.out; have := Z5.out; omega)); clear HO1_0; have HO1_0 := Aside0.mk h_; clear h_; have h_ := Kd.R_step HO1_1.out (fun k_ h1_ h2_ => hk_.2 k_ h2_ (fun h3_ => by obtain ⟨_, _⟩ := h1_; have := E5.out; have := Z1.out; have := Z2.out; have := Z3.out; have := Z4.out; have := Z5.out; omega)); clear HO1_1; have HO1_1 := Aside0.mk h_; clear h_; have h_ := Kd.R_step HO1_2.out (fun k_ h1_ h2_ => hk_.2 k_ h2_ (fun h3_ => by obtain ⟨_, _⟩ := h1_; have := E5.out; have := Z1.out; have := Z2.out; have := Z3.out; have := Z4.out; have := Z5.out; omega)); clear HO1_2; have HO1_2 := Aside0.mk h_; clear h_; have h_ := Kd.R_step HO1_3.out (fun k_ h1_ h2_ => hk_.2 k_ h2_ (fun h3_ => by obtain ⟨_, _⟩ := h1_; have := E5.out; have := Z1.out; have := Z2.out; have := Z3.out; have := Z4.out; have := Z5.out; omega)); clear HO1_3; have HO1_3 := Aside0.mk h_; clear h_; have h_ := Kd.R_step HO1_4.out (fun k_ h1_ h2_ => hk_.2 k_ h2_ (fun h3_ => by obtain ⟨_, _⟩ := h1_; have := E5.out; have := Z1.out; have := Z2.out; have := Z3.out; have := Z4.out; have := Z5.out; omega)); clear HO1_4; have HO1_4 := Aside0.mk h_; clear h_; have h_ := Kd.S_step HO4_0.out (fun k_ h1_ h2_ => hk_.2 k_ h2_ (fun h3_ => by obtain ⟨_, _⟩ := h1_; have := E5.out; have := Z1.out; have := Z2.out; have := Z3.out; have := Z4.out; have := Z5.out; omega)); clear HO4_0; have HO4_0 := Aside0.mk h_; clear h_; have h_ := Kd.R_step HO4_1.out (fun k_ h1_ h2_ => hk_.2 k_ h2_ (fun h3_ => by obtain ⟨_, _⟩ := h1_; have := E5.out; have := Z1.out; have := Z2.out; have := Z3.out; have := Z4.out; have := Z5.out; omega)); clear HO4_1; have HO4_1 := Aside0.mk h_; clear h_; have h_ := Kd.R_step HO4_2.out (fun k_ h1_ h2_ => hk_.2 k_ h2_ (fun h3_ => by obtain ⟨_, _⟩ := h1_; have := E5.out; have := Z1.out; have := Z2.out; have := Z3.out; have := Z4.out; have := Z5.out; omega)); clear HO4_2; have HO4_2 := Aside0.mk h_; clear h_; have h_ := Kd.R_step HO4_3.out (fun k_ h1_ h2_ => hk_.2 k_ h2_ (fun h3_ => by obtain ⟨_, _⟩ := h1_; have := E5.out; have := Z1.out; have := Z2.out; have := Z3.out; have := Z4.out; have := Z5.out; omega)); clear HO4_3; have HO4_3 := Aside0.mk h_; clear h_; have h_ := Kd.R_step HO4_4.out (fun k_ h1_ h2_ => hk_.2 k_ h2_ (fun h3_ => by obtain ⟨_, _⟩ := h1_; have := E5.out; have := Z1.out; have := Z2.out; have := Z3.out; have := Z4.out; have := Z5.out; omega)); clear HO4_4; have HO4_4 := Aside0.mk h_; clear h_; have h_ := blk_kept BK2.out hk_ (fun hp_ => by have := E2.out; have := E5.out; have := Z1.out; have := Z2.out; have := Z3.out; have := Z4.out; have := Z5.out; omega); clear BK2 c_BK2 z_BK2; have BK2 := Aside0.mk h_; have c_BK2 := blk_cell h_; have z_BK2 := blk_frozen h_; clear h_; have h_ := blk_set (blk_set (blk_set (blk_set (blk_set (blk_set (BK5.out) 0 (.slice A4_0 n4_0 c4_0)) 1 (.slice A4_1 n4_1 c4_1)) 2 (.slice A4_2 n4_2 c4_2)) 3 (.slice A4_3 n4_3 c4_3)) 4 (.int .i64 t245)) 5 (.slice A4_4 n4_4 c4_4); rw [← hw] at h_; simp only [List.setIfInBounds_toArray, List.set_cons_zero, List.set_cons_succ] at h_; clear BK5 c_BK5 z_BK5; have BK5 := Aside0.mk h_; have c_BK5 := blk_cell h_; have z_BK5 := blk_frozen h_; clear h_; have hB_ : Below w.heap.size w W6 := (by rw [hw]; exact below_set (below_set (below_set (below_set (below_set (below_set (HB.out) hge_) hge_) hge_) hge_) hge_) hge_); clear HB hw hk_ hge_; have HB := Aside0.mk hB_; clear hB_))
  have H := H''.out
  clear H''
  replace H := Option.bind_eq_some_iff.mp H
  obtain ⟨t250, hm, H⟩ := H
  try dsimp only at H
  have H' := Aside0.mk H
  clear H
  have hcall := laws_eqCenter.calls k _ _ t233 _ _ t236 _ _ t239 _ _ t242 t245 _ _ t246 _ _ t216 _ _ t219 _ _ t222 _ _ t225 t228 _ _ t229 t250 W6 (Go.Proofs.YtineejdlpcgnkaaM.S_C HO4_0.out) (Go.Proofs.YtineejdlpcgnkaaM.S_len HO4_0.out) (Go.Proofs.YtineejdlpcgnkaaM.R_C HO4_1.out) (Go.Proofs.YtineejdlpcgnkaaM.R_len HO4_1.out) (Go.Proofs.YtineejdlpcgnkaaM.R_C HO4_2.out) (Go.Proofs.YtineejdlpcgnkaaM.R_len HO4_2.out) (Go.Proofs.YtineejdlpcgnkaaM.R_C HO4_3.out) (Go.Proofs.YtineejdlpcgnkaaM.R_len HO4_3.out) (Go.Proofs.YtineejdlpcgnkaaM.R_C HO4_4.out) (Go.Proofs.YtineejdlpcgnkaaM.R_len HO4_4.out) (Go.Proofs.YtineejdlpcgnkaaM.S_C HO1_0.out) (Go.Proofs.YtineejdlpcgnkaaM.S_len HO1_0.out) (Go.Proofs.YtineejdlpcgnkaaM.R_C HO1_1.out) (Go.Proofs.YtineejdlpcgnkaaM.R_len HO1_1.out) (Go.Proofs.YtineejdlpcgnkaaM.R_C HO1_2.out) (Go.Proofs.YtineejdlpcgnkaaM.R_len HO1_2.out) (Go.Proofs.YtineejdlpcgnkaaM.R_C HO1_3.out) (Go.Proofs.YtineejdlpcgnkaaM.R_len HO1_3.out) (Go.Proofs.YtineejdlpcgnkaaM.R_C HO1_4.out) (Go.Proofs.YtineejdlpcgnkaaM.R_len HO1_4.out) hm
  rw [Go.Proofs.YtineejdlpcgnkaaM.S_n HO4_0.out, Go.Proofs.YtineejdlpcgnkaaM.R_n HO4_1.out, Go.Proofs.YtineejdlpcgnkaaM.R_n HO4_2.out, Go.Proofs.YtineejdlpcgnkaaM.R_n HO4_3.out, Go.Proofs.YtineejdlpcgnkaaM.R_n HO4_4.out, Go.Proofs.YtineejdlpcgnkaaM.S_n HO1_0.out, Go.Proofs.YtineejdlpcgnkaaM.R_n HO1_1.out, Go.Proofs.YtineejdlpcgnkaaM.R_n HO1_2.out, Go.Proofs.YtineejdlpcgnkaaM.R_n HO1_3.out, Go.Proofs.YtineejdlpcgnkaaM.R_n HO1_4.out] at hcall
  clear hm
  try go_wp2_with fail
  refine hcall.mono ?_
  rintro e W7 ⟨rfl, hb⟩
  clear hcall
  have Z7 := Aside0.mk hb.size
  have h_ := Kd.S_below HO1_0.out hb
  clear HO1_0
  have HO1_0 := Aside0.mk h_
  clear h_
  have h_ := Kd.R_below HO1_1.out hb
  clear HO1_1
  have HO1_1 := Aside0.mk h_
  clear h_
  have h_ := Kd.R_below HO1_2.out hb
  clear HO1_2
  have HO1_2 := Aside0.mk h_
  clear h_
  have h_ := Kd.R_below HO1_3.out hb
  clear HO1_3
  have HO1_3 := Aside0.mk h_
  clear h_
  have h_ := Kd.R_below HO1_4.out hb
  clear HO1_4
  have HO1_4 := Aside0.mk h_
  clear h_
  have h_ := Kd.S_below HO4_0.out hb
  clear HO4_0
  have HO4_0 := Aside0.mk h_
  clear h_
  have h_ := Kd.R_below HO4_1.out hb
  clear HO4_1
  have HO4_1 := Aside0.mk h_
  clear h_
  have h_ := Kd.R_below HO4_2.out hb
  clear HO4_2
  have HO4_2 := Aside0.mk h_
  clear h_
  have h_ := Kd.R_below HO4_3.out hb
  clear HO4_3
  have HO4_3 := Aside0.mk h_
  clear h_
  have h_ := Kd.R_below HO4_4.out hb
  clear HO4_4
  have HO4_4 := Aside0.mk h_
  clear h_
  have h_ := blk_below BK2.out hb
  clear BK2 c_BK2 z_BK2
  have BK2 := Aside0.mk h_
  have c_BK2 := blk_cell h_
  have z_BK2 := blk_frozen h_
  clear h_
  have h_ := blk_below BK5.out hb
  clear BK5 c_BK5 z_BK5
  have BK5 := Aside0.mk h_
  have c_BK5 := blk_cell h_
  have z_BK5 := blk_frozen h_
  clear h_
  have hB_ := below_step HB.out hb
  clear HB hb
  have HB := Aside0.mk hB_
  clear hB_
  have H := H'.out
  clear H'
  by_cases c8 : t250 = true
  · rw [if_pos c8] at H
    subst c8
    replace H := Option.bind_eq_some_iff.mp H
    obtain ⟨⟨t251, t252⟩, hm, H⟩ := H
    try dsimp only at H
    have H' := Aside0.mk H
    clear H
    have hcall := laws_markCenter.calls k (fun k_ => W3.heap.size ≤ k_ ∧ k_ < W4.heap.size) A4_0 n4_0 c4_0 t233 A4_1 c4_1 t236 A4_2 c4_2 t239 A4_3 c4_3 t242 t245 A4_4 c4_4 t246 1 t251 t252 w W7 HB.out HO4_0.out (Go.Proofs.YtineejdlpcgnkaaM.R_len HO4_1.out) (Go.Proofs.YtineejdlpcgnkaaM.R_len HO4_2.out) (Go.Proofs.YtineejdlpcgnkaaM.R_len HO4_3.out) (Go.Proofs.YtineejdlpcgnkaaM.R_len HO4_4.out) hm
    rw [Go.Proofs.YtineejdlpcgnkaaM.R_n HO4_1.out, Go.Proofs.YtineejdlpcgnkaaM.R_n HO4_2.out, Go.Proofs.YtineejdlpcgnkaaM.R_n HO4_3.out, Go.Proofs.YtineejdlpcgnkaaM.R_n HO4_4.out] at hcall
    obtain ⟨en0_, en1_, en2_, en3_⟩ := laws_markCenter.nil hm
    have h_ : Go.Proofs.YtineejdlpcgnkaaM.Em A4_1 n4_1 c4_1 t236 := ⟨en0_, by have h_ := Go.Proofs.YtineejdlpcgnkaaM.R_n HO4_1.out; rw [en0_] at h_; exact h_.symm⟩
    clear HO4_1
    have HO4_1 := Aside0.mk h_
    clear h_
    have h_ : Go.Proofs.YtineejdlpcgnkaaM.Em A4_2 n4_2 c4_2 t239 := ⟨en1_, by have h_ := Go.Proofs.YtineejdlpcgnkaaM.R_n HO4_2.out; rw [en1_] at h_; exact h_.symm⟩
    clear HO4_2
    have HO4_2 := Aside0.mk h_
    clear h_
    have h_ : Go.Proofs.YtineejdlpcgnkaaM.Em A4_3 n4_3 c4_3 t242 := ⟨en2_, by have h_ := Go.Proofs.YtineejdlpcgnkaaM.R_n HO4_3.out; rw [en2_] at h_; exact h_.symm⟩
    clear HO4_3
    have HO4_3 := Aside0.mk h_
    clear h_
    have h_ : Go.Proofs.YtineejdlpcgnkaaM.Em A4_4 n4_4 c4_4 t246 := ⟨en3_, by have h_ := Go.Proofs.YtineejdlpcgnkaaM.R_n HO4_4.out; rw [en3_] at h_; exact h_.symm⟩
    clear HO4_4
    have HO4_4 := Aside0.mk h_
    clear h_
    clear en0_ en1_ en2_ en3_
    clear hm
    go_wp2_with fail
    refine hcall.mono ?_
    rintro e W9 ⟨rfl, ho, hb, hkp⟩
    clear hcall
    clear HB
    have HB := Aside0.mk hb
    have Z9 := Aside0.mk hkp.1
    have HO9 := Aside0.mk (ho)
    clear ho HO4_0
    have h_ := Go.Proofs.YtineejdlpcgnkaaM.S_else HO1_0.out hkp (by have := Z1.out; have := Z2.out; have := Z3.out; have := Z4.out; have := Z5.out; have := Z6.out; have := Z7.out; omega)
    clear HO1_0
    have HO1_0 := Aside0.mk h_
    clear h_
    have h_ := Go.Proofs.YtineejdlpcgnkaaM.R_else HO1_1.out hkp (by have := Z1.out; have := Z2.out; have := Z3.out; have := Z4.out; have := Z5.out; have := Z6.out; have := Z7.out; omega)
    clear HO1_1
    have HO1_1 := Aside0.mk h_
    clear h_
    have h_ := Go.Proofs.YtineejdlpcgnkaaM.R_else HO1_2.out hkp (by have := Z1.out; have := Z2.out; have := Z3.out; have := Z4.out; have := Z5.out; have := Z6.out; have := Z7.out; omega)
    clear HO1_2
    have HO1_2 := Aside0.mk h_
    clear h_
    have h_ := Go.Proofs.YtineejdlpcgnkaaM.R_else HO1_3.out hkp (by have := Z1.out; have := Z2.out; have := Z3.out; have := Z4.out; have := Z5.out; have := Z6.out; have := Z7.out; omega)
    clear HO1_3
    have HO1_3 := Aside0.mk h_
    clear h_
    have h_ := Go.Proofs.YtineejdlpcgnkaaM.R_else HO1_4.out hkp (by have := Z1.out; have := Z2.out; have := Z3.out; have := Z4.out; have := Z5.out; have := Z6.out; have := Z7.out; omega)
    clear HO1_4
    have HO1_4 := Aside0.mk h_
    clear h_
    have h_ := blk_kept BK2.out hkp (fun hp_ => by have := E2.out; have := Z1.out; have := Z2.out; have := Z3.out; have := Z4.out; have := Z5.out; have := Z6.out; have := Z7.out; have := Z9.out; obtain ⟨_, _⟩ := hp_; omega)
    clear BK2 c_BK2 z_BK2
    have BK2 := Aside0.mk h_
    have c_BK2 := blk_cell h_
    have z_BK2 := blk_frozen h_
    clear h_
    have h_ := blk_kept BK5.out hkp (fun hp_ => by have := E5.out; have := Z1.out; have := Z2.out; have := Z3.out; have := Z4.out; have := Z5.out; have := Z6.out; have := Z7.out; have := Z9.out; obtain ⟨_, _⟩ := hp_; omega)
    clear BK5 c_BK5 z_BK5
    have BK5 := Aside0.mk h_
    have c_BK5 := blk_cell h_
    have z_BK5 := blk_frozen h_
    clear h_
    clear hkp hb
    have H := H'.out
    clear H'
    replace H := Option.bind_eq_some_iff.mp H
    obtain ⟨t253, hm, H⟩ := H
    try dsimp only at H
    have H' := Aside0.mk H
    clear H
    have hcall := laws_heldCenter.calls k _ _ t252 _ _ t236 _ _ t239 _ _ t242 t245 _ _ t246 1 t253 W9 (Go.Proofs.YtineejdlpcgnkaaM.S_C HO9.out) (Go.Proofs.YtineejdlpcgnkaaM.S_len HO9.out) (Go.Proofs.YtineejdlpcgnkaaM.E_C HO4_1.out) (Go.Proofs.YtineejdlpcgnkaaM.E_len HO4_1.out) (Go.Proofs.YtineejdlpcgnkaaM.E_C HO4_2.out) (Go.Proofs.YtineejdlpcgnkaaM.E_len HO4_2.out) (Go.Proofs.YtineejdlpcgnkaaM.E_C HO4_3.out) (Go.Proofs.YtineejdlpcgnkaaM.E_len HO4_3.out) (Go.Proofs.YtineejdlpcgnkaaM.E_C HO4_4.out) (Go.Proofs.YtineejdlpcgnkaaM.E_len HO4_4.out) hm
    rw [Go.Proofs.YtineejdlpcgnkaaM.S_n HO9.out, Go.Proofs.YtineejdlpcgnkaaM.E_n HO4_1.out, Go.Proofs.YtineejdlpcgnkaaM.E_n HO4_2.out, Go.Proofs.YtineejdlpcgnkaaM.E_n HO4_3.out, Go.Proofs.YtineejdlpcgnkaaM.E_n HO4_4.out] at hcall
    clear hm
    go_wp2_with fail
    refine hcall.mono ?_
    rintro e W10 ⟨rfl, hb⟩
    clear hcall
    have Z10 := Aside0.mk hb.size
    have h_ := Kd.S_below HO1_0.out hb
    clear HO1_0
    have HO1_0 := Aside0.mk h_
    clear h_
    have h_ := Kd.R_below HO1_1.out hb
    clear HO1_1
    have HO1_1 := Aside0.mk h_
    clear h_
    have h_ := Kd.R_below HO1_2.out hb
    clear HO1_2
    have HO1_2 := Aside0.mk h_
    clear h_
    have h_ := Kd.R_below HO1_3.out hb
    clear HO1_3
    have HO1_3 := Aside0.mk h_
    clear h_
    have h_ := Kd.R_below HO1_4.out hb
    clear HO1_4
    have HO1_4 := Aside0.mk h_
    clear h_
    have h_ := Kd.S_below HO9.out hb
    clear HO9
    have HO9 := Aside0.mk h_
    clear h_
    have h_ := blk_below BK2.out hb
    clear BK2 c_BK2 z_BK2
    have BK2 := Aside0.mk h_
    have c_BK2 := blk_cell h_
    have z_BK2 := blk_frozen h_
    clear h_
    have h_ := blk_below BK5.out hb
    clear BK5 c_BK5 z_BK5
    have BK5 := Aside0.mk h_
    have c_BK5 := blk_cell h_
    have z_BK5 := blk_frozen h_
    clear h_
    have hB_ := below_step HB.out hb
    clear HB hb
    have HB := Aside0.mk hB_
    clear hB_
    have H := H'.out
    clear H'
    by_cases c11 : t253 < 0
    · rw [if_pos c11] at H
      have c11_0 : decide (t253 < 0) = true := decide_eq_true c11
      clear c11
      obtain rfl := Option.some.inj H
      clear H
      go_wp2
      go_ret
      exact ⟨rfl, HB.out⟩
    · rw [if_neg c11] at H
      have c11_0 : decide (t253 < 0) = false := decide_eq_false c11
      clear c11
      by_cases c12 : t253 = t251
      · rw [if_pos c12] at H
        have c12_1 : (t253 == t251) = true := beq_iff_eq.mpr c12
        have c12_2 : (t253 != t251) = false := bne_eq_false_iff_eq.mpr c12
        have c12_0 : decide (t253 = t251) = true := decide_eq_true c12
        clear c12
        replace H := Option.bind_eq_some_iff.mp H
        obtain ⟨⟨t254, t257, t260, t263, t266, t267⟩, hm, H⟩ := H
        try dsimp only at H
        have H' := Aside0.mk H
        clear H
        have hcall := impl_NewCenter.calls  t254 t257 t260 t263 t266 t267 W10  hm
        clear hm
        go_wp2_with fail
        refine hcall.mono ?_
        rintro e W13 ⟨v255, v258, v261, v264, v268, rfl, ho0, ho1, ho2, ho3, ho4, hb⟩
        clear hcall
        have Z13 := Aside0.mk hb.size
        have h_ := Kd.S_below HO1_0.out hb
        clear HO1_0
        have HO1_0 := Aside0.mk h_
        clear h_
        have h_ := Kd.R_below HO1_1.out hb
        clear HO1_1
        have HO1_1 := Aside0.mk h_
        clear h_
        have h_ := Kd.R_below HO1_2.out hb
        clear HO1_2
        have HO1_2 := Aside0.mk h_
        clear h_
        have h_ := Kd.R_below HO1_3.out hb
        clear HO1_3
        have HO1_3 := Aside0.mk h_
        clear h_
        have h_ := Kd.R_below HO1_4.out hb
        clear HO1_4
        have HO1_4 := Aside0.mk h_
        clear h_
        have h_ := Kd.S_below HO9.out hb
        clear HO9
        have HO9 := Aside0.mk h_
        clear h_
        obtain ⟨A13_0, n13_0, c13_0, rfl, hn_, hr_⟩ := Go.Proofs.YtineejdlpcgnkaaM.S_made ho0 HB.out.size
        clear hn_ ho0
        have HO13_0 := Aside0.mk hr_
        clear hr_
        obtain ⟨A13_1, n13_1, c13_1, rfl, hn_, hr_⟩ := Go.Proofs.YtineejdlpcgnkaaM.R_made ho1 HB.out.size
        clear hn_ ho1
        have HO13_1 := Aside0.mk hr_
        clear hr_
        obtain ⟨A13_2, n13_2, c13_2, rfl, hn_, hr_⟩ := Go.Proofs.YtineejdlpcgnkaaM.R_made ho2 HB.out.size
        clear hn_ ho2
        have HO13_2 := Aside0.mk hr_
        clear hr_
        obtain ⟨A13_3, n13_3, c13_3, rfl, hn_, hr_⟩ := Go.Proofs.YtineejdlpcgnkaaM.R_made ho3 HB.out.size
        clear hn_ ho3
        have HO13_3 := Aside0.mk hr_
        clear hr_
        obtain ⟨A13_4, n13_4, c13_4, rfl, hn_, hr_⟩ := Go.Proofs.YtineejdlpcgnkaaM.R_made ho4 HB.out.size
        clear hn_ ho4
        have HO13_4 := Aside0.mk hr_
        clear hr_
        have h_ := blk_below BK2.out hb
        clear BK2 c_BK2 z_BK2
        have BK2 := Aside0.mk h_
        have c_BK2 := blk_cell h_
        have z_BK2 := blk_frozen h_
        clear h_
        have h_ := blk_below BK5.out hb
        clear BK5 c_BK5 z_BK5
        have BK5 := Aside0.mk h_
        have c_BK5 := blk_cell h_
        have z_BK5 := blk_frozen h_
        clear h_
        have hB_ := below_step HB.out hb
        clear HB hb
        have HB := Aside0.mk hB_
        clear hB_
        have H := H'.out
        clear H'
        have H'' := Aside0.mk H
        clear H
        go_wp2_with (first | ((with_reducible refine gate_dst (N := 5) rfl ?_); refine box_event ?hg (N := 5) ?hd (cs := #[.slice none 0 0, .slice none 0 0, .slice none 0 0, .slice none 0 0, .int .i64 0, .slice none 0 0]) (t := 64) ?hr ?_; (case hd => rfl); (case hg => rfl); (case hr => first | (go_simp; done) | (go_simp; rfl)); intro gb14 hg W14 hbox hb; have Z14 := Aside0.mk hb.size; have E14 := Aside0.mk (And.intro hg (blk_lt hbox)); have h_ := Kd.S_below HO1_0.out hb; clear HO1_0; have HO1_0 := Aside0.mk h_; clear h_; have h_ := Kd.R_below HO1_1.out hb; clear HO1_1; have HO1_1 := Aside0.mk h_; clear h_; have h_ := Kd.R_below HO1_2.out hb; clear HO1_2; have HO1_2 := Aside0.mk h_; clear h_; have h_ := Kd.R_below HO1_3.out hb; clear HO1_3; have HO1_3 := Aside0.mk h_; clear h_; have h_ := Kd.R_below HO1_4.out hb; clear HO1_4; have HO1_4 := Aside0.mk h_; clear h_; have h_ := Kd.S_below HO9.out hb; clear HO9; have HO9 := Aside0.mk h_; clear h_; have h_ := Kd.S_below HO13_0.out hb; clear HO13_0; have HO13_0 := Aside0.mk h_; clear h_; have h_ := Kd.R_below HO13_1.out hb; clear HO13_1; have HO13_1 := Aside0.mk h_; clear h_; have h_ := Kd.R_below HO13_2.out hb; clear HO13_2; have HO13_2 := Aside0.mk h_; clear h_; have h_ := Kd.R_below HO13_3.out hb; clear HO13_3; have HO13_3 := Aside0.mk h_; clear h_; have h_ := Kd.R_below HO13_4.out hb; clear HO13_4; have HO13_4 := Aside0.mk h_; clear h_; have h_ := blk_below BK2.out hb; clear BK2 c_BK2 z_BK2; have BK2 := Aside0.mk h_; have c_BK2 := blk_cell h_; have z_BK2 := blk_frozen h_; clear h_; have h_ := blk_below BK5.out hb; clear BK5 c_BK5 z_BK5; have BK5 := Aside0.mk h_; have c_BK5 := blk_cell h_; have z_BK5 := blk_frozen h_; clear h_; have BK14 := Aside0.mk hbox; have c_BK14 := blk_cell hbox; have z_BK14 := blk_frozen hbox; have hB_ := below_step HB.out hb; clear HB hb hbox hg; have HB := Aside0.mk hB_; clear hB_) | ((with_reducible refine gate_store (t := 64) (p := 5) rfl ?_); refine store_event (t := 64) (p := 5) (v := ?vo_s15) (w1 := ((((((W14.setCell ⟨gb14, 0, none⟩ (.slice A13_0 n13_0 c13_0)).setCell ⟨gb14, 1, none⟩ (.slice A13_1 n13_1 c13_1)).setCell ⟨gb14, 2, none⟩ (.slice A13_2 n13_2 c13_2)).setCell ⟨gb14, 3, none⟩ (.slice A13_3 n13_3 c13_3)).setCell ⟨gb14, 4, none⟩ (.int .i64 t266)).setCell ⟨gb14, 5, none⟩ (.slice A13_4 n13_4 c13_4))) ?hg ?ho ?hn ?hr ?_; (case ho => rfl); (case hg => rfl); (case hn => rfl); (case hr => first | (go_simp; done) | (go_simp; rfl)); intro W15 hw; have hk_ : Kept W14 W15 (fun k_ => k_ = gb14) := (by rw [hw]; exact Kept.setCell (Kept.setCell (Kept.setCell (Kept.setCell (Kept.setCell (Kept.setCell (Kept.refl W14 (fun k_ => k_ = gb14)) (.inl rfl) _) (.inl rfl) _) (.inl rfl) _) (.inl rfl) _) (.inl rfl) _) (.inl rfl) _); have hge_ : w.heap.size ≤ gb14 := (by have := E14.out.1; have := HB.out.size; have := Z1.out; have := Z2.out; have := Z3.out; have := Z4.out; have := Z5.out; have := Z6.out; have := Z7.out; have := Z9.out; have := Z10.out; have := Z13.out; have := Z14.out; omega); have Z15 := Aside0.mk hk_.1; have h_ := Kd.S_step HO1_0.out (fun k_ h1_ h2_ => hk_.2 k_ h2_ (fun h3_ => by obtain ⟨_, _⟩ := h1_; have := E14.out; have := Z1.out; have := Z2.out; have := Z3.out; have := Z4.out; have := Z5.out; have := Z6.out; have := Z7.out; have := Z9.out; have := Z10.out; have := Z13.out; have := Z14.out; omega)); clear HO1_0; have HO1_0 := Aside0.mk h_; clear h_; have h_ := Kd.R_step HO1_1.out (fun k_ h1_ h2_ => hk_.2 k_ h2_ (fun h3_ => by obtain ⟨_, _⟩ := h1_; have := E14.out; have := Z1.out; have := Z2.out; have := Z3.out; have := Z4.out; have := Z5.out; have := Z6.out; have := Z7.out; have := Z9.out; have := Z10.out; have := Z13.out; have := Z14.out; omega)); clear HO1_1; have HO1_1 := Aside0.mk h_; clear h_; have h_ := Kd.R_step HO1_2.out (fun k_ h1_ h2_ => hk_.2 k_ h2_ (fun h3_ => by obtain ⟨_, _⟩ := h1_; have := E14.out; have := Z1.out; have := Z2.out; have := Z3.out; have := Z4.out; have := Z5.out; have := Z6.out; have := Z7.out; have := Z9.out; have := Z10.out; have := Z13.out; have := Z14.out; omega)); clear HO1_2; have HO1_2 := Aside0.mk h_; clear h_; have h_ := Kd.R_step HO1_3.out (fun k_ h1_ h2_ => hk_.2 k_ h2_ (fun h3_ => by obtain ⟨_, _⟩ := h1_; have := E14.out; have := Z1.out; have := Z2.out; have := Z3.out; have := Z4.out; have := Z5.out; have := Z6.out; have := Z7.out; have := Z9.out; have := Z10.out; have := Z13.out; have := Z14.out; omega)); clear HO1_3; have HO1_3 := Aside0.mk h_; clear h_; have h_ := Kd.R_step HO1_4.out (fun k_ h1_ h2_ => hk_.2 k_ h2_ (fun h3_ => by obtain ⟨_, _⟩ := h1_; have := E14.out; have := Z1.out; have := Z2.out; have := Z3.out; have := Z4.out; have := Z5.out; have := Z6.out; have := Z7.out; have := Z9.out; have := Z10.out; have := Z13.out; have := Z14.out; omega)); clear HO1_4; have HO1_4 := Aside0.mk h_; clear h_; have h_ := Kd.S_step HO9.out (fun k_ h1_ h2_ => hk_.2 k_ h2_ (fun h3_ => by obtain ⟨_, _⟩ := h1_; have := E14.out; have := Z1.out; have := Z2.out; have := Z3.out; have := Z4.out; have := Z5.out; have := Z6.out; have := Z7.out; have := Z9.out; have := Z10.out; have := Z13.out; have := Z14.out; omega)); clear HO9; have HO9 := Aside0.mk h_; clear h_; have h_ := Kd.S_step HO13_0.out (fun k_ h1_ h2_ => hk_.2 k_ h2_ (fun h3_ => by obtain ⟨_, _⟩ := h1_; have := E14.out; have := Z1.out; have := Z2.out; have := Z3.out; have := Z4.out; have := Z5.out; have := Z6.out; have := Z7.out; have := Z9.out; have := Z10.out; have := Z13.out; have := Z14.out; omega)); clear HO13_0; have HO13_0 := Aside0.mk h_; clear h_; have h_ := Kd.R_step HO13_1.out (fun k_ h1_ h2_ => hk_.2 k_ h2_ (fun h3_ => by obtain ⟨_, _⟩ := h1_; have := E14.out; have := Z1.out; have := Z2.out; have := Z3.out; have := Z4.out; have := Z5.out; have := Z6.out; have := Z7.out; have := Z9.out; have := Z10.out; have := Z13.out; have := Z14.out; omega)); clear HO13_1; have HO13_1 := Aside0.mk h_; clear h_; have h_ := Kd.R_step HO13_2.out (fun k_ h1_ h2_ => hk_.2 k_ h2_ (fun h3_ => by obtain ⟨_, _⟩ := h1_; have := E14.out; have := Z1.out; have := Z2.out; have := Z3.out; have := Z4.out; have := Z5.out; have := Z6.out; have := Z7.out; have := Z9.out; have := Z10.out; have := Z13.out; have := Z14.out; omega)); clear HO13_2; have HO13_2 := Aside0.mk h_; clear h_; have h_ := Kd.R_step HO13_3.out (fun k_ h1_ h2_ => hk_.2 k_ h2_ (fun h3_ => by obtain ⟨_, _⟩ := h1_; have := E14.out; have := Z1.out; have := Z2.out; have := Z3.out; have := Z4.out; have := Z5.out; have := Z6.out; have := Z7.out; have := Z9.out; have := Z10.out; have := Z13.out; have := Z14.out; omega)); clear HO13_3; have HO13_3 := Aside0.mk h_; clear h_; have h_ := Kd.R_step HO13_4.out (fun k_ h1_ h2_ => hk_.2 k_ h2_ (fun h3_ => by obtain ⟨_, _⟩ := h1_; have := E14.out; have := Z1.out; have := Z2.out; have := Z3.out; have := Z4.out; have := Z5.out; have := Z6.out; have := Z7.out; have := Z9.out; have := Z10.out; have := Z13.out; have := Z14.out; omega)); clear HO13_4; have HO13_4 := Aside0.mk h_; clear h_; have h_ := blk_kept BK2.out hk_ (fun hp_ => by have := E2.out; have := E14.out; have := Z1.out; have := Z2.out; have := Z3.out; have := Z4.out; have := Z5.out; have := Z6.out; have := Z7.out; have := Z9.out; have := Z10.out; have := Z13.out; have := Z14.out; omega); clear BK2 c_BK2 z_BK2; have BK2 := Aside0.mk h_; have c_BK2 := blk_cell h_; have z_BK2 := blk_frozen h_; clear h_; have h_ := blk_kept BK5.out hk_ (fun hp_ => by have := E5.out; have := E14.out; have := Z1.out; have := Z2.out; have := Z3.out; have := Z4.out; have := Z5.out; have := Z6.out; have := Z7.out; have := Z9.out; have := Z10.out; have := Z13.out; have := Z14.out; omega); clear BK5 c_BK5 z_BK5; have BK5 := Aside0.mk h_; have c_BK5 := blk_cell h_; have z_BK5 := blk_frozen h_; clear h_; have h_ := blk_set (blk_set (blk_set (blk_set (blk_set (blk_set (BK14.out) 0 (.slice A13_0 n13_0 c13_0)) 1 (.slice A13_1 n13_1 c13_1)) 2 (.slice A13_2 n13_2 c13_2)) 3 (.slice A13_3 n13_3 c13_3)) 4 (.int .i64 t266)) 5 (.slice A13_4 n13_4 c13_4); rw [← hw] at h_; simp only [List.setIfInBounds_toArray, List.set_cons_zero, List.set_cons_succ] at h_; clear BK14 c_BK14 z_BK14; have BK14 := Aside0.mk h_; have c_BK14 := blk_cell h_; have z_BK14 := blk_frozen h_; clear h_; have hB_ : Below w.heap.size w W15 := (by rw [hw]; exact below_set (below_set (below_set (below_set (below_set (below_set (HB.out) hge_) hge_) hge_) hge_) hge_) hge_); clear HB hw hk_ hge_; have HB := Aside0.mk hB_; clear hB_))
        have H := H''.out
        clear H''
        replace H := Option.bind_eq_some_iff.mp H
        obtain ⟨t271, hm, H⟩ := H
        try dsimp only at H
        have H' := Aside0.mk H
        clear H
        have hcall := laws_eqCenter.calls k _ _ t254 _ _ t257 _ _ t260 _ _ t263 t266 _ _ t267 _ _ t216 _ _ t219 _ _ t222 _ _ t225 t228 _ _ t229 t271 W15 (Go.Proofs.YtineejdlpcgnkaaM.S_C HO13_0.out) (Go.Proofs.YtineejdlpcgnkaaM.S_len HO13_0.out) (Go.Proofs.YtineejdlpcgnkaaM.R_C HO13_1.out) (Go.Proofs.YtineejdlpcgnkaaM.R_len HO13_1.out) (Go.Proofs.YtineejdlpcgnkaaM.R_C HO13_2.out) (Go.Proofs.YtineejdlpcgnkaaM.R_len HO13_2.out) (Go.Proofs.YtineejdlpcgnkaaM.R_C HO13_3.out) (Go.Proofs.YtineejdlpcgnkaaM.R_len HO13_3.out) (Go.Proofs.YtineejdlpcgnkaaM.R_C HO13_4.out) (Go.Proofs.YtineejdlpcgnkaaM.R_len HO13_4.out) (Go.Proofs.YtineejdlpcgnkaaM.S_C HO1_0.out) (Go.Proofs.YtineejdlpcgnkaaM.S_len HO1_0.out) (Go.Proofs.YtineejdlpcgnkaaM.R_C HO1_1.out) (Go.Proofs.YtineejdlpcgnkaaM.R_len HO1_1.out) (Go.Proofs.YtineejdlpcgnkaaM.R_C HO1_2.out) (Go.Proofs.YtineejdlpcgnkaaM.R_len HO1_2.out) (Go.Proofs.YtineejdlpcgnkaaM.R_C HO1_3.out) (Go.Proofs.YtineejdlpcgnkaaM.R_len HO1_3.out) (Go.Proofs.YtineejdlpcgnkaaM.R_C HO1_4.out) (Go.Proofs.YtineejdlpcgnkaaM.R_len HO1_4.out) hm
        rw [Go.Proofs.YtineejdlpcgnkaaM.S_n HO13_0.out, Go.Proofs.YtineejdlpcgnkaaM.R_n HO13_1.out, Go.Proofs.YtineejdlpcgnkaaM.R_n HO13_2.out, Go.Proofs.YtineejdlpcgnkaaM.R_n HO13_3.out, Go.Proofs.YtineejdlpcgnkaaM.R_n HO13_4.out, Go.Proofs.YtineejdlpcgnkaaM.S_n HO1_0.out, Go.Proofs.YtineejdlpcgnkaaM.R_n HO1_1.out, Go.Proofs.YtineejdlpcgnkaaM.R_n HO1_2.out, Go.Proofs.YtineejdlpcgnkaaM.R_n HO1_3.out, Go.Proofs.YtineejdlpcgnkaaM.R_n HO1_4.out] at hcall
        clear hm
        try go_wp2_with fail
        refine hcall.mono ?_
        rintro e W16 ⟨rfl, hb⟩
        clear hcall
        have Z16 := Aside0.mk hb.size
        have h_ := Kd.S_below HO1_0.out hb
        clear HO1_0
        have HO1_0 := Aside0.mk h_
        clear h_
        have h_ := Kd.R_below HO1_1.out hb
        clear HO1_1
        have HO1_1 := Aside0.mk h_
        clear h_
        have h_ := Kd.R_below HO1_2.out hb
        clear HO1_2
        have HO1_2 := Aside0.mk h_
        clear h_
        have h_ := Kd.R_below HO1_3.out hb
        clear HO1_3
        have HO1_3 := Aside0.mk h_
        clear h_
        have h_ := Kd.R_below HO1_4.out hb
        clear HO1_4
        have HO1_4 := Aside0.mk h_
        clear h_
        have h_ := Kd.S_below HO9.out hb
        clear HO9
        have HO9 := Aside0.mk h_
        clear h_
        have h_ := Kd.S_below HO13_0.out hb
        clear HO13_0
        have HO13_0 := Aside0.mk h_
        clear h_
        have h_ := Kd.R_below HO13_1.out hb
        clear HO13_1
        have HO13_1 := Aside0.mk h_
        clear h_
        have h_ := Kd.R_below HO13_2.out hb
        clear HO13_2
        have HO13_2 := Aside0.mk h_
        clear h_
        have h_ := Kd.R_below HO13_3.out hb
        clear HO13_3
        have HO13_3 := Aside0.mk h_
        clear h_
        have h_ := Kd.R_below HO13_4.out hb
        clear HO13_4
        have HO13_4 := Aside0.mk h_
        clear h_
        have h_ := blk_below BK2.out hb
        clear BK2 c_BK2 z_BK2
        have BK2 := Aside0.mk h_
        have c_BK2 := blk_cell h_
        have z_BK2 := blk_frozen h_
        clear h_
        have h_ := blk_below BK5.out hb
        clear BK5 c_BK5 z_BK5
        have BK5 := Aside0.mk h_
        have c_BK5 := blk_cell h_
        have z_BK5 := blk_frozen h_
        clear h_
        have h_ := blk_below BK14.out hb
        clear BK14 c_BK14 z_BK14
        have BK14 := Aside0.mk h_
        have c_BK14 := blk_cell h_
        have z_BK14 := blk_frozen h_
        clear h_
        have hB_ := below_step HB.out hb
        clear HB hb
        have HB := Aside0.mk hB_
        clear hB_
        have H := H'.out
        clear H'
        by_cases c17 : t271 = true
        · rw [if_pos c17] at H
          subst c17
          replace H := Option.bind_eq_some_iff.mp H
          obtain ⟨t272, hm, H⟩ := H
          try dsimp only at H
          have H' := Aside0.mk H
          clear H
          have hcall := laws_heldCenter.calls k _ _ t252 _ _ t236 _ _ t239 _ _ t242 t245 _ _ t246 1 t272 W16 (Go.Proofs.YtineejdlpcgnkaaM.S_C HO9.out) (Go.Proofs.YtineejdlpcgnkaaM.S_len HO9.out) (Go.Proofs.YtineejdlpcgnkaaM.E_C HO4_1.out) (Go.Proofs.YtineejdlpcgnkaaM.E_len HO4_1.out) (Go.Proofs.YtineejdlpcgnkaaM.E_C HO4_2.out) (Go.Proofs.YtineejdlpcgnkaaM.E_len HO4_2.out) (Go.Proofs.YtineejdlpcgnkaaM.E_C HO4_3.out) (Go.Proofs.YtineejdlpcgnkaaM.E_len HO4_3.out) (Go.Proofs.YtineejdlpcgnkaaM.E_C HO4_4.out) (Go.Proofs.YtineejdlpcgnkaaM.E_len HO4_4.out) hm
          rw [Go.Proofs.YtineejdlpcgnkaaM.S_n HO9.out, Go.Proofs.YtineejdlpcgnkaaM.E_n HO4_1.out, Go.Proofs.YtineejdlpcgnkaaM.E_n HO4_2.out, Go.Proofs.YtineejdlpcgnkaaM.E_n HO4_3.out, Go.Proofs.YtineejdlpcgnkaaM.E_n HO4_4.out] at hcall
          clear hm
          go_wp2_with fail
          refine hcall.mono ?_
          rintro e W18 ⟨rfl, hb⟩
          clear hcall
          have Z18 := Aside0.mk hb.size
          have h_ := Kd.S_below HO1_0.out hb
          clear HO1_0
          have HO1_0 := Aside0.mk h_
          clear h_
          have h_ := Kd.R_below HO1_1.out hb
          clear HO1_1
          have HO1_1 := Aside0.mk h_
          clear h_
          have h_ := Kd.R_below HO1_2.out hb
          clear HO1_2
          have HO1_2 := Aside0.mk h_
          clear h_
          have h_ := Kd.R_below HO1_3.out hb
          clear HO1_3
          have HO1_3 := Aside0.mk h_
          clear h_
          have h_ := Kd.R_below HO1_4.out hb
          clear HO1_4
          have HO1_4 := Aside0.mk h_
          clear h_
          have h_ := Kd.S_below HO9.out hb
          clear HO9
          have HO9 := Aside0.mk h_
          clear h_
          have h_ := Kd.S_below HO13_0.out hb
          clear HO13_0
          have HO13_0 := Aside0.mk h_
          clear h_
          have h_ := Kd.R_below HO13_1.out hb
          clear HO13_1
          have HO13_1 := Aside0.mk h_
          clear h_
          have h_ := Kd.R_below HO13_2.out hb
          clear HO13_2
          have HO13_2 := Aside0.mk h_
          clear h_
          have h_ := Kd.R_below HO13_3.out hb
          clear HO13_3
          have HO13_3 := Aside0.mk h_
          clear h_
          have h_ := Kd.R_below HO13_4.out hb
          clear HO13_4
          have HO13_4 := Aside0.mk h_
          clear h_
          have h_ := blk_below BK2.out hb
          clear BK2 c_BK2 z_BK2
          have BK2 := Aside0.mk h_
          have c_BK2 := blk_cell h_
          have z_BK2 := blk_frozen h_
          clear h_
          have h_ := blk_below BK5.out hb
          clear BK5 c_BK5 z_BK5
          have BK5 := Aside0.mk h_
          have c_BK5 := blk_cell h_
          have z_BK5 := blk_frozen h_
          clear h_
          have h_ := blk_below BK14.out hb
          clear BK14 c_BK14 z_BK14
          have BK14 := Aside0.mk h_
          have c_BK14 := blk_cell h_
          have z_BK14 := blk_frozen h_
          clear h_
          have hB_ := below_step HB.out hb
          clear HB hb
          have HB := Aside0.mk hB_
          clear hB_
          have H := H'.out
          clear H'
          by_cases c19 : t272 < 0
          · rw [if_pos c19] at H
            have c19_0 : decide (t272 < 0) = true := decide_eq_true c19
            clear c19
            obtain rfl := Option.some.inj H
            clear H
            go_wp2
            go_ret
            exact ⟨rfl, HB.out⟩
          · rw [if_neg c19] at H
            have c19_0 : decide (t272 < 0) = false := decide_eq_false c19
            clear c19
            by_cases c20 : t272 = t251
            · rw [if_pos c20] at H
              have c20_1 : (t272 == t251) = true := beq_iff_eq.mpr c20
              have c20_2 : (t272 != t251) = false := bne_eq_false_iff_eq.mpr c20
              have c20_0 : decide (t272 = t251) = true := decide_eq_true c20
              clear c20
              obtain rfl := Option.some.inj H
              clear H
              go_wp2
              go_ret
              exact ⟨rfl, HB.out⟩
            · rw [if_neg c20] at H
              have c20_1 : (t272 == t251) = false := beq_eq_false_iff_ne.mpr c20
              have c20_2 : (t272 != t251) = true := bne_iff_ne.mpr c20
              have c20_0 : decide (t272 = t251) = false := decide_eq_false c20
              clear c20
              obtain rfl := Option.some.inj H
              clear H
              go_wp2
              go_ret
              exact ⟨rfl, HB.out⟩
        · rw [if_neg c17] at H
          replace c17 : t271 = false := by simpa using c17
          subst c17
          obtain rfl := Option.some.inj H
          clear H
          go_wp2
          go_ret
          exact ⟨rfl, HB.out⟩
      · rw [if_neg c12] at H
        have c12_1 : (t253 == t251) = false := beq_eq_false_iff_ne.mpr c12
        have c12_2 : (t253 != t251) = true := bne_iff_ne.mpr c12
        have c12_0 : decide (t253 = t251) = false := decide_eq_false c12
        clear c12
        obtain rfl := Option.some.inj H
        clear H
        go_wp2
        go_ret
        exact ⟨rfl, HB.out⟩
  · rw [if_neg c8] at H
    replace c8 : t250 = false := by simpa using c8
    subst c8
    obtain rfl := Option.some.inj H
    clear H
    go_wp2
    go_ret
    exact ⟨rfl, HB.out⟩

/-- What is left to show of laws_FnExactNewCenter: over numbers and lists alone. -/
def laws_FnExactNewCenter.Pure : Prop := ∃ k, laws_FnExactNewCenter.f k  = some true

end Go.Proofs.Ytineejdlpcgnkaa.QFnExactNewCenter
