/- The machine side of FnExactIsCenter: what each function that it reaches computes, and that the machine's call gives just that. -/
import Derived.Test.YtineejdlpcgnkaaGreatQFnExactIsCenterx0
import Derived.Test.YtineejdlpcgnkaaGreatQFnExactIsCenterx3
import Derived.Test.YtineejdlpcgnkaaGreatQFnExactIsCenterx8
import Derived.Test.YtineejdlpcgnkaaGreatQFnExactIsCenterx9
import Derived.Test.YtineejdlpcgnkaaGreatQFnExactIsCenterx15
import Derived.Test.YtineejdlpcgnkaaGreatQFnExactIsCenterx17
namespace Go.Proofs.YtineejdlpcgnkaaGreat.QFnExactIsCenter
open Go.RowKit Go.Proofs.YtineejdlpcgnkaaGreatW.PrintWords Go.Proofs.YtineejdlpcgnkaaGreatW.PrintLast Go.Proofs.YtineejdlpcgnkaaGreatW.PrintMore
attribute [local go_sem] max2_int min2_int max_two min_two max_three min_three max_four min_four   -- for this text's walks alone
set_option linter.unusedVariables false
set_option linter.unusedSimpArgs false

/-! ### laws_FnExactIsCenter: function 3 -/
def laws_FnExactIsCenter.f (k : Nat) (l0_0 : List (S100)) (l0_1 : List (S107)) (l0_2 : List (S49)) (l0_3 : List (S125)) (a0_4 : Int) (l0_5 : List (S127)) : Option (Bool) := (laws_szCenter.f k l0_0 l0_1 l0_2 l0_3 a0_4 l0_5 1048576).bind fun t806 => (if t806 < 0 then (some true) else ((laws_toCenter.f k l0_0 l0_1 l0_2 l0_3 a0_4 l0_5).bind fun bt807 => ((spec_IsCenter.f k bt807.1 bt807.2.1 bt807.2.2.1 bt807.2.2.2.1 bt807.2.2.2.2.1 bt807.2.2.2.2.2).bind fun t823 => ((laws_toCenter.f k l0_0 l0_1 l0_2 l0_3 a0_4 l0_5).bind fun bt824 => ((impl_IsCenter.f k bt824.1 bt824.2.1 bt824.2.2.1 bt824.2.2.2.1 bt824.2.2.2.2.1 bt824.2.2.2.2.2).bind fun t841 => (if (t841 != t823) = true then (some false) else ((laws_toCenter.f k l0_0 l0_1 l0_2 l0_3 a0_4 l0_5).bind fun bt842 => ((laws_eqCenter.f k bt824.1 bt824.2.1 bt824.2.2.1 bt824.2.2.2.1 bt824.2.2.2.2.1 bt824.2.2.2.2.2 bt842.1 bt842.2.1 bt842.2.2.1 bt842.2.2.2.1 bt842.2.2.2.2.1 bt842.2.2.2.2.2).bind fun t858 => (if t858 = true then (some true) else (some false))))))))))
set_option maxHeartbeats 8000000 in
set_option maxRecDepth 100000 in
theorem laws_FnExactIsCenter.calls (k : Nat) (A0_0 : Option Addr) (c0_0 : Nat) (l0_0 : List (S100)) (A0_1 : Option Addr) (c0_1 : Nat) (l0_1 : List (S107)) (A0_2 : Option Addr) (c0_2 : Nat) (l0_2 : List (S49)) (A0_3 : Option Addr) (c0_3 : Nat) (l0_3 : List (S125)) (a0_4 : Int) (A0_5 : Option Addr) (c0_5 : Nat) (l0_5 : List (S127)) (r : Bool) (w : World) (hr0_0 : Kd.C k100 w A0_0 l0_0.length l0_0) (hc0_0 : l0_0.length ≤ c0_0) (hr0_1 : Kd.C k107 w A0_1 l0_1.length l0_1) (hc0_1 : l0_1.length ≤ c0_1) (hr0_2 : Kd.C k49 w A0_2 l0_2.length l0_2) (hc0_2 : l0_2.length ≤ c0_2) (hr0_3 : Kd.C k125 w A0_3 l0_3.length l0_3) (hc0_3 : l0_3.length ≤ c0_3) (hr0_5 : Kd.C k127 w A0_5 l0_5.length l0_5) (hc0_5 : l0_5.length ≤ c0_5) (h : laws_FnExactIsCenter.f k l0_0 l0_1 l0_2 l0_3 a0_4 l0_5 = some r) :
  Calls Tryz.prog 3 #[.agg #[.slice A0_0 l0_0.length c0_0, .slice A0_1 l0_1.length c0_1, .slice A0_2 l0_2.length c0_2, .slice A0_3 l0_3.length c0_3, .int .i64 a0_4, .slice A0_5 l0_5.length c0_5]] w fun e w' => e = .returned (.bool r) ∧ Below w.heap.size w w' := by
 have HR0_0 := Aside0.mk hr0_0
 have HC0_0 := Aside0.mk hc0_0
 clear hr0_0 hc0_0
 have HR0_1 := Aside0.mk hr0_1
 have HC0_1 := Aside0.mk hc0_1
 clear hr0_1 hc0_1
 have HR0_2 := Aside0.mk hr0_2
 have HC0_2 := Aside0.mk hc0_2
 clear hr0_2 hc0_2
 have HR0_3 := Aside0.mk hr0_3
 have HC0_3 := Aside0.mk hc0_3
 clear hr0_3 hc0_3
 have HR0_5 := Aside0.mk hr0_5
 have HC0_5 := Aside0.mk hc0_5
 clear hr0_5 hc0_5
 have HB := Aside0.mk (Below.refl w.heap.size w)
 have H := h
 clear h
 unfold laws_FnExactIsCenter.f at H
 have hu28 := Tryz.underlying28
 have hu37 := Tryz.underlying37
 go_enter Tryz.func3, Tryz.ntmps3
 have H'' := Aside0.mk H
 clear H
 go_wp2_with (first | ((with_reducible refine gate_dst (N := 1) rfl ?_); refine box_event ?hg (N := 1) ?hd (cs := #[.slice A0_0 l0_0.length c0_0, .slice A0_1 l0_1.length c0_1, .slice A0_2 l0_2.length c0_2, .slice A0_3 l0_3.length c0_3, .int .i64 a0_4, .slice A0_5 l0_5.length c0_5]) (t := 28) ?hr ?_; (case hd => rfl); (case hg => rfl); (case hr => first | (go_simp; done) | (go_simp; rfl)); intro gb1 hg W1 hbox hb; have Z1 := Aside0.mk hb.size; have E1 := Aside0.mk (And.intro hg (blk_lt hbox)); have BK1 := Aside0.mk hbox; have c_BK1 := blk_cell hbox; have z_BK1 := blk_frozen hbox; have hB_ := below_step HB.out hb; clear HB hb hbox hg; have HB := Aside0.mk hB_; clear hB_))
 have H := H''.out
 clear H''
 replace H := Option.bind_eq_some_iff.mp H
 obtain ⟨t806, hm, H⟩ := H
 try dsimp only at H
 have H' := Aside0.mk H
 clear H
 have hcall := laws_szCenter.calls k _ _ l0_0 _ _ l0_1 _ _ l0_2 _ _ l0_3 a0_4 _ _ l0_5 1048576 t806 W1 (Kd.C_below HR0_0.out HB.out) HC0_0.out (Kd.C_below HR0_1.out HB.out) HC0_1.out (Kd.C_below HR0_2.out HB.out) HC0_2.out (Kd.C_below HR0_3.out HB.out) HC0_3.out (Kd.C_below HR0_5.out HB.out) HC0_5.out hm
 clear hm
 try go_wp2_with fail
 refine hcall.mono ?_
 rintro e W2 ⟨rfl, hb⟩
 clear hcall
 have Z2 := Aside0.mk hb.size
 have h_ := blk_below BK1.out hb
 clear BK1 c_BK1 z_BK1
 have BK1 := Aside0.mk h_
 have c_BK1 := blk_cell h_
 have z_BK1 := blk_frozen h_
 clear h_
 have hB_ := below_step HB.out hb
 clear HB hb
 have HB := Aside0.mk hB_
 clear hB_
 have H := H'.out
 clear H'
 replace H := ifD H; rcases H with ⟨c3, H⟩ | ⟨c3, H⟩
 ·have c3_0 : decide (t806 < 0) = true := decide_eq_true c3
  clear c3
  obtain rfl := Option.some.inj H
  clear H
  go_wp2
  go_ret
  exact ⟨rfl, HB.out⟩
 ·have c3_0 : decide (t806 < 0) = false := decide_eq_false c3
  clear c3
  replace H := Option.bind_eq_some_iff.mp H
  obtain ⟨⟨t807, t810, t813, t816, t819, t820⟩, hm, H⟩ := H
  try dsimp only at H
  have H' := Aside0.mk H
  clear H
  have hcall := laws_toCenter.calls k _ _ l0_0 _ _ l0_1 _ _ l0_2 _ _ l0_3 a0_4 _ _ l0_5 t807 t810 t813 t816 t819 t820 W2 (Kd.C_below HR0_0.out HB.out) HC0_0.out (Kd.C_below HR0_1.out HB.out) HC0_1.out (Kd.C_below HR0_2.out HB.out) HC0_2.out (Kd.C_below HR0_3.out HB.out) HC0_3.out (Kd.C_below HR0_5.out HB.out) HC0_5.out hm
  clear hm
  go_wp2_with fail
  refine hcall.mono ?_
  rintro e W4 ⟨v808, v811, v814, v817, v821, rfl, ho0, ho1, ho2, ho3, ho4, hb⟩
  clear hcall
  have Z4 := Aside0.mk hb.size
  obtain ⟨A4_0, n4_0, c4_0, rfl, hn_, hr_⟩ := Go.Proofs.YtineejdlpcgnkaaGreatM.S_made ho0 HB.out.size
  clear hn_ ho0
  have HO4_0 := Aside0.mk hr_
  clear hr_
  obtain ⟨A4_1, n4_1, c4_1, rfl, hn_, hr_⟩ := Go.Proofs.YtineejdlpcgnkaaGreatM.R_made ho1 HB.out.size
  clear hn_ ho1
  have HO4_1 := Aside0.mk hr_
  clear hr_
  obtain ⟨A4_2, n4_2, c4_2, rfl, hn_, hr_⟩ := Go.Proofs.YtineejdlpcgnkaaGreatM.R_made ho2 HB.out.size
  clear hn_ ho2
  have HO4_2 := Aside0.mk hr_
  clear hr_
  obtain ⟨A4_3, n4_3, c4_3, rfl, hn_, hr_⟩ := Go.Proofs.YtineejdlpcgnkaaGreatM.R_made ho3 HB.out.size
  clear hn_ ho3
  have HO4_3 := Aside0.mk hr_
  clear hr_
  obtain ⟨A4_4, n4_4, c4_4, rfl, hn_, hr_⟩ := Go.Proofs.YtineejdlpcgnkaaGreatM.R_made ho4 HB.out.size
  clear hn_ ho4
  have HO4_4 := Aside0.mk hr_
  clear hr_
  have h_ := blk_below BK1.out hb
  clear BK1 c_BK1 z_BK1
  have BK1 := Aside0.mk h_
  have c_BK1 := blk_cell h_
  have z_BK1 := blk_frozen h_
  clear h_
  have hB_ := below_step HB.out hb
  clear HB hb
  have HB := Aside0.mk hB_
  clear hB_
  have H := H'.out
  clear H'
  replace H := Option.bind_eq_some_iff.mp H
  obtain ⟨t823, hm, H⟩ := H
  try dsimp only at H
  have H' := Aside0.mk H
  clear H
  have hcall := spec_IsCenter.calls k _ _ t807 _ _ t810 _ _ t813 _ _ t816 t819 _ _ t820 t823 W4 (Go.Proofs.YtineejdlpcgnkaaGreatM.S_C HO4_0.out) (Go.Proofs.YtineejdlpcgnkaaGreatM.S_len HO4_0.out) (Go.Proofs.YtineejdlpcgnkaaGreatM.R_C HO4_1.out) (Go.Proofs.YtineejdlpcgnkaaGreatM.R_len HO4_1.out) (Go.Proofs.YtineejdlpcgnkaaGreatM.R_C HO4_2.out) (Go.Proofs.YtineejdlpcgnkaaGreatM.R_len HO4_2.out) (Go.Proofs.YtineejdlpcgnkaaGreatM.R_C HO4_3.out) (Go.Proofs.YtineejdlpcgnkaaGreatM.R_len HO4_3.out) (Go.Proofs.YtineejdlpcgnkaaGreatM.R_C HO4_4.out) (Go.Proofs.YtineejdlpcgnkaaGreatM.R_len HO4_4.out) hm
  rw [Go.Proofs.YtineejdlpcgnkaaGreatM.S_n HO4_0.out, Go.Proofs.YtineejdlpcgnkaaGreatM.R_n HO4_1.out, Go.Proofs.YtineejdlpcgnkaaGreatM.R_n HO4_2.out, Go.Proofs.YtineejdlpcgnkaaGreatM.R_n HO4_3.out, Go.Proofs.YtineejdlpcgnkaaGreatM.R_n HO4_4.out] at hcall
  clear hm
  go_wp2_with fail
  refine hcall.mono ?_
  rintro e W5 ⟨rfl, hb⟩
  clear hcall
  have Z5 := Aside0.mk hb.size
  have h_ := Kd.S_below HO4_0.out hb
  clear HO4_0
  have HO4_0 := Aside0.mk h_
  clear h_
  have h_ := Kd.R_below HO4_1.out hb
  clear HO4_1
  have HO4_1 := Aside0.mk h_
  clear h_
  have h_ := Kd.R_below HO4_2.out hb
  clear HO4_2
  have HO4_2 := Aside0.mk h_
  clear h_
  have h_ := Kd.R_below HO4_3.out hb
  clear HO4_3
  have HO4_3 := Aside0.mk h_
  clear h_
  have h_ := Kd.R_below HO4_4.out hb
  clear HO4_4
  have HO4_4 := Aside0.mk h_
  clear h_
  have h_ := blk_below BK1.out hb
  clear BK1 c_BK1 z_BK1
  have BK1 := Aside0.mk h_
  have c_BK1 := blk_cell h_
  have z_BK1 := blk_frozen h_
  clear h_
  have hB_ := below_step HB.out hb
  clear HB hb
  have HB := Aside0.mk hB_
  clear hB_
  have H := H'.out
  clear H'
  replace H := Option.bind_eq_some_iff.mp H
  obtain ⟨⟨t824, t827, t830, t833, t836, t837⟩, hm, H⟩ := H
  try dsimp only at H
  have H' := Aside0.mk H
  clear H
  have hcall := laws_toCenter.calls k _ _ l0_0 _ _ l0_1 _ _ l0_2 _ _ l0_3 a0_4 _ _ l0_5 t824 t827 t830 t833 t836 t837 W5 (Kd.C_below HR0_0.out HB.out) HC0_0.out (Kd.C_below HR0_1.out HB.out) HC0_1.out (Kd.C_below HR0_2.out HB.out) HC0_2.out (Kd.C_below HR0_3.out HB.out) HC0_3.out (Kd.C_below HR0_5.out HB.out) HC0_5.out hm
  clear hm
  go_wp2_with fail
  refine hcall.mono ?_
  rintro e W6 ⟨v825, v828, v831, v834, v838, rfl, ho0, ho1, ho2, ho3, ho4, hb⟩
  clear hcall
  have Z6 := Aside0.mk hb.size
  have h_ := Kd.S_below HO4_0.out hb
  clear HO4_0
  have HO4_0 := Aside0.mk h_
  clear h_
  have h_ := Kd.R_below HO4_1.out hb
  clear HO4_1
  have HO4_1 := Aside0.mk h_
  clear h_
  have h_ := Kd.R_below HO4_2.out hb
  clear HO4_2
  have HO4_2 := Aside0.mk h_
  clear h_
  have h_ := Kd.R_below HO4_3.out hb
  clear HO4_3
  have HO4_3 := Aside0.mk h_
  clear h_
  have h_ := Kd.R_below HO4_4.out hb
  clear HO4_4
  have HO4_4 := Aside0.mk h_
  clear h_
  obtain ⟨A6_0, n6_0, c6_0, rfl, hn_, hr_⟩ := Go.Proofs.YtineejdlpcgnkaaGreatM.S_made ho0 HB.out.size
  clear hn_ ho0
  have HO6_0 := Aside0.mk hr_
  clear hr_
  obtain ⟨A6_1, n6_1, c6_1, rfl, hn_, hr_⟩ := Go.Proofs.YtineejdlpcgnkaaGreatM.R_made ho1 HB.out.size
  clear hn_ ho1
  have HO6_1 := Aside0.mk hr_
  clear hr_
  obtain ⟨A6_2, n6_2, c6_2, rfl, hn_, hr_⟩ := Go.Proofs.YtineejdlpcgnkaaGreatM.R_made ho2 HB.out.size
  clear hn_ ho2
  have HO6_2 := Aside0.mk hr_
  clear hr_
  obtain ⟨A6_3, n6_3, c6_3, rfl, hn_, hr_⟩ := Go.Proofs.YtineejdlpcgnkaaGreatM.R_made ho3 HB.out.size
  clear hn_ ho3
  have HO6_3 := Aside0.mk hr_
  clear hr_
  obtain ⟨A6_4, n6_4, c6_4, rfl, hn_, hr_⟩ := Go.Proofs.YtineejdlpcgnkaaGreatM.R_made ho4 HB.out.size
  clear hn_ ho4
  have HO6_4 := Aside0.mk hr_
  clear hr_
  have h_ := blk_below BK1.out hb
  clear BK1 c_BK1 z_BK1
  have BK1 := Aside0.mk h_
  have c_BK1 := blk_cell h_
  have z_BK1 := blk_frozen h_
  clear h_
  have hB_ := below_step HB.out hb
  clear HB hb
  have HB := Aside0.mk hB_
  clear hB_
  have H := H'.out
  clear H'
  have H'' := Aside0.mk H
  clear H
  go_wp2_with (first | ((with_reducible refine gate_dst (N := 5) rfl ?_); refine box_event ?hg (N := 5) ?hd (cs := #[.slice none 0 0, .slice none 0 0, .slice none 0 0, .slice none 0 0, .int .i64 0, .slice none 0 0]) (t := 37) ?hr ?_; (case hd => rfl); (case hg => rfl); (case hr => first | (go_simp; done) | (go_simp; rfl)); intro gb7 hg W7 hbox hb; have Z7 := Aside0.mk hb.size; have E7 := Aside0.mk (And.intro hg (blk_lt hbox)); have h_ := Kd.S_below HO4_0.out hb; clear HO4_0; have HO4_0 := Aside0.mk h_; clear h_; have h_ := Kd.R_below HO4_1.out hb; clear HO4_1; have HO4_1 := Aside0.mk h_; clear h_; have h_ := Kd.R_below HO4_2.out hb; clear HO4_2; have HO4_2 := Aside0.mk h_; clear h_; have h_ := Kd.R_below HO4_3.out hb; clear HO4_3; have HO4_3 := Aside0.mk h_; clear h_; have h_ := Kd.R_below HO4_4.out hb; clear HO4_4; have HO4_4 := Aside0.mk h_; clear h_; have h_ := Kd.S_below HO6_0.out hb; clear HO6_0; have HO6_0 := Aside0.mk h_; clear h_; have h_ := Kd.R_below HO6_1.out hb; clear HO6_1; have HO6_1 := Aside0.mk h_; clear h_; have h_ := Kd.R_below HO6_2.out hb; clear HO6_2; have HO6_2 := Aside0.mk h_; clear h_; have h_ := Kd.R_below HO6_3.out hb; clear HO6_3; have HO6_3 := Aside0.mk h_; clear h_; have h_ := Kd.R_below HO6_4.out hb; clear HO6_4; have HO6_4 := Aside0.mk h_; clear h_; have h_ := blk_below BK1.out hb; clear BK1 c_BK1 z_BK1; have BK1 := Aside0.mk h_; have c_BK1 := blk_cell h_; have z_BK1 := blk_frozen h_; clear h_; have BK7 := Aside0.mk hbox; have c_BK7 := blk_cell hbox; have z_BK7 := blk_frozen hbox; have hB_ := below_step HB.out hb; clear HB hb hbox hg; have HB := Aside0.mk hB_; clear hB_) | ((with_reducible refine gate_store (t := 37) (p := 5) rfl ?_); refine store_event (t := 37) (p := 5) (v := ?vo_s8) (w1 := ((((((W7.setCell ⟨gb7, 0, none⟩ (.slice A6_0 n6_0 c6_0)).setCell ⟨gb7, 1, none⟩ (.slice A6_1 n6_1 c6_1)).setCell ⟨gb7, 2, none⟩ (.slice A6_2 n6_2 c6_2)).setCell ⟨gb7, 3, none⟩ (.slice A6_3 n6_3 c6_3)).setCell ⟨gb7, 4, none⟩ (.int .i64 t836)).setCell ⟨gb7, 5, none⟩ (.slice A6_4 n6_4 c6_4))) ?hg ?ho ?hn ?hr ?_; (case ho => rfl); (case hg => rfl); (case hn => rfl); (case hr => first | (go_simp; done) | (go_simp; rfl)); intro W8 hw; have hk_ : Kept W7 W8 (fun k_ => k_ = gb7) := (by rw [hw]; exact Kept.setCell (Kept.setCell (Kept.setCell (Kept.setCell (Kept.setCell (Kept.setCell (Kept.refl W7 (fun k_ => k_ = gb7)) (.inl rfl) _) (.inl rfl) _) (.inl rfl) _) (.inl rfl) _) (.inl rfl) _) (.inl rfl) _); have hge_ : w.heap.size ≤ gb7 := (by have := E7.out.1; have := HB.out.size; have := Z1.out; have := Z2.out; have := Z4.out; have := Z5.out; have := Z6.out; have := Z7.out; omega); have Z8 := Aside0.mk hk_.1; have h_ := Kd.S_step HO4_0.out (fun k_ h1_ h2_ => hk_.2 k_ h2_ (fun h3_ => by obtain ⟨_, _⟩ := h1_; have := E7.out; have := Z1.out; have := Z2.out; have := Z4.out; have := Z5.out; have := Z6.out; have := Z7.out; omega)); clear HO4_0; have HO4_0 := Aside0.mk h_; clear h_; have h_ := Kd.R_step HO4_1.out (fun k_ h1_ h2_ => hk_.2 k_ h2_ (fun h3_ => by obtain ⟨_, _⟩ := h1_; have := E7.out; have := Z1.out; have := Z2.out; have := Z4.out; have := Z5.out; have := Z6.out; have := Z7.out; omega)); clear HO4_1; have HO4_1 := Aside0.mk h_; clear h_; have h_ := Kd.R_step HO4_2.out (fun k_ h1_ h2_ => hk_.2 k_ h2_ (fun h3_ => by obtain ⟨_, _⟩ := h1_; have := E7.out; have := Z1.out; have := Z2.out; have := Z4.out; have := Z5.out; have := Z6.out; have := Z7.out; omega)); clear HO4_2; have HO4_2 := Aside0.mk h_; clear h_; have h_ := Kd.R_step HO4_3.out (fun k_ h1_ h2_ => hk_.2 k_ h2_ (fun h3_ => by obtain ⟨_, _⟩ := h1_; have := E7.out; have := Z1.out; have := Z2.out; have := Z4.out; have := Z5.out; have := Z6.out; have := Z7.out; omega)); clear HO4_3; have HO4_3 := Aside0.mk h_; clear h_; have h_ := Kd.R_step HO4_4.out (fun k_ h1_ h2_ => hk_.2 k_ h2_ (fun h3_ => by obtain ⟨_, _⟩ := h1_; have := E7.out; have := Z1.out; have := Z2.out; have := Z4.out; have := Z5.out; have := Z6.out; have := Z7.out; omega)); clear HO4_4; have HO4_4 := Aside0.mk h_; clear h_; have h_ := Kd.S_step HO6_0.out (fun k_ h1_ h2_ => hk_.2 k_ h2_ (fun h3_ => by obtain ⟨_, _⟩ := h1_; have := E7.out; have := Z1.out; have := Z2.out; have := Z4.out; have := Z5.out; have := Z6.out; have := Z7.out; omega)); clear HO6_0; have HO6_0 := Aside0.mk h_; clear h_; have h_ := Kd.R_step HO6_1.out (fun k_ h1_ h2_ => hk_.2 k_ h2_ (fun h3_ => by obtain ⟨_, _⟩ := h1_; have := E7.out; have := Z1.out; have := Z2.out; have := Z4.out; have := Z5.out; have := Z6.out; have := Z7.out; omega)); clear HO6_1; have HO6_1 := Aside0.mk h_; clear h_; have h_ := Kd.R_step HO6_2.out (fun k_ h1_ h2_ => hk_.2 k_ h2_ (fun h3_ => by obtain ⟨_, _⟩ := h1_; have := E7.out; have := Z1.out; have := Z2.out; have := Z4.out; have := Z5.out; have := Z6.out; have := Z7.out; omega)); clear HO6_2; have HO6_2 := Aside0.mk h_; clear h_; have h_ := Kd.R_step HO6_3.out (fun k_ h1_ h2_ => hk_.2 k_ h2_ (fun h3_ => by obtain ⟨_, _⟩ := h1_; have := E7.out; have := Z1.out; have := Z2.out; have := Z4.out; have := Z5.out; have := Z6.out; have := Z7.out; omega)); clear HO6_3; have HO6_3 := Aside0.mk h_; clear h_; have h_ := Kd.R_step HO6_4.out (fun k_ h1_ h2_ => hk_.2 k_ h2_ (fun h3_ => by obtain ⟨_, _⟩ := h1_; have := E7.out; have := Z1.out; have := Z2.out; have := Z4.out; have := Z5.out; have := Z6.out; have := Z7.out; omega)); clear HO6_4; have HO6_4 := Aside0.mk h_; clear h_; have h_ := blk_kept BK1.out hk_ (fun hp_ => by have := E1.out; have := E7.out; have := Z1.out; have := Z2.out; have := Z4.out; have := Z5.out; have := Z6.out; have := Z7.out; omega); clear BK1 c_BK1 z_BK1; have BK1 := Aside0.mk h_; have c_BK1 := blk_cell h_; have z_BK1 := blk_frozen h_; clear h_; have h_ := blk_set (blk_set (blk_set (blk_set (blk_set (blk_set (BK7.out) 0 (.slice A6_0 n6_0 c6_0)) 1 (.slice A6_1 n6_1 c6_1)) 2 (.slice A6_2 n6_2 c6_2)) 3 (.slice A6_3 n6_3 c6_3)) 4 (.int .i64 t836)) 5 (.slice A6_4 n6_4 c6_4); rw [← hw] at h_; simp only [List.setIfInBounds_toArray, List.set_cons_zero, List.set_cons_succ] at h_; clear BK7 c_BK7 z_BK7; have BK7 := Aside0.mk h_; have c_BK7 := blk_cell h_; have z_BK7 := blk_frozen h_; clear h_; have hB_ : Below w.heap.size w W8 := (by rw [hw]; exact below_set (below_set (below_set (below_set (below_set (below_set (HB.out) hge_) hge_) hge_) hge_) hge_) hge_); clear HB hw hk_ hge_; have HB := Aside0.mk hB_; clear hB_))
  have H := H''.out
  clear H''
  replace H := Option.bind_eq_some_iff.mp H
  obtain ⟨t841, hm, H⟩ := H
  try dsimp only at H
  have H' := Aside0.mk H
  clear H
  have hcall := impl_IsCenter.calls k _ _ t824 _ _ t827 _ _ t830 _ _ t833 t836 _ _ t837 t841 W8 (Go.Proofs.YtineejdlpcgnkaaGreatM.S_C HO6_0.out) (Go.Proofs.YtineejdlpcgnkaaGreatM.S_len HO6_0.out) (Go.Proofs.YtineejdlpcgnkaaGreatM.R_C HO6_1.out) (Go.Proofs.YtineejdlpcgnkaaGreatM.R_len HO6_1.out) (Go.Proofs.YtineejdlpcgnkaaGreatM.R_C HO6_2.out) (Go.Proofs.YtineejdlpcgnkaaGreatM.R_len HO6_2.out) (Go.Proofs.YtineejdlpcgnkaaGreatM.R_C HO6_3.out) (Go.Proofs.YtineejdlpcgnkaaGreatM.R_len HO6_3.out) (Go.Proofs.YtineejdlpcgnkaaGreatM.R_C HO6_4.out) (Go.Proofs.YtineejdlpcgnkaaGreatM.R_len HO6_4.out) hm
  rw [Go.Proofs.YtineejdlpcgnkaaGreatM.S_n HO6_0.out, Go.Proofs.YtineejdlpcgnkaaGreatM.R_n HO6_1.out, Go.Proofs.YtineejdlpcgnkaaGreatM.R_n HO6_2.out, Go.Proofs.YtineejdlpcgnkaaGreatM.R_n HO6_3.out, Go.Proofs.YtineejdlpcgnkaaGreatM.R_n HO6_4.out] at hcall
  clear hm
  try go_wp2_with fail
  refine hcall.mono ?_
  rintro e W9 ⟨rfl, hb⟩
  clear hcall
  have Z9 := Aside0.mk hb.size
  have h_ := Kd.S_below HO4_0.out hb
  clear HO4_0
  have HO4_0 := Aside0.mk h_
  clear h_
  have h_ := Kd.R_below HO4_1.out hb
  clear HO4_1
  have HO4_1 := Aside0.mk h_
  clear h_
  have h_ := Kd.R_below HO4_2.out hb
  clear HO4_2
  have HO4_2 := Aside0.mk h_
  clear h_
  have h_ := Kd.R_below HO4_3.out hb
  clear HO4_3
  have HO4_3 := Aside0.mk h_
  clear h_
  have h_ := Kd.R_below HO4_4.out hb
  clear HO4_4
  have HO4_4 := Aside0.mk h_
  clear h_
  have h_ := Kd.S_below HO6_0.out hb
  clear HO6_0
  have HO6_0 := Aside0.mk h_
  clear h_
  have h_ := Kd.R_below HO6_1.out hb
  clear HO6_1
  have HO6_1 := Aside0.mk h_
  clear h_
  have h_ := Kd.R_below HO6_2.out hb
  clear HO6_2
  have HO6_2 := Aside0.mk h_
  clear h_
  have h_ := Kd.R_below HO6_3.out hb
  clear HO6_3
  have HO6_3 := Aside0.mk h_
  clear h_
  have h_ := Kd.R_below HO6_4.out hb
  clear HO6_4
  have HO6_4 := Aside0.mk h_
  clear h_
  have h_ := blk_below BK1.out hb
  clear BK1 c_BK1 z_BK1
  have BK1 := Aside0.mk h_
  have c_BK1 := blk_cell h_
  have z_BK1 := blk_frozen h_
  clear h_
  have h_ := blk_below BK7.out hb
  clear BK7 c_BK7 z_BK7
  have BK7 := Aside0.mk h_
  have c_BK7 := blk_cell h_
  have z_BK7 := blk_frozen h_
  clear h_
  have hB_ := below_step HB.out hb
  clear HB hb
  have HB := Aside0.mk hB_
  clear hB_
  have H := H'.out
  clear H'
  replace H := ifD H; rcases H with ⟨c10, H⟩ | ⟨c10, H⟩
  ·have c10_1 : (t841 != t823) = true := by revert c10; cases t841 <;> cases t823 <;> decide
   have c10_2 : (!t841 == t823) = true := by revert c10; cases t841 <;> cases t823 <;> decide
   clear c10
   obtain rfl := Option.some.inj H
   clear H
   go_wp2
   go_ret
   exact ⟨rfl, HB.out⟩
  ·have c10_1 : (t841 != t823) = false := by revert c10; cases t841 <;> cases t823 <;> decide
   have c10_2 : (!t841 == t823) = false := by revert c10; cases t841 <;> cases t823 <;> decide
   clear c10
   replace H := Option.bind_eq_some_iff.mp H
   obtain ⟨⟨t842, t845, t848, t851, t854, t855⟩, hm, H⟩ := H
   try dsimp only at H
   have HM11 := Aside0.mk hm
   clear hm
   replace H := Option.bind_eq_some_iff.mp H
   obtain ⟨t858, hm, H⟩ := H
   try dsimp only at H
   have HM12 := Aside0.mk hm
   clear hm
   have H' := Aside0.mk H
   clear H
   try go_wp2
   have h_ := Kd.S_drew HO4_0.out
   clear HO4_0
   have HO4_0 := Aside0.mk h_
   clear h_
   have h_ := Kd.R_drew HO4_1.out
   clear HO4_1
   have HO4_1 := Aside0.mk h_
   clear h_
   have h_ := Kd.R_drew HO4_2.out
   clear HO4_2
   have HO4_2 := Aside0.mk h_
   clear h_
   have h_ := Kd.R_drew HO4_3.out
   clear HO4_3
   have HO4_3 := Aside0.mk h_
   clear h_
   have h_ := Kd.R_drew HO4_4.out
   clear HO4_4
   have HO4_4 := Aside0.mk h_
   clear h_
   have h_ := Kd.S_drew HO6_0.out
   clear HO6_0
   have HO6_0 := Aside0.mk h_
   clear h_
   have h_ := Kd.R_drew HO6_1.out
   clear HO6_1
   have HO6_1 := Aside0.mk h_
   clear h_
   have h_ := Kd.R_drew HO6_2.out
   clear HO6_2
   have HO6_2 := Aside0.mk h_
   clear h_
   have h_ := Kd.R_drew HO6_3.out
   clear HO6_3
   have HO6_3 := Aside0.mk h_
   clear h_
   have h_ := Kd.R_drew HO6_4.out
   clear HO6_4
   have HO6_4 := Aside0.mk h_
   clear h_
   have h_ := blk_drew BK1.out
   clear BK1 c_BK1 z_BK1
   have BK1 := Aside0.mk h_
   clear h_
   have h_ := blk_drew BK7.out
   clear BK7 c_BK7 z_BK7
   have BK7 := Aside0.mk h_
   clear h_
   have hB_ := below_drew1 HB.out
   clear HB
   have HB := Aside0.mk hB_
   clear hB_
   have Z13 : Aside0 (W9.heap.size ≤ W9.drew.heap.size) := ⟨Nat.le_refl _⟩
   refine start_ (n := 5) (S := fun w' => w'.cell? ⟨gb1, 0, none⟩ = some (.slice A0_0 l0_0.length c0_0) ∧ w'.cell? ⟨gb1, 1, none⟩ = some (.slice A0_1 l0_1.length c0_1) ∧ w'.cell? ⟨gb1, 2, none⟩ = some (.slice A0_2 l0_2.length c0_2) ∧ w'.cell? ⟨gb1, 3, none⟩ = some (.slice A0_3 l0_3.length c0_3) ∧ w'.cell? ⟨gb1, 4, none⟩ = some (.int .i64 a0_4) ∧ w'.cell? ⟨gb1, 5, none⟩ = some (.slice A0_5 l0_5.length c0_5) ∧ w'.cell? ⟨gb7, 0, none⟩ = some (.slice A6_0 n6_0 c6_0) ∧ w'.cell? ⟨gb7, 1, none⟩ = some (.slice A6_1 n6_1 c6_1) ∧ w'.cell? ⟨gb7, 2, none⟩ = some (.slice A6_2 n6_2 c6_2) ∧ w'.cell? ⟨gb7, 3, none⟩ = some (.slice A6_3 n6_3 c6_3) ∧ w'.cell? ⟨gb7, 4, none⟩ = some (.int .i64 t836) ∧ w'.cell? ⟨gb7, 5, none⟩ = some (.slice A6_4 n6_4 c6_4)) (ds := []) #[false, false, false, false, false] (by kernel_rfl) rfl rfl ⟨(blk_cell BK1.out 0).trans rfl, (blk_cell BK1.out 1).trans rfl, (blk_cell BK1.out 2).trans rfl, (blk_cell BK1.out 3).trans rfl, (blk_cell BK1.out 4).trans rfl, (blk_cell BK1.out 5).trans rfl, (blk_cell BK7.out 0).trans rfl, (blk_cell BK7.out 1).trans rfl, (blk_cell BK7.out 2).trans rfl, (blk_cell BK7.out 3).trans rfl, (blk_cell BK7.out 4).trans rfl, (blk_cell BK7.out 5).trans rfl⟩ (fun hHeld => ?_)
   generalize W9.drew = W13 at Z13 HB BK1 BK7 HO4_0 HO4_1 HO4_2 HO4_3 HO4_4 HO6_0 HO6_1 HO6_2 HO6_3 HO6_4 hHeld ⊢
   have c_BK1 := blk_cell BK1.out
   have z_BK1 := blk_frozen BK1.out
   have c_BK7 := blk_cell BK7.out
   have z_BK7 := blk_frozen BK7.out
   refine take_ (i := 0) (N := some 22) (v := ?_) (a' := ?_) #[true, false, false, false, false] rfl rfl (by kernel_rfl) (fun _ _ _ h => h) (Or.inl ⟨by rfl, ?_⟩) hHeld ?_ ?_
   rotate_left
   ·rintro w' ⟨s0, s1, s2, s3, s4, s5, s6, s7, s8, s9, s10, s11⟩
    go_simp
    with_reducible rfl
   rotate_left
   ·simp only [Act.put, List.setIfInBounds_toArray, List.set_cons_zero, List.set_cons_succ, i64_w, i32_w]
    rfl
   refine take_ (i := 1) (N := some 23) (v := ?_) (a' := ?_) #[true, true, false, false, false] rfl rfl (by kernel_rfl) (fun _ _ _ h => h) (Or.inl ⟨by rfl, ?_⟩) hHeld ?_ ?_
   rotate_left
   ·rintro w' ⟨s0, s1, s2, s3, s4, s5, s6, s7, s8, s9, s10, s11⟩
    go_simp
    with_reducible rfl
   rotate_left
   ·simp only [Act.put, List.setIfInBounds_toArray, List.set_cons_zero, List.set_cons_succ, i64_w, i32_w]
    rfl
   refine one_ (i := 2) (N := some 24) #[true, true, true, false, false] rfl rfl (by kernel_rfl) (by decide) (fun K hK => ?_)
   have hcall := laws_toCenter.calls k _ _ l0_0 _ _ l0_1 _ _ l0_2 _ _ l0_3 a0_4 _ _ l0_5 t842 t845 t848 t851 t854 t855 W13 (Kd.C_below HR0_0.out HB.out) HC0_0.out (Kd.C_below HR0_1.out HB.out) HC0_1.out (Kd.C_below HR0_2.out HB.out) HC0_2.out (Kd.C_below HR0_3.out HB.out) HC0_3.out (Kd.C_below HR0_5.out HB.out) HC0_5.out HM11.out
   refine goes_ Tryz.func9 (by kernel_rfl) rfl #[.agg #[.slice A0_0 l0_0.length c0_0, .slice A0_1 l0_1.length c0_1, .slice A0_2 l0_2.length c0_2, .slice A0_3 l0_3.length c0_3, .int .i64 a0_4, .slice A0_5 l0_5.length c0_5]] (by rfl) rfl rfl (by (try simp only [List.map_toArray, List.map_cons, List.map_nil]); first | done | rfl) ?_
   refine hcall.mono ?_
   rintro e W14 ⟨v843, v846, v849, v852, v856, rfl, ho0, ho1, ho2, ho3, ho4, hb⟩
   refine ⟨_, rfl, ?_⟩
   clear hcall
   have Z14 := Aside0.mk hb.size
   have h_ := Kd.S_below HO4_0.out hb
   clear HO4_0
   have HO4_0 := Aside0.mk h_
   clear h_
   have h_ := Kd.R_below HO4_1.out hb
   clear HO4_1
   have HO4_1 := Aside0.mk h_
   clear h_
   have h_ := Kd.R_below HO4_2.out hb
   clear HO4_2
   have HO4_2 := Aside0.mk h_
   clear h_
   have h_ := Kd.R_below HO4_3.out hb
   clear HO4_3
   have HO4_3 := Aside0.mk h_
   clear h_
   have h_ := Kd.R_below HO4_4.out hb
   clear HO4_4
   have HO4_4 := Aside0.mk h_
   clear h_
   have h_ := Kd.S_below HO6_0.out hb
   clear HO6_0
   have HO6_0 := Aside0.mk h_
   clear h_
   have h_ := Kd.R_below HO6_1.out hb
   clear HO6_1
   have HO6_1 := Aside0.mk h_
   clear h_
   have h_ := Kd.R_below HO6_2.out hb
   clear HO6_2
   have HO6_2 := Aside0.mk h_
   clear h_
   have h_ := Kd.R_below HO6_3.out hb
   clear HO6_3
   have HO6_3 := Aside0.mk h_
   clear h_
   have h_ := Kd.R_below HO6_4.out hb
   clear HO6_4
   have HO6_4 := Aside0.mk h_
   clear h_
   obtain ⟨A14_0, n14_0, c14_0, rfl, hn_, hr_⟩ := Go.Proofs.YtineejdlpcgnkaaGreatM.S_made ho0 HB.out.size
   clear hn_ ho0
   have HO14_0 := Aside0.mk hr_
   clear hr_
   obtain ⟨A14_1, n14_1, c14_1, rfl, hn_, hr_⟩ := Go.Proofs.YtineejdlpcgnkaaGreatM.R_made ho1 HB.out.size
   clear hn_ ho1
   have HO14_1 := Aside0.mk hr_
   clear hr_
   obtain ⟨A14_2, n14_2, c14_2, rfl, hn_, hr_⟩ := Go.Proofs.YtineejdlpcgnkaaGreatM.R_made ho2 HB.out.size
   clear hn_ ho2
   have HO14_2 := Aside0.mk hr_
   clear hr_
   obtain ⟨A14_3, n14_3, c14_3, rfl, hn_, hr_⟩ := Go.Proofs.YtineejdlpcgnkaaGreatM.R_made ho3 HB.out.size
   clear hn_ ho3
   have HO14_3 := Aside0.mk hr_
   clear hr_
   obtain ⟨A14_4, n14_4, c14_4, rfl, hn_, hr_⟩ := Go.Proofs.YtineejdlpcgnkaaGreatM.R_made ho4 HB.out.size
   clear hn_ ho4
   have HO14_4 := Aside0.mk hr_
   clear hr_
   have h_ := blk_below BK1.out hb
   clear BK1 c_BK1 z_BK1
   have BK1 := Aside0.mk h_
   have c_BK1 := blk_cell h_
   have z_BK1 := blk_frozen h_
   clear h_
   have h_ := blk_below BK7.out hb
   clear BK7 c_BK7 z_BK7
   have BK7 := Aside0.mk h_
   have c_BK7 := blk_cell h_
   have z_BK7 := blk_frozen h_
   clear h_
   have hB_ := below_step HB.out hb
   clear HB hb
   have HB := Aside0.mk hB_
   clear hB_
   refine hK.out _ _ ⟨(blk_cell BK1.out 0).trans rfl, (blk_cell BK1.out 1).trans rfl, (blk_cell BK1.out 2).trans rfl, (blk_cell BK1.out 3).trans rfl, (blk_cell BK1.out 4).trans rfl, (blk_cell BK1.out 5).trans rfl, (blk_cell BK7.out 0).trans rfl, (blk_cell BK7.out 1).trans rfl, (blk_cell BK7.out 2).trans rfl, (blk_cell BK7.out 3).trans rfl, (blk_cell BK7.out 4).trans rfl, (blk_cell BK7.out 5).trans rfl⟩ (fun hHeld => ?_)
   clear hK K
   refine norm_ (a' := ?_) ?_ ?_
   rotate_left
   ·show Act.put _ (some 24) _ = _
    simp only [Act.put, List.setIfInBounds_toArray, List.set_cons_zero, List.set_cons_succ, i64_w, i32_w]
    rfl
   refine one_ (i := 3) (N := some 25) #[true, true, true, true, false] rfl rfl (by kernel_rfl) (by decide) (fun K hK => ?_)
   have hcall := laws_eqCenter.calls k _ _ t824 _ _ t827 _ _ t830 _ _ t833 t836 _ _ t837 _ _ t842 _ _ t845 _ _ t848 _ _ t851 t854 _ _ t855 t858 W14 (Go.Proofs.YtineejdlpcgnkaaGreatM.S_C HO6_0.out) (Go.Proofs.YtineejdlpcgnkaaGreatM.S_len HO6_0.out) (Go.Proofs.YtineejdlpcgnkaaGreatM.R_C HO6_1.out) (Go.Proofs.YtineejdlpcgnkaaGreatM.R_len HO6_1.out) (Go.Proofs.YtineejdlpcgnkaaGreatM.R_C HO6_2.out) (Go.Proofs.YtineejdlpcgnkaaGreatM.R_len HO6_2.out) (Go.Proofs.YtineejdlpcgnkaaGreatM.R_C HO6_3.out) (Go.Proofs.YtineejdlpcgnkaaGreatM.R_len HO6_3.out) (Go.Proofs.YtineejdlpcgnkaaGreatM.R_C HO6_4.out) (Go.Proofs.YtineejdlpcgnkaaGreatM.R_len HO6_4.out) (Go.Proofs.YtineejdlpcgnkaaGreatM.S_C HO14_0.out) (Go.Proofs.YtineejdlpcgnkaaGreatM.S_len HO14_0.out) (Go.Proofs.YtineejdlpcgnkaaGreatM.R_C HO14_1.out) (Go.Proofs.YtineejdlpcgnkaaGreatM.R_len HO14_1.out) (Go.Proofs.YtineejdlpcgnkaaGreatM.R_C HO14_2.out) (Go.Proofs.YtineejdlpcgnkaaGreatM.R_len HO14_2.out) (Go.Proofs.YtineejdlpcgnkaaGreatM.R_C HO14_3.out) (Go.Proofs.YtineejdlpcgnkaaGreatM.R_len HO14_3.out) (Go.Proofs.YtineejdlpcgnkaaGreatM.R_C HO14_4.out) (Go.Proofs.YtineejdlpcgnkaaGreatM.R_len HO14_4.out) HM12.out
   rw [Go.Proofs.YtineejdlpcgnkaaGreatM.S_n HO6_0.out, Go.Proofs.YtineejdlpcgnkaaGreatM.R_n HO6_1.out, Go.Proofs.YtineejdlpcgnkaaGreatM.R_n HO6_2.out, Go.Proofs.YtineejdlpcgnkaaGreatM.R_n HO6_3.out, Go.Proofs.YtineejdlpcgnkaaGreatM.R_n HO6_4.out, Go.Proofs.YtineejdlpcgnkaaGreatM.S_n HO14_0.out, Go.Proofs.YtineejdlpcgnkaaGreatM.R_n HO14_1.out, Go.Proofs.YtineejdlpcgnkaaGreatM.R_n HO14_2.out, Go.Proofs.YtineejdlpcgnkaaGreatM.R_n HO14_3.out, Go.Proofs.YtineejdlpcgnkaaGreatM.R_n HO14_4.out] at hcall
   refine goes_ Tryz.func11 (by kernel_rfl) rfl #[.agg #[.slice A6_0 n6_0 c6_0, .slice A6_1 n6_1 c6_1, .slice A6_2 n6_2 c6_2, .slice A6_3 n6_3 c6_3, .int .i64 t836, .slice A6_4 n6_4 c6_4], .agg #[.slice A14_0 n14_0 c14_0, .slice A14_1 n14_1 c14_1, .slice A14_2 n14_2 c14_2, .slice A14_3 n14_3 c14_3, .int .i64 t854, .slice A14_4 n14_4 c14_4]] (by rfl) rfl rfl (by (try simp only [List.map_toArray, List.map_cons, List.map_nil]); first | done | rfl) ?_
   refine hcall.mono ?_
   rintro e W15 ⟨rfl, hb⟩
   refine ⟨_, rfl, ?_⟩
   clear hcall
   have Z15 := Aside0.mk hb.size
   have h_ := Kd.S_below HO4_0.out hb
   clear HO4_0
   have HO4_0 := Aside0.mk h_
   clear h_
   have h_ := Kd.R_below HO4_1.out hb
   clear HO4_1
   have HO4_1 := Aside0.mk h_
   clear h_
   have h_ := Kd.R_below HO4_2.out hb
   clear HO4_2
   have HO4_2 := Aside0.mk h_
   clear h_
   have h_ := Kd.R_below HO4_3.out hb
   clear HO4_3
   have HO4_3 := Aside0.mk h_
   clear h_
   have h_ := Kd.R_below HO4_4.out hb
   clear HO4_4
   have HO4_4 := Aside0.mk h_
   clear h_
   have h_ := Kd.S_below HO6_0.out hb
   clear HO6_0
   have HO6_0 := Aside0.mk h_
   clear h_
   have h_ := Kd.R_below HO6_1.out hb
   clear HO6_1
   have HO6_1 := Aside0.mk h_
   clear h_
   have h_ := Kd.R_below HO6_2.out hb
   clear HO6_2
   have HO6_2 := Aside0.mk h_
   clear h_
   have h_ := Kd.R_below HO6_3.out hb
   clear HO6_3
   have HO6_3 := Aside0.mk h_
   clear h_
   have h_ := Kd.R_below HO6_4.out hb
   clear HO6_4
   have HO6_4 := Aside0.mk h_
   clear h_
   have h_ := Kd.S_below HO14_0.out hb
   clear HO14_0
   have HO14_0 := Aside0.mk h_
   clear h_
   have h_ := Kd.R_below HO14_1.out hb
   clear HO14_1
   have HO14_1 := Aside0.mk h_
   clear h_
   have h_ := Kd.R_below HO14_2.out hb
   clear HO14_2
   have HO14_2 := Aside0.mk h_
   clear h_
   have h_ := Kd.R_below HO14_3.out hb
   clear HO14_3
   have HO14_3 := Aside0.mk h_
   clear h_
   have h_ := Kd.R_below HO14_4.out hb
   clear HO14_4
   have HO14_4 := Aside0.mk h_
   clear h_
   have h_ := blk_below BK1.out hb
   clear BK1 c_BK1 z_BK1
   have BK1 := Aside0.mk h_
   have c_BK1 := blk_cell h_
   have z_BK1 := blk_frozen h_
   clear h_
   have h_ := blk_below BK7.out hb
   clear BK7 c_BK7 z_BK7
   have BK7 := Aside0.mk h_
   have c_BK7 := blk_cell h_
   have z_BK7 := blk_frozen h_
   clear h_
   have hB_ := below_step HB.out hb
   clear HB hb
   have HB := Aside0.mk hB_
   clear hB_
   refine hK.out _ _ ⟨(blk_cell BK1.out 0).trans rfl, (blk_cell BK1.out 1).trans rfl, (blk_cell BK1.out 2).trans rfl, (blk_cell BK1.out 3).trans rfl, (blk_cell BK1.out 4).trans rfl, (blk_cell BK1.out 5).trans rfl, (blk_cell BK7.out 0).trans rfl, (blk_cell BK7.out 1).trans rfl, (blk_cell BK7.out 2).trans rfl, (blk_cell BK7.out 3).trans rfl, (blk_cell BK7.out 4).trans rfl, (blk_cell BK7.out 5).trans rfl⟩ (fun hHeld => ?_)
   clear hK K
   refine norm_ (a' := ?_) ?_ ?_
   rotate_left
   ·show Act.put _ (some 25) _ = _
    simp only [Act.put, List.setIfInBounds_toArray, List.set_cons_zero, List.set_cons_succ, i64_w, i32_w]
    rfl
   refine pure_ (i := 4) (N := some 26) (v := ?_) (a' := ?_) #[true, true, true, true, true] rfl rfl (by kernel_rfl) (fun _ _ _ h => h) (Or.inl ⟨by rfl, ?_⟩) ?_ ?_
   rotate_left
   ·intro w'
    go_simp
    with_reducible rfl
   rotate_left
   ·simp only [Act.put, List.setIfInBounds_toArray, List.set_cons_zero, List.set_cons_succ, i64_w, i32_w]
    rfl
   refine done_ (by kernel_rfl) ?_
   clear hHeld
   have H := H'.out
   clear H'
   replace H := ifD H; rcases H with ⟨c16, H⟩ | ⟨c16, H⟩
   ·subst c16
    obtain rfl := Option.some.inj H
    clear H
    go_wp2
    go_ret
    exact ⟨rfl, HB.out⟩
   ·replace c16 : t858 = false := by simpa using c16
    subst c16
    obtain rfl := Option.some.inj H
    clear H
    go_wp2
    go_ret
    exact ⟨rfl, HB.out⟩

section
open Go.Proofs.YtineejdlpcgnkaaGreatO
def g100 (x : S100) : Prop := (Lit.int .i64 x.f0).wf = true ∧ (x.f1.length ≤ maxLen ∧ ∀ y_ ∈ x.f1, (Lit.int .i64 y_).wf = true) ∧ (Lit.int .i64 x.f2).wf = true
theorem opens100 (n : Nat) : Opens Tryz.prog 100 k100 g100 n :=
 opens_imp (opens_iso (fun x : S100 => (x.f0, x.f1, x.f2)) (fun x => (⟨x.1, x.2.1, x.2.2⟩ : S100)) (fun _ => rfl) (opens_struct Tryz.underlying100 (by kernel_rfl) fun m _ => (fields_cons rfl (by kernel_rfl) (opens_int Tryz.underlying3 m) (fields_cons rfl (by kernel_rfl) (opens_slice Tryz.underlying98 (by kernel_rfl) fun m _ => (opens_int Tryz.underlying3 m)) (fields_one rfl (by kernel_rfl) (opens_int Tryz.underlying3 m)))))) (fun _ h => h)
def g177 (x : S177) : Prop := (Lit.int .i64 x.f0).wf = true ∧ (Lit.int .i64 x.f1).wf = true
theorem opens177 (n : Nat) : Opens Tryz.prog 177 k177 g177 n :=
 opens_imp (opens_iso (fun x : S177 => (x.f0, x.f1)) (fun x => (⟨x.1, x.2⟩ : S177)) (fun _ => rfl) (opens_struct Tryz.underlying177 (by kernel_rfl) fun m _ => (fields_cons rfl (by kernel_rfl) (opens_int Tryz.underlying3 m) (fields_one rfl (by kernel_rfl) (opens_int Tryz.underlying3 m))))) (fun _ h => h)
def GF191 (G : S191 → Prop) (x : S191) : Prop := (Lit.int .i64 x.f0).wf = true ∧ (Lit.int .i64 x.f1).wf = true ∧ (Lit.int .i64 x.f2).wf = true ∧ (x.f3.length ≤ maxLen ∧ ∀ y_ ∈ x.f3, G y_)
def g191 (x : S191) : Prop := ∃ k, Nat.rec (motive := fun _ => S191 → Prop) (fun _ => False) (fun _ G => GF191 G) k x
theorem gmono191 {G G' : S191 → Prop} (h : ∀ x, G x → G' x) (x : S191) (hx : GF191 G x) : GF191 G' x := by
 unfold GF191 at hx ⊢
 obtain ⟨h0, h1, h2, h3⟩ := hx
 exact ⟨h0, h1, h2, ⟨h3.1, fun y hy => h y (h3.2 y hy)⟩⟩
theorem opens191 (n : Nat) : Opens Tryz.prog 191 k191 g191 n :=
 opens_fix F191 4 [191] sz191 (Kd.upto_E sub191) GF191 (fun n d G hsz h => opens_imp (opens_iso (fun x : S191 => (x.f0, x.f1, x.f2, x.f3)) (fun x => (⟨x.1, x.2.1, x.2.2.1, x.2.2.2⟩ : S191)) (fun _ => rfl) (opens_struct Tryz.underlying191 (by first | (rw [show (Kd.pair _ _).sz = _ from rfl]; kernel_rfl) | kernel_rfl) fun m hm => have hd : Tryz.prog.cellsOf 191 = d.sz := (by rw [hsz]; kernel_rfl); (fields_cons rfl (by kernel_rfl) (opens_int Tryz.underlying3 m) (fields_cons rfl (by kernel_rfl) (opens_int Tryz.underlying3 m) (fields_cons rfl (by kernel_rfl) (opens_int Tryz.underlying3 m) (fields_one rfl (by kernel_rfl) (opens_slice Tryz.underlying189 hd fun m' hm' => h m' (Nat.lt_trans hm' hm)))))))) (fun _ h => h)) (fun e h => mono191.K _ _ e h) (fun h => gmono191 h) n
def g193 (x : S193) : Prop := (Lit.int .i64 x.f0).wf = true ∧ (Lit.int .i64 x.f1).wf = true ∧ (Lit.int .i64 x.f2).wf = true ∧ g191 x.f3
theorem opens193 (n : Nat) : Opens Tryz.prog 193 k193 g193 n :=
 opens_imp (opens_iso (fun x : S193 => (x.f0, x.f1, x.f2, x.f3)) (fun x => (⟨x.1, x.2.1, x.2.2.1, x.2.2.2⟩ : S193)) (fun _ => rfl) (opens_struct Tryz.underlying193 (by kernel_rfl) fun m _ => (fields_cons rfl (by kernel_rfl) (opens_int Tryz.underlying3 m) (fields_cons rfl (by kernel_rfl) (opens_int Tryz.underlying3 m) (fields_cons rfl (by kernel_rfl) (opens_int Tryz.underlying3 m) (fields_one rfl (by kernel_rfl) (opens191 m))))))) (fun _ h => h)
def g105 (x : S105) : Prop := (Lit.int .i64 x.f0).wf = true ∧ (x.f1.length ≤ maxLen ∧ ∀ y_ ∈ x.f1, g193 y_)
theorem opens105 (n : Nat) : Opens Tryz.prog 105 k105 g105 n :=
 opens_imp (opens_iso (fun x : S105 => (x.f0, x.f1)) (fun x => (⟨x.1, x.2⟩ : S105)) (fun _ => rfl) (opens_struct Tryz.underlying105 (by kernel_rfl) fun m _ => (fields_cons rfl (by kernel_rfl) (opens_int Tryz.underlying3 m) (fields_one rfl (by kernel_rfl) (opens_slice Tryz.underlying103 (by kernel_rfl) fun m _ => (opens193 m)))))) (fun _ h => h)
def g107 (x : S107) : Prop := (Lit.int .i64 x.f0).wf = true ∧ (Lit.int .i64 x.f1).wf = true ∧ (x.f2.length ≤ maxLen ∧ ∀ y_ ∈ x.f2, g177 y_) ∧ g105 x.f3
theorem opens107 (n : Nat) : Opens Tryz.prog 107 k107 g107 n :=
 opens_imp (opens_iso (fun x : S107 => (x.f0, x.f1, x.f2, x.f3)) (fun x => (⟨x.1, x.2.1, x.2.2.1, x.2.2.2⟩ : S107)) (fun _ => rfl) (opens_struct Tryz.underlying107 (by kernel_rfl) fun m _ => (fields_cons rfl (by kernel_rfl) (opens_int Tryz.underlying3 m) (fields_cons rfl (by kernel_rfl) (opens_int Tryz.underlying3 m) (fields_cons rfl (by kernel_rfl) (opens_slice Tryz.underlying102 (by kernel_rfl) fun m _ => (opens177 m)) (fields_one rfl (by kernel_rfl) (opens105 m))))))) (fun _ h => h)
def g49 (x : S49) : Prop := (Lit.int .i64 x.f0).wf = true ∧ (Lit.int .i64 x.f1).wf = true ∧ (Lit.int .i64 x.f2).wf = true ∧ (Lit.int .i64 x.f3).wf = true ∧ (Lit.int .i64 x.f4).wf = true ∧ (Lit.int .i64 x.f5).wf = true
theorem opens49 (n : Nat) : Opens Tryz.prog 49 k49 g49 n :=
 opens_imp (opens_iso (fun x : S49 => (x.f0, x.f1, x.f2, x.f3, x.f4, x.f5)) (fun x => (⟨x.1, x.2.1, x.2.2.1, x.2.2.2.1, x.2.2.2.2.1, x.2.2.2.2.2⟩ : S49)) (fun _ => rfl) (opens_struct Tryz.underlying49 (by kernel_rfl) fun m _ => (fields_cons rfl (by kernel_rfl) (opens_int Tryz.underlying3 m) (fields_cons rfl (by kernel_rfl) (opens_int Tryz.underlying3 m) (fields_cons rfl (by kernel_rfl) (opens_int Tryz.underlying3 m) (fields_cons rfl (by kernel_rfl) (opens_int Tryz.underlying3 m) (fields_cons rfl (by kernel_rfl) (opens_int Tryz.underlying3 m) (fields_one rfl (by kernel_rfl) (opens_int Tryz.underlying3 m))))))))) (fun _ h => h)
def g125 (x : S125) : Prop := (Lit.int .i64 x.f0).wf = true ∧ (Lit.int .i64 x.f1).wf = true
theorem opens125 (n : Nat) : Opens Tryz.prog 125 k125 g125 n :=
 opens_imp (opens_iso (fun x : S125 => (x.f0, x.f1)) (fun x => (⟨x.1, x.2⟩ : S125)) (fun _ => rfl) (opens_struct Tryz.underlying125 (by kernel_rfl) fun m _ => (fields_cons rfl (by kernel_rfl) (opens_int Tryz.underlying3 m) (fields_one rfl (by kernel_rfl) (opens_int Tryz.underlying3 m))))) (fun _ h => h)
def g127 (x : S127) : Prop := (Lit.int .i64 x.f0).wf = true ∧ (Lit.int .i64 x.f1).wf = true ∧ (Lit.int .i64 x.f2).wf = true ∧ (Lit.int .i64 x.f3).wf = true ∧ (Lit.int .i64 x.f4).wf = true ∧ (Lit.int .i64 x.f5).wf = true
theorem opens127 (n : Nat) : Opens Tryz.prog 127 k127 g127 n :=
 opens_imp (opens_iso (fun x : S127 => (x.f0, x.f1, x.f2, x.f3, x.f4, x.f5)) (fun x => (⟨x.1, x.2.1, x.2.2.1, x.2.2.2.1, x.2.2.2.2.1, x.2.2.2.2.2⟩ : S127)) (fun _ => rfl) (opens_struct Tryz.underlying127 (by kernel_rfl) fun m _ => (fields_cons rfl (by kernel_rfl) (opens_int Tryz.underlying3 m) (fields_cons rfl (by kernel_rfl) (opens_int Tryz.underlying3 m) (fields_cons rfl (by kernel_rfl) (opens_int Tryz.underlying3 m) (fields_cons rfl (by kernel_rfl) (opens_int Tryz.underlying3 m) (fields_cons rfl (by kernel_rfl) (opens_int Tryz.underlying3 m) (fields_one rfl (by kernel_rfl) (opens_int Tryz.underlying3 m))))))))) (fun _ h => h)
def g28 (x : S28) : Prop := (x.f0.length ≤ maxLen ∧ ∀ y_ ∈ x.f0, g100 y_) ∧ (x.f1.length ≤ maxLen ∧ ∀ y_ ∈ x.f1, g107 y_) ∧ (x.f2.length ≤ maxLen ∧ ∀ y_ ∈ x.f2, g49 y_) ∧ (x.f3.length ≤ maxLen ∧ ∀ y_ ∈ x.f3, g125 y_) ∧ (Lit.int .i64 x.f4).wf = true ∧ (x.f5.length ≤ maxLen ∧ ∀ y_ ∈ x.f5, g127 y_)
theorem opens28 (n : Nat) : Opens Tryz.prog 28 k28 g28 n :=
 opens_imp (opens_iso (fun x : S28 => (x.f0, x.f1, x.f2, x.f3, x.f4, x.f5)) (fun x => (⟨x.1, x.2.1, x.2.2.1, x.2.2.2.1, x.2.2.2.2.1, x.2.2.2.2.2⟩ : S28)) (fun _ => rfl) (opens_struct Tryz.underlying28 (by kernel_rfl) fun m _ => (fields_cons rfl (by kernel_rfl) (opens_slice Tryz.underlying22 (by kernel_rfl) fun m _ => (opens100 m)) (fields_cons rfl (by kernel_rfl) (opens_slice Tryz.underlying23 (by kernel_rfl) fun m _ => (opens107 m)) (fields_cons rfl (by kernel_rfl) (opens_slice Tryz.underlying24 (by kernel_rfl) fun m _ => (opens49 m)) (fields_cons rfl (by kernel_rfl) (opens_slice Tryz.underlying25 (by kernel_rfl) fun m _ => (opens125 m)) (fields_cons rfl (by kernel_rfl) (opens_int Tryz.underlying3 m) (fields_one rfl (by kernel_rfl) (opens_slice Tryz.underlying26 (by kernel_rfl) fun m _ => (opens127 m)))))))))) (fun _ h => h)
end
/-- What is left to show of laws_FnExactIsCenter: over numbers and lists alone. -/
def laws_FnExactIsCenter.Pure : Prop := ∀ (x0 : S28), g28 x0 → ∃ k, laws_FnExactIsCenter.f k x0.f0 x0.f1 x0.f2 x0.f3 x0.f4 x0.f5 = some true

end Go.Proofs.YtineejdlpcgnkaaGreat.QFnExactIsCenter
