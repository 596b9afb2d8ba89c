/- The machine side of FnExactSaveDecision: what each function that it reaches computes, and that the machine's call gives just that. -/
import Derived.Test.YtmgfklmhelabcaaGreatQFnExactSaveDecisionx0
import Derived.Test.YtmgfklmhelabcaaGreatQFnExactSaveDecisionx10
import Derived.Test.YtmgfklmhelabcaaGreatQFnExactSaveDecisionx13
namespace Go.Proofs.YtmgfklmhelabcaaGreat.QFnExactSaveDecision
open Go.RowKit Go.Proofs.YtmgfklmhelabcaaGreatW.PrintWords Go.Proofs.YtmgfklmhelabcaaGreatW.PrintLast Go.Proofs.YtmgfklmhelabcaaGreatW.PrintMore
attribute [local go_sem] max2_int min2_int max_two min_two max_three min_three max_four min_four
set_option maxHeartbeats 8000000
set_option maxRecDepth 100000
open Go.Proofs.YtmgfklmhelabcaaGreatM
set_option linter.unusedVariables false
set_option linter.unusedSimpArgs false
def impl_isClaim.f (a0_0 : Int) (a0_1 : Int) (a0_2 : Int) (a0_3 : Int) (a0_4 : Int) (a0_5 : Int) : Option (Bool) := if a0_0 = 1 then ((impl_HasKind.f a0_1 1).bind fun t552 => (if t552 = true then ((impl_InRange.f a0_2 0 5).bind fun t553 => (some t553)) else (some false))) else (if a0_0 = 2 then ((impl_HasKind.f a0_1 1).bind fun t554 => (if t554 = true then ((impl_HasKind.f a0_2 2).bind fun t555 => (some t555)) else (some false))) else (if a0_0 = 3 then ((impl_HasKind.f a0_1 2).bind fun t556 => (if t556 = true then ((impl_InRange.f a0_2 0 3).bind fun t557 => (some t557)) else (some false))) else (if a0_0 = 4 then ((impl_HasKind.f a0_1 3).bind fun t558 => (if t558 = true then ((impl_InRange.f a0_2 0 3).bind fun t559 => (some t559)) else (some false))) else (some false))))
theorem impl_isClaim.calls (a0_0 : Int) (a0_1 : Int) (a0_2 : Int) (a0_3 : Int) (a0_4 : Int) (a0_5 : Int) (r : Bool) (w : World) (h : impl_isClaim.f a0_0 a0_1 a0_2 a0_3 a0_4 a0_5 = some r) :
  Calls Tryz.prog 341 #[.agg #[.int .i64 a0_0, .int .i64 a0_1, .int .i64 a0_2, .int .i64 a0_3, .int .i64 a0_4, .int .i64 a0_5]] w fun e w' => e = .returned (.bool r) ∧ Below w.heap.size w w' := by
 have HB := Aside0.mk (Below.refl w.heap.size w)
 have H := h
 clear h
 unfold impl_isClaim.f at H
 have hu136 := Tryz.underlying136
 go_enter Tryz.func341, Tryz.ntmps341
 replace H := Aside0.mk H
 go_upto_region 1 with (first | ((with_reducible refine gate_dst (N := 1) rfl ?_); refine box_event ?hg (N := 1) ?hd (cs := #[.int .i64 a0_0, .int .i64 a0_1, .int .i64 a0_2, .int .i64 a0_3, .int .i64 a0_4, .int .i64 a0_5]) (t := 136) ?hr ?_; (case hd => rfl); (case hg => rfl); (case hr => first | (go_simp; done) | (go_simp; rfl)); intro gb1 hg W1 hbox hb; replace HB := bH HB hb; clear hb; have BK1 := Aside0.mk hbox; have c_BK1 := blk_cell hbox; have z_BK1 := blk_frozen hbox; clear hg hbox))
 replace H := ifD H.out; rcases H with ⟨c2, H⟩ | ⟨c2, H⟩
 ·obtain ⟨c2_0, c2_1, c2_2⟩ := d3T c2
  clear c2
  (first | rw [c2_1] | rw [c2_2] | skip)
  replace H := obs H
  obtain ⟨t552, hm, H⟩ := H
  (try dsimp only at H)
  replace H := Aside0.mk H
  have hcall := impl_HasKind.calls _ _ _ W1  hm
  clear hm
  (go_wp2_with fail)
  refine hcall.mono ?_
  rintro e W3 ⟨rfl, hb⟩
  clear hcall
  replace BK1 := bK BK1 hb; replace c_BK1 := bcl BK1; replace z_BK1 := bfr BK1
  replace HB := bH HB hb; clear hb
  replace H := ifD H.out; rcases H with ⟨c4, H⟩ | ⟨c4, H⟩
  rotate_left
  ·replace c4 := nT c4; subst c4; cases H; go_wp2; go_ret; exact ⟨rfl, HB.out⟩
  subst c4
  replace H := obs H
  obtain ⟨t553, hm, H⟩ := H
  (try dsimp only at H)
  replace H := Aside0.mk H
  have hcall := impl_InRange.calls _ _ _ _ W3  hm
  clear hm
  (go_wp2_with fail)
  refine hcall.mono ?_
  rintro e W5 ⟨rfl, hb⟩
  clear hcall
  replace BK1 := bK BK1 hb; replace c_BK1 := bcl BK1; replace z_BK1 := bfr BK1
  replace HB := bH HB hb; clear hb
  replace H := H.out
  cases H
  go_wp2
  go_ret
  exact ⟨rfl, HB.out⟩
 obtain ⟨c2_0, c2_1, c2_2⟩ := d3F c2
 clear c2
 (first | rw [c2_1] | rw [c2_2] | skip)
 replace H := ifD H; rcases H with ⟨c6, H⟩ | ⟨c6, H⟩
 ·obtain ⟨c6_0, c6_1, c6_2⟩ := d3T c6
  clear c6
  (first | rw [c6_1] | rw [c6_2] | skip)
  replace H := obs H
  obtain ⟨t554, hm, H⟩ := H
  (try dsimp only at H)
  replace H := Aside0.mk H
  have hcall := impl_HasKind.calls _ _ _ W1  hm
  clear hm
  (go_wp2_with fail)
  refine hcall.mono ?_
  rintro e W7 ⟨rfl, hb⟩
  clear hcall
  replace BK1 := bK BK1 hb; replace c_BK1 := bcl BK1; replace z_BK1 := bfr BK1
  replace HB := bH HB hb; clear hb
  replace H := ifD H.out; rcases H with ⟨c8, H⟩ | ⟨c8, H⟩
  rotate_left
  ·replace c8 := nT c8; subst c8; cases H; go_wp2; go_ret; exact ⟨rfl, HB.out⟩
  subst c8
  replace H := obs H
  obtain ⟨t555, hm, H⟩ := H
  (try dsimp only at H)
  replace H := Aside0.mk H
  have hcall := impl_HasKind.calls _ _ _ W7  hm
  clear hm
  (go_wp2_with fail)
  refine hcall.mono ?_
  rintro e W9 ⟨rfl, hb⟩
  clear hcall
  replace BK1 := bK BK1 hb; replace c_BK1 := bcl BK1; replace z_BK1 := bfr BK1
  replace HB := bH HB hb; clear hb
  replace H := H.out
  cases H
  go_wp2
  go_ret
  exact ⟨rfl, HB.out⟩
 obtain ⟨c6_0, c6_1, c6_2⟩ := d3F c6
 clear c6
 (first | rw [c6_1] | rw [c6_2] | skip)
 replace H := ifD H; rcases H with ⟨c10, H⟩ | ⟨c10, H⟩
 ·obtain ⟨c10_0, c10_1, c10_2⟩ := d3T c10
  clear c10
  (first | rw [c10_1] | rw [c10_2] | skip)
  replace H := obs H
  obtain ⟨t556, hm, H⟩ := H
  (try dsimp only at H)
  replace H := Aside0.mk H
  have hcall := impl_HasKind.calls _ _ _ W1  hm
  clear hm
  (go_wp2_with fail)
  refine hcall.mono ?_
  rintro e W11 ⟨rfl, hb⟩
  clear hcall
  replace BK1 := bK BK1 hb; replace c_BK1 := bcl BK1; replace z_BK1 := bfr BK1
  replace HB := bH HB hb; clear hb
  replace H := ifD H.out; rcases H with ⟨c12, H⟩ | ⟨c12, H⟩
  rotate_left
  ·replace c12 := nT c12; subst c12; cases H; go_wp2; go_ret; exact ⟨rfl, HB.out⟩
  subst c12
  replace H := obs H
  obtain ⟨t557, hm, H⟩ := H
  (try dsimp only at H)
  replace H := Aside0.mk H
  have hcall := impl_InRange.calls _ _ _ _ W11  hm
  clear hm
  (go_wp2_with fail)
  refine hcall.mono ?_
  rintro e W13 ⟨rfl, hb⟩
  clear hcall
  replace BK1 := bK BK1 hb; replace c_BK1 := bcl BK1; replace z_BK1 := bfr BK1
  replace HB := bH HB hb; clear hb
  replace H := H.out
  cases H
  go_wp2
  go_ret
  exact ⟨rfl, HB.out⟩
 obtain ⟨c10_0, c10_1, c10_2⟩ := d3F c10
 clear c10
 (first | rw [c10_1] | rw [c10_2] | skip)
 replace H := ifD H; rcases H with ⟨c14, H⟩ | ⟨c14, H⟩
 rotate_left
 ·obtain ⟨c14_0, c14_1, c14_2⟩ := d3F c14
  clear c14
  (first | rw [c14_1] | rw [c14_2] | skip)
  cases H
  go_wp2
  go_ret
  exact ⟨rfl, HB.out⟩
 obtain ⟨c14_0, c14_1, c14_2⟩ := d3T c14
 clear c14
 (first | rw [c14_1] | rw [c14_2] | skip)
 replace H := obs H
 obtain ⟨t558, hm, H⟩ := H
 (try dsimp only at H)
 replace H := Aside0.mk H
 have hcall := impl_HasKind.calls _ _ _ W1  hm
 clear hm
 (go_wp2_with fail)
 refine hcall.mono ?_
 rintro e W15 ⟨rfl, hb⟩
 clear hcall
 replace BK1 := bK BK1 hb; replace c_BK1 := bcl BK1; replace z_BK1 := bfr BK1
 replace HB := bH HB hb; clear hb
 replace H := ifD H.out; rcases H with ⟨c16, H⟩ | ⟨c16, H⟩
 rotate_left
 ·replace c16 := nT c16
  subst c16
  cases H
  go_wp2
  go_ret
  exact ⟨rfl, HB.out⟩
 subst c16
 replace H := obs H
 obtain ⟨t559, hm, H⟩ := H
 (try dsimp only at H)
 replace H := Aside0.mk H
 have hcall := impl_InRange.calls _ _ _ _ W15  hm
 clear hm
 (go_wp2_with fail)
 refine hcall.mono ?_
 rintro e W17 ⟨rfl, hb⟩
 clear hcall
 replace BK1 := bK BK1 hb; replace c_BK1 := bcl BK1; replace z_BK1 := bfr BK1
 replace HB := bH HB hb; clear hb
 replace H := H.out
 cases H
 go_wp2
 go_ret
 exact ⟨rfl, HB.out⟩
def impl_IsFact.f (a0_0 : Int) (a0_1 : Int) (a0_2 : Int) (a0_3 : Int) (a0_4 : Int) (a0_5 : Int) : Option (Bool) := (impl_isClaim.f a0_0 a0_1 a0_2 a0_3 a0_4 a0_5).bind fun t561 => (if t561 = true then ((impl_InRange.f a0_3 0 9).bind fun t562 => (if t562 = true then ((impl_IsTime.f a0_4).bind fun t563 => (if t563 = true then ((impl_IsTime.f a0_5).bind fun t564 => (if t564 = true then (some (decide (a0_4 ≤ a0_5))) else (some false))) else (some false))) else (some false))) else (some false))
theorem impl_IsFact.calls (a0_0 : Int) (a0_1 : Int) (a0_2 : Int) (a0_3 : Int) (a0_4 : Int) (a0_5 : Int) (r : Bool) (w : World) (h : impl_IsFact.f a0_0 a0_1 a0_2 a0_3 a0_4 a0_5 = some r) :
  Calls Tryz.prog 264 #[.agg #[.int .i64 a0_0, .int .i64 a0_1, .int .i64 a0_2, .int .i64 a0_3, .int .i64 a0_4, .int .i64 a0_5]] w fun e w' => e = .returned (.bool r) ∧ Below w.heap.size w w' := by
 have HB := Aside0.mk (Below.refl w.heap.size w)
 have H := h
 clear h
 unfold impl_IsFact.f at H
 have hu136 := Tryz.underlying136
 go_enter Tryz.func264, Tryz.ntmps264
 replace H := Aside0.mk H
 go_upto_region 1 with (first | ((with_reducible refine gate_dst (N := 1) rfl ?_); refine box_event ?hg (N := 1) ?hd (cs := #[.int .i64 a0_0, .int .i64 a0_1, .int .i64 a0_2, .int .i64 a0_3, .int .i64 a0_4, .int .i64 a0_5]) (t := 136) ?hr ?_; (case hd => rfl); (case hg => rfl); (case hr => first | (go_simp; done) | (go_simp; rfl)); intro gb1 hg W1 hbox hb; replace HB := bH HB hb; clear hb; have BK1 := Aside0.mk hbox; have c_BK1 := blk_cell hbox; have z_BK1 := blk_frozen hbox; clear hg hbox))
 replace H := H.out
 replace H := obs H
 obtain ⟨t561, hm, H⟩ := H
 (try dsimp only at H)
 replace H := Aside0.mk H
 have hcall := impl_isClaim.calls _ _ _ _ _ _ _ W1  hm
 clear hm
 (go_wp2_with fail)
 refine hcall.mono ?_
 rintro e W2 ⟨rfl, hb⟩
 clear hcall
 replace BK1 := bK BK1 hb; replace c_BK1 := bcl BK1; replace z_BK1 := bfr BK1
 replace HB := bH HB hb; clear hb
 replace H := ifD H.out; rcases H with ⟨c3, H⟩ | ⟨c3, H⟩
 rotate_left
 ·replace c3 := nT c3
  subst c3
  cases H
  go_wp2
  go_ret
  exact ⟨rfl, HB.out⟩
 subst c3
 replace H := obs H
 obtain ⟨t562, hm, H⟩ := H
 (try dsimp only at H)
 replace H := Aside0.mk H
 have hcall := impl_InRange.calls _ _ _ _ W2  hm
 clear hm
 (go_wp2_with fail)
 refine hcall.mono ?_
 rintro e W4 ⟨rfl, hb⟩
 clear hcall
 replace BK1 := bK BK1 hb; replace c_BK1 := bcl BK1; replace z_BK1 := bfr BK1
 replace HB := bH HB hb; clear hb
 replace H := ifD H.out; rcases H with ⟨c5, H⟩ | ⟨c5, H⟩
 rotate_left
 ·replace c5 := nT c5
  subst c5
  cases H
  go_wp2
  go_ret
  exact ⟨rfl, HB.out⟩
 subst c5
 replace H := obs H
 obtain ⟨t563, hm, H⟩ := H
 (try dsimp only at H)
 replace H := Aside0.mk H
 have hcall := impl_IsTime.calls _ _ W4  hm
 clear hm
 (go_wp2_with fail)
 refine hcall.mono ?_
 rintro e W6 ⟨rfl, hb⟩
 clear hcall
 replace BK1 := bK BK1 hb; replace c_BK1 := bcl BK1; replace z_BK1 := bfr BK1
 replace HB := bH HB hb; clear hb
 replace H := ifD H.out; rcases H with ⟨c7, H⟩ | ⟨c7, H⟩
 rotate_left
 ·replace c7 := nT c7
  subst c7
  cases H
  go_wp2
  go_ret
  exact ⟨rfl, HB.out⟩
 subst c7
 replace H := obs H
 obtain ⟨t564, hm, H⟩ := H
 (try dsimp only at H)
 replace H := Aside0.mk H
 have hcall := impl_IsTime.calls _ _ W6  hm
 clear hm
 (go_wp2_with fail)
 refine hcall.mono ?_
 rintro e W8 ⟨rfl, hb⟩
 clear hcall
 replace BK1 := bK BK1 hb; replace c_BK1 := bcl BK1; replace z_BK1 := bfr BK1
 replace HB := bH HB hb; clear hb
 replace H := ifD H.out; rcases H with ⟨c9, H⟩ | ⟨c9, H⟩
 ·subst c9
  cases H
  go_wp2
  go_ret
  exact ⟨rfl, HB.out⟩
 replace c9 := nT c9
 subst c9
 cases H
 go_wp2
 go_ret
 exact ⟨rfl, HB.out⟩
def impl_AgeOf.f (a0 : Int) (a1 : Int) : Option (Int) := (impl_IsTime.f a0).bind fun t565 => (if t565 = true then ((impl_IsTime.f a1).bind fun t566 => (if t566 = true then (if a0 > a1 then (some (-1)) else (some (wrap64 (a1 - a0)))) else (some (-1)))) else (some (-1)))
theorem impl_AgeOf.calls (a0 : Int) (a1 : Int) (r : Int) (w : World) (h : impl_AgeOf.f a0 a1 = some r) :
  Calls Tryz.prog 277 #[.int .i64 a0, .int .i64 a1] w fun e w' => e = .returned (.int .i64 r) ∧ Below w.heap.size w w' := by
 have HB := Aside0.mk (Below.refl w.heap.size w)
 have H := h
 clear h
 unfold impl_AgeOf.f at H
 go_enter Tryz.func277, Tryz.ntmps277
 replace H := obs H
 obtain ⟨t565, hm, H⟩ := H
 (try dsimp only at H)
 replace H := Aside0.mk H
 have hcall := impl_IsTime.calls _ _ w  hm
 clear hm
 (go_wp2_with fail)
 refine hcall.mono ?_
 rintro e W1 ⟨rfl, hb⟩
 clear hcall
 replace HB := bH HB hb; clear hb
 replace H := ifD H.out; rcases H with ⟨c2, H⟩ | ⟨c2, H⟩
 rotate_left
 ·replace c2 := nT c2
  subst c2
  cases H
  go_wp2
  go_ret
  exact ⟨rfl, HB.out⟩
 subst c2
 replace H := obs H
 obtain ⟨t566, hm, H⟩ := H
 (try dsimp only at H)
 replace H := Aside0.mk H
 have hcall := impl_IsTime.calls _ _ W1  hm
 clear hm
 (go_wp2_with fail)
 refine hcall.mono ?_
 rintro e W3 ⟨rfl, hb⟩
 clear hcall
 replace HB := bH HB hb; clear hb
 replace H := ifD H.out; rcases H with ⟨c4, H⟩ | ⟨c4, H⟩
 rotate_left
 ·replace c4 := nT c4
  subst c4
  cases H
  go_wp2
  go_ret
  exact ⟨rfl, HB.out⟩
 subst c4
 replace H := ifD H; rcases H with ⟨c5, H⟩ | ⟨c5, H⟩
 ·replace c5 : a1 < a0 := c5
  have c5_0 := decT c5
  replace c5 := Aside0.mk c5
  (try rw [c5_0])
  cases H
  go_wp2
  go_ret
  exact ⟨rfl, HB.out⟩
 replace c5 : ¬ (a1 < a0) := c5
 have c5_0 := decF c5
 replace c5 := Aside0.mk c5
 (try rw [c5_0])
 cases H
 go_wp2
 go_ret
 exact ⟨rfl, HB.out⟩
def impl_HoldsAt.f (a0_0 : Int) (a0_1 : Int) (a0_2 : Int) (a0_3 : Int) (a0_4 : Int) (a0_5 : Int) (a1 : Int) (a2 : Int) : Option (Bool) := (impl_IsFact.f a0_0 a0_1 a0_2 a0_3 a0_4 a0_5).bind fun t568 => (if t568 = true then ((impl_IsWithin.f a0_4 a0_5 a1).bind fun t569 => (if t569 = true then ((impl_AgeOf.f a0_4 a1).bind fun t570 => (some (decide (t570 ≤ a2)))) else (some false))) else (some false))
theorem impl_HoldsAt.calls (a0_0 : Int) (a0_1 : Int) (a0_2 : Int) (a0_3 : Int) (a0_4 : Int) (a0_5 : Int) (a1 : Int) (a2 : Int) (r : Bool) (w : World) (h : impl_HoldsAt.f a0_0 a0_1 a0_2 a0_3 a0_4 a0_5 a1 a2 = some r) :
  Calls Tryz.prog 392 #[.agg #[.int .i64 a0_0, .int .i64 a0_1, .int .i64 a0_2, .int .i64 a0_3, .int .i64 a0_4, .int .i64 a0_5], .int .i64 a1, .int .i64 a2] w fun e w' => e = .returned (.bool r) ∧ Below w.heap.size w w' := by
 have HB := Aside0.mk (Below.refl w.heap.size w)
 have H := h
 clear h
 unfold impl_HoldsAt.f at H
 have hu136 := Tryz.underlying136
 go_enter Tryz.func392, Tryz.ntmps392
 replace H := Aside0.mk H
 go_upto_region 1 with (first | ((with_reducible refine gate_dst (N := 3) rfl ?_); refine box_event ?hg (N := 3) ?hd (cs := #[.int .i64 a0_0, .int .i64 a0_1, .int .i64 a0_2, .int .i64 a0_3, .int .i64 a0_4, .int .i64 a0_5]) (t := 136) ?hr ?_; (case hd => rfl); (case hg => rfl); (case hr => first | (go_simp; done) | (go_simp; rfl)); intro gb1 hg W1 hbox hb; replace HB := bH HB hb; clear hb; have BK1 := Aside0.mk hbox; have c_BK1 := blk_cell hbox; have z_BK1 := blk_frozen hbox; clear hg hbox))
 replace H := H.out
 replace H := obs H
 obtain ⟨t568, hm, H⟩ := H
 (try dsimp only at H)
 replace H := Aside0.mk H
 have hcall := impl_IsFact.calls _ _ _ _ _ _ _ W1  hm
 clear hm
 (go_wp2_with fail)
 refine hcall.mono ?_
 rintro e W2 ⟨rfl, hb⟩
 clear hcall
 replace BK1 := bK BK1 hb; replace c_BK1 := bcl BK1; replace z_BK1 := bfr BK1
 replace HB := bH HB hb; clear hb
 replace H := ifD H.out; rcases H with ⟨c3, H⟩ | ⟨c3, H⟩
 rotate_left
 ·replace c3 := nT c3
  subst c3
  cases H
  go_wp2
  go_ret
  exact ⟨rfl, HB.out⟩
 subst c3
 replace H := obs H
 obtain ⟨t569, hm, H⟩ := H
 (try dsimp only at H)
 replace H := Aside0.mk H
 have hcall := impl_IsWithin.calls _ _ _ _ W2  hm
 clear hm
 (go_wp2_with fail)
 refine hcall.mono ?_
 rintro e W4 ⟨rfl, hb⟩
 clear hcall
 replace BK1 := bK BK1 hb; replace c_BK1 := bcl BK1; replace z_BK1 := bfr BK1
 replace HB := bH HB hb; clear hb
 replace H := ifD H.out; rcases H with ⟨c5, H⟩ | ⟨c5, H⟩
 rotate_left
 ·replace c5 := nT c5
  subst c5
  cases H
  go_wp2
  go_ret
  exact ⟨rfl, HB.out⟩
 subst c5
 replace H := obs H
 obtain ⟨t570, hm, H⟩ := H
 (try dsimp only at H)
 replace H := Aside0.mk H
 have hcall := impl_AgeOf.calls _ _ _ W4  hm
 clear hm
 (go_wp2_with fail)
 refine hcall.mono ?_
 rintro e W6 ⟨rfl, hb⟩
 clear hcall
 replace BK1 := bK BK1 hb; replace c_BK1 := bcl BK1; replace z_BK1 := bfr BK1
 replace HB := bH HB hb; clear hb
 replace H := H.out
 cases H
 go_wp2
 go_ret
 exact ⟨rfl, HB.out⟩
def impl_isRole.f (a0 : Int) : Option (Bool) := (impl_InRange.f a0 0 5).bind fun t571 => (some t571)
def roleB (n : Int) : Bool := decide (0 ≤ n) && decide (n ≤ 5)
def mkR (m : List Bool) (r : Int) : Bool := m.getD r.toNat false
def visX (a : Int) (s : List Bool × List Int) (x : S154) : List Bool × List Int := if x.f0 = a ∧ roleB x.f1 = true ∧ mkR s.1 x.f1 = false then (s.1.set x.f1.toNat true, s.2 ++ [x.f1]) else s
def popX (l : List S154) (a : Int) (s : List Bool × List Int) : List Bool × List Int := l.foldl (visX a) s
def bfsX (l : List S154) : Nat → List Int → List Bool → Option (List Bool)
 | 0, _, _ => none
 | _ + 1, [], m => some m
 | k + 1, a :: rest, m => bfsX l k (popX l a (m, rest)).2 (popX l a (m, rest)).1
def cntB (m : List Bool) : Nat := m.countP id
theorem roleB_iff {n : Int} : roleB n = true ↔ 0 ≤ n ∧ n ≤ 5 := by simp [roleB]
theorem cnt_le (m : List Bool) : cntB m ≤ m.length := List.countP_le_length
theorem cnt_set_lt {m : List Bool} {r : Int} (hm : m.length = 6) (hr : roleB r = true) (h : mkR m r = false) : cntB (m.set r.toNat true) = cntB m + 1 := by
 rw [roleB_iff] at hr
 have hlt : r.toNat < m.length := by omega
 have hb : m[r.toNat] = false := by
  unfold mkR at h; rw [List.getD_eq_getElem?_getD, List.getElem?_eq_getElem hlt] at h; exact h
 have key : ∀ (m : List Bool) (i : Nat), m[i]? = some false → cntB (m.set i true) = cntB m + 1 := by
  intro m
  induction m with
  | nil => intro i h; simp at h
  | cons b m ih =>
   intro i h; cases i with
   | zero => simp at h; subst h; simp [cntB]
   | succ i =>
    have := ih i (by simpa using h); simp only [List.set_cons_succ, cntB, List.countP_cons] at this ⊢; omega
 exact key m _ (by rw [List.getElem?_eq_getElem hlt, hb])
theorem mkR_cell (m : List Bool) (r : Int) (hm : m.length = 6) (hr : roleB r = true) : (m.map Value.bool).toArray[r.toNat]? = some (.bool (mkR m r)) := by
 rw [roleB_iff] at hr
 unfold mkR
 rw [List.getElem?_toArray, List.getElem?_map, List.getD_eq_getElem?_getD, List.getElem?_eq_getElem (show r.toNat < m.length by omega)]
 rfl
theorem set_cells (m : List Bool) (i : Nat) : (m.map Value.bool).toArray.setIfInBounds i (.bool true) = ((m.set i true).map Value.bool).toArray := by
 rw [List.setIfInBounds_toArray, List.map_set]
theorem inr_same (a b c : Int) (w : World) : Calls Tryz.prog 98 #[.int .i64 a, .int .i64 b, .int .i64 c] w fun e w' => e = .returned (.bool (decide (b ≤ a) && decide (a ≤ c))) ∧ w = w' := by
 by_cases c1 : b ≤ a
 rotate_left
 ·have c1_0 := decF c1
  rw [c1_0, Bool.false_and]
  clear c1
  go_enter Tryz.func98, Tryz.ntmps98
  go_wp2
  go_ret
  exact ⟨rfl, rfl⟩
 have c1_0 := decT c1
 by_cases c2 : a ≤ c
 ·have c2_0 := decT c2
  rw [c1_0, c2_0]
  clear c1 c2
  go_enter Tryz.func98, Tryz.ntmps98
  go_wp2
  go_ret
  exact ⟨rfl, rfl⟩
 have c2_0 := decF c2
 rw [c1_0, c2_0]
 clear c1 c2
 go_enter Tryz.func98, Tryz.ntmps98
 go_wp2
 go_ret
 exact ⟨rfl, rfl⟩
theorem role_same (a : Int) (w : World) : Calls Tryz.prog 339 #[.int .i64 a] w fun e w' => e = .returned (.bool (roleB a)) ∧ w = w' := by
 go_enter Tryz.func339, Tryz.ntmps339
 go_wp2_with (go_at_call 98; refine (inr_same _ _ _ _).mono ?_; rintro e w' ⟨rfl, rfl⟩)
 go_ret
 exact ⟨rfl, rfl⟩
theorem below.calls (k : Nat) (A0 : Option Addr) (c0 : Nat) (l0 : List S154) (a1 : Int) (r : List Bool) (w : World) (hr0 : Kd.C k154 w A0 l0.length l0) (hc0 : l0.length ≤ c0) (h : bfsX l0 k [a1] (List.replicate 6 false) = some r) :
  Calls Tryz.prog 340 #[.slice A0 l0.length c0, .int .i64 a1] w fun e w' => e = .returned (.agg (r.map Value.bool).toArray) ∧ Below w.heap.size w w' := by
 have HR0 := Aside0.mk hr0
 have HC0 := Aside0.mk hc0
 have H := Aside0.mk h
 clear hr0 hc0 h
 have HB := Aside0.mk (Below.refl w.heap.size w)
 have hu1_ := Tryz.underlying154
 have hu2_ := Tryz.underlying317
 go_enter Tryz.func340, Tryz.ntmps340
 go_wp2_with ((with_reducible refine gate_dst (N := 12) rfl ?_); refine Kd.R_lit (Kd.int .i64) _ 3 ?hg (N := 12) ?hd (xs := ([a1] : List Int)) (inner := [.int .i64 a1]) (ok := fun _ => True) (okp := fun _ => True) ?hr ?hp (fun _ hk => hk) trivial (Below.refl _ _) (Nat.le_refl _) (by simp) ?_; (case hd => rfl); (case hg => rfl); (case hr => first | (go_simp; done) | (go_simp; rfl)); (case hp => exact (Reps.one (show Kd.M (Kd.int .i64) _ _ _ a1 [.int .i64 a1] from rfl) (Reps.none _ _))); intro v6 W6 ho6 hb6 hg_ hnew_; clear hg_ hnew_)
 have hz4 : W6.heap[w.heap.size]? = some (.cells #[.bool false, .bool false, .bool false, .bool false, .bool false, .bool false] 317 (0, 0)) := blk_below (blk_alloc (heap_alloc_new w _) _) hb6
 have hz5 : W6.heap[w.heap.size + 1]? = some (.cells #[.bool false, .bool false, .bool false, .bool false, .bool false, .bool false] 317 (0, 0)) := blk_below (by have h_ := heap_alloc_new (w.alloc (.cells #[.bool false, .bool false, .bool false, .bool false, .bool false, .bool false] 317)) (.cells #[.bool false, .bool false, .bool false, .bool false, .bool false, .bool false] 317 : Obj); simpa using h_) hb6
 have HOa := Aside0.mk (Kd.R_lower ho6 (show w.heap.size ≤ _ by simp; omega))
 have HBa := Aside0.mk (below_step (below_alloc (below_alloc HB.out _) _) hb6)
 clear ho6 hb6 HB; have B4 := Aside0.mk hz4; have B5 := Aside0.mk hz5; clear hz4 hz5
 go_loopg [6] k (fun kq v6 w' => ∃ (todo : List Int) (m : List Bool), Aside0 (bfsX l0 kq todo m = some r) ∧ Aside0 (kq ≤ k) ∧ Aside0 (m.length = 6) ∧ Aside0 (todo.length + (6 - cntB m) ≤ 7) ∧ Aside0 (Kd.Q (Kd.int .i64) 3 w' w.heap.size (fun _ => True) v6 todo) ∧ Aside0 (w'.heap[w.heap.size + 1]? = some (.cells (m.map Value.bool).toArray 317 (0, 0))) ∧ Aside0 (w'.heap[w.heap.size]? = some (.cells #[.bool false, .bool false, .bool false, .bool false, .bool false, .bool false] 317 (0, 0))) ∧ Aside0 (Below w.heap.size w w'))
 case atStart => exact ⟨[a1], List.replicate 6 false, H, ⟨Nat.le_refl _⟩, ⟨rfl⟩, ⟨by simp only [List.length_singleton]; omega⟩, ⟨Kd.Q_of_R HOa.out⟩, B5, B4, HBa⟩
 case round =>
  clear H HOa HBa B4 B5
  obtain ⟨todo, m, HA, HK1, HM, HL, HO, B5, B4, HB⟩ := hrel
  cases gk with
  | zero => exact absurd HA.out (by simp [bfsX])
  | succ k1 =>
   cases todo with
   | nil =>
    have H := HA.out; obtain ⟨A_, c_, he_, hc_⟩ := Kd.Q_slice HO.out; subst he_; replace hc_ := Aside0.mk hc_; simp only [bfsX] at H; obtain rfl := Option.some.inj H; clear HA H HL; obtain ⟨b0, b1, b2, b3, b4, b5, rfl⟩ : ∃ b0 b1 b2 b3 b4 b5, m = [b0, b1, b2, b3, b4, b5] := by
     have h6 := HM.out; match m, h6 with
     | [b0, b1, b2, b3, b4, b5], _ => exact ⟨b0, b1, b2, b3, b4, b5, rfl⟩
    clear HM; have c4 := blk_cell B4.out; have c5 := blk_cell B5.out; have z4 := blk_frozen B4.out; go_wp2; have h_ := blk_set (blk_set (blk_set (blk_set (blk_set (blk_set B4.out 0 (.bool b0)) 1 (.bool b1)) 2 (.bool b2)) 3 (.bool b3)) 4 (.bool b4)) 5 (.bool b5); simp only [List.setIfInBounds_toArray, List.set_cons_zero, List.set_cons_succ] at h_; have hbf := bSet (bSet (bSet (bSet (bSet (bSet HB.out (Nat.le_refl w.heap.size) (j := 0) (u := .bool b0)) (Nat.le_refl w.heap.size) (j := 1) (u := .bool b1)) (Nat.le_refl w.heap.size) (j := 2) (u := .bool b2)) (Nat.le_refl w.heap.size) (j := 3) (u := .bool b3)) (Nat.le_refl w.heap.size) (j := 4) (u := .bool b4)) (Nat.le_refl w.heap.size) (j := 5) (u := .bool b5); generalize (((((wr.setCell ⟨w.heap.size, 0, none⟩ (.bool b0)).setCell ⟨w.heap.size, 1, none⟩ (.bool b1)).setCell ⟨w.heap.size, 2, none⟩ (.bool b2)).setCell ⟨w.heap.size, 3, none⟩ (.bool b3)).setCell ⟨w.heap.size, 4, none⟩ (.bool b4)).setCell ⟨w.heap.size, 5, none⟩ (.bool b5) = Wf at h_ hbf ⊢; have cf := blk_cell h_; clear h_ c4 c5 z4 B4 B5 HO HB; refine bodyPost_ret (v := .agg #[.bool b0, .bool b1, .bool b2, .bool b3, .bool b4, .bool b5]) (by simp [results, Tryz.results340, go_sem, cf]) rfl ⟨rfl, hbf⟩
   | cons a rest =>
    have H := HA.out; simp only [bfsX] at H; replace H := Aside0.mk H; clear HA; obtain ⟨g, o, cap, he_, hg1, hg2, cells_, hcells⟩ := Kd.Q_form HO.out (by simp); subst he_; obtain ⟨_, hcap, hCC⟩ := Kd.Q_reads' HO.out; have hq0 : wr.cell? ⟨g, o, none⟩ = some (.int .i64 a) := (Kd.Q_cell 0 HO.out 0 (by omega) (by simp)).1; have hN1 : 1 ≤ (a :: rest).length := by simp
    have hN2 := hCC.2.1; obtain ⟨N, hN⟩ : ∃ N, N = (a :: rest).length := ⟨_, rfl⟩; rw [← hN] at hcap hN1 hN2; have hQ2 := Kd.Q_drop (k := 1) HO.out (by simp); rw [← hN] at hQ2; have hNI : (0 : Int) < (N : Int) := by omega
    have hNI2 : decide ((0 : Int) < (N : Int)) = true := decT hNI; have hc9 : N ≤ 9223372036854775807 := hN2; rw [← hN]; replace HL : Aside0 (rest.length + (6 - cntB m) ≤ 6) := ⟨by have := HL.out; simp only [List.length_cons] at this; omega⟩; replace hN := Aside0.mk hN; clear hCC hcells hN2 HO; by_cases hc1 : cap = 1
    rotate_left
    ·rw [if_neg hc1] at hQ2; go_wp2; have HO : Aside0 (Kd.Q (Kd.int .i64) 3 wr w.heap.size (fun _ => True) (.slice (some ⟨g, o + 1, none⟩) (N - 1) (cap - 1)) rest) := ⟨hQ2⟩; clear hQ2 hq0; generalize Value.slice (some ⟨g, o + 1, none⟩) (N - 1) (cap - 1) = vq at HO ⊢; clear hN hN1 hNI hNI2 hc9 hcap hg2; obtain ⟨wo, rfl⟩ : ∃ wo : World, wo = wr := ⟨_, rfl⟩; go_loopw [23, 6] (fun v23 v6 w' => ∃ (i : Nat) (todo : List Int) (m' : List Bool), v23 = .int .i64 i ∧ i ≤ l0.length ∧ Aside0 ((l0.take i).foldl (visX a) (m, rest) = (m', todo)) ∧ Aside0 (m'.length = 6) ∧ Aside0 (todo.length + (6 - cntB m') ≤ 7) ∧ Aside0 (Kd.Q (Kd.int .i64) 3 w' w.heap.size (fun _ => True) v6 todo) ∧ Aside0 (w'.heap[w.heap.size + 1]? = some (.cells (m'.map Value.bool).toArray 317 (0, 0))) ∧ Aside0 (w'.heap[w.heap.size]? = some (.cells #[.bool false, .bool false, .bool false, .bool false, .bool false, .bool false] 317 (0, 0))) ∧ Aside0 (Below w.heap.size w w')) (fun v _ _ => l0.length - (intOf v).toNat)
     case atStart => exact ⟨0, rest, m, rfl, Nat.zero_le _, ⟨rfl⟩, HM, ⟨by have := HL.out; omega⟩, HO, B5, B4, HB⟩
     case round =>
      clear HM HL HO B5 B4 HB; obtain ⟨i, todo, m', rfl, hi, HF, HM, HL, HO, B5, B4, HB⟩ := hrel; replace hi := Aside0.mk hi; by_cases hlt : i < l0.length
      rotate_left
      ·obtain rfl : i = l0.length := by have := hi.out; omega
       rw [List.take_length] at HF; have H2 : Aside0 (bfsX l0 k1 todo m' = some r) := ⟨by have h_ := H.out; unfold popX at h_; rw [HF.out] at h_; exact h_⟩; clear H HF hi; go_wp2; go_roundg k1
       case rel => exact ⟨todo, m', H2, ⟨by have := HK1.out; omega⟩, HM, ⟨by have := HL.out; omega⟩, HO, B5, B4, HB⟩
       case measure => omega
      obtain ⟨x, hx⟩ : ∃ x, l0[i]? = some x := ⟨_, List.getElem?_eq_getElem hlt⟩; have hrd : rd_T154 l0 (i : Int) = x := by unfold rd_T154; rw [List.getD_eq_getElem?_getD, Int.toNat_natCast, hx]; rfl
      have hmx : l0.length ≤ 9223372036854775807 := HR0.out.2.1; have p0 : (0 : Int) ≤ (i : Int) := by omega
      have p1 : (i : Int) < (l0.length : Int) := by omega
      obtain ⟨ad, e_, hx0, hx1⟩ := at_T154 HR0.out (i : Int) p0 p1; cases e_; rw [hrd] at hx0 hx1; rw [Int.toNat_natCast] at hx0 hx1; have y0 := xC HB ⟨hx0⟩; have y1 := xC HB ⟨hx1⟩; replace hstep := Aside0.mk (show (l0.take (i + 1)).foldl (visX a) (m, rest) = visX a (m', todo) x by rw [List.take_add_one, hx, List.foldl_append, HF.out]; rfl); have hneX : w.heap.size + 1 ≠ wr.heap.size := by have := blk_lt B5.out; omega
      have hneY : w.heap.size + 1 < wr.heap.size := by have := blk_lt B5.out; omega
      have hNo : (¬ (x.f0 = a ∧ roleB x.f1 = true ∧ mkR m' x.f1 = false)) → Aside0 ((l0.take (i + 1)).foldl (visX a) (m, rest) = (m', todo)) := fun h_ => ⟨by rw [hstep.out]; unfold visX; rw [if_neg h_]⟩
      replace hNo := Aside0.mk hNo; replace hx := Aside0.mk hx; replace hrd := Aside0.mk hrd; clear hx0 hx1; by_cases c1 : x.f0 = a
      rotate_left
      ·have c1_1 := eqF c1; replace hNo := hNo.out (fun h_ => c1 h_.1); clear c1; go_wp2; go_roundw
       case rel => exact ⟨i + 1, todo, m', by go_num, by omega, hNo, HM, HL, ⟨Kd.Q_alloc HO.out _⟩, ⟨blk_alloc B5.out _⟩, ⟨blk_alloc B4.out _⟩, ⟨below_alloc HB.out _⟩⟩
       case measure => simp [intOf]; omega
      have c1_1 := eqT c1; cases c2 : roleB x.f1 with
      | true =>
       have hr1 : (0 : Int) ≤ x.f1 := (roleB_iff.1 c2).1; have hr2 : x.f1 < 6 := by have := (roleB_iff.1 c2).2; omega
       have hcell : wr.cell? ⟨w.heap.size + 1, x.f1.toNat, none⟩ = some (.bool (mkR m' x.f1)) := (blk_cell B5.out _).trans (mkR_cell m' x.f1 HM.out c2); have hfz := blk_frozen B5.out x.f1.toNat; cases c3 : mkR m' x.f1 with
       | false =>
        rw [c3] at hcell; have hcnt := cnt_set_lt HM.out c2 c3; replace hstep : Aside0 ((l0.take (i + 1)).foldl (visX a) (m, rest) = (m'.set x.f1.toNat true, todo ++ [x.f1])) := ⟨by rw [hstep.out]; unfold visX; rw [if_pos ⟨c1, c2, c3⟩]⟩; have hcle := cnt_le (m'.set x.f1.toNat true); rw [List.length_set, HM.out] at hcle; have HL2 : Aside0 ((todo ++ [x.f1]).length + (6 - cntB (m'.set x.f1.toNat true)) ≤ 7) := ⟨by have := HL.out; rw [List.length_append, List.length_singleton, hcnt]; omega⟩; replace hcnt := Aside0.mk hcnt; replace hcle := Aside0.mk hcle; replace c3 := Aside0.mk c3; clear c1 hNo; have HO1 := Kd.Q_alloc (Kd.Q_set HO.out B5.out (by decide) x.f1.toNat (.bool true)) (.cells #[.int .i64 x.f0, .int .i64 x.f1] 154); have B51 := blk_alloc (blk_set B5.out x.f1.toNat (.bool true)) (.cells #[.int .i64 x.f0, .int .i64 x.f1] 154); rw [set_cells] at B51; have B41 := blk_alloc (blk_far B4.out (p := ⟨w.heap.size + 1, x.f1.toNat, none⟩) (show w.heap.size ≠ w.heap.size + 1 by omega) (.bool true)) (.cells #[.int .i64 x.f0, .int .i64 x.f1] 154); have HB1 := below_alloc (bSet HB.out (show w.heap.size ≤ w.heap.size + 1 by omega) (j := x.f1.toNat) (u := .bool true)) (.cells #[.int .i64 x.f0, .int .i64 x.f1] 154); have B91 : ((wr.setCell ⟨w.heap.size + 1, x.f1.toNat, none⟩ (.bool true)).alloc (.cells #[.int .i64 x.f0, .int .i64 x.f1] 154)).heap[wr.heap.size]? = some (.cells #[.int .i64 x.f0, .int .i64 x.f1] 154 (0, 0)) := by have h_ := heap_alloc_new (wr.setCell ⟨w.heap.size + 1, x.f1.toNat, none⟩ (.bool true)) (.cells #[.int .i64 x.f0, .int .i64 x.f1] 154 : Obj); simpa using h_
        replace HO1 := Aside0.mk HO1; replace B51 := Aside0.mk B51; replace B41 := Aside0.mk B41; replace HB1 := Aside0.mk HB1; replace B91 := Aside0.mk B91; go_upto_region 11 with (go_at_call 339; refine (role_same _ _).mono ?_; rintro e w' ⟨rfl, rfl⟩)
        generalize (wr.setCell ⟨w.heap.size + 1, x.f1.toNat, none⟩ (.bool true)).alloc (.cells #[.int .i64 x.f0, .int .i64 x.f1] 154) = W9 at HO1 B51 B41 HB1 B91 ⊢; have c91 : W9.cell? ⟨wr.heap.size, 1, none⟩ = some (.int .i64 x.f1) := (blk_cell B91.out 1).trans rfl; go_wp2_with ((with_reducible refine gate_dst (N := 50) rfl ?_); refine Kd.Q_append (Kd.int .i64) (w0 := w) w.heap.size rfl (.tmp 46) (.tmp 49) 177 3 (.int .i64 0) 8 rfl Tryz.underlying177 info3 rfl (by decide) (by omega) u6 todo x.f1 [.int .i64 x.f1] (fun _ => True) (fun _ => False) rfl rfl ?aP (fun _ hk => hk.elim) ?aF ?aO ?aB ?aS ?aL ?_; (case aP => exact (show Kd.M (Kd.int .i64) _ _ _ x.f1 [.int .i64 x.f1] from rfl)); (case aF => exact fun _ _ => trivial); (case aO => exact HO1.out); (case aB => exact HB1.out); (case aS => exact HB1.out.size); (case aL => (have := HL.out; omega)); intro v1 w1 hon hbn hgn hat_; have hgw := Aside0.mk hgn; have ho1 := Aside0.mk hon; have hb1 := Aside0.mk hbn; clear hgn hon hbn hat_)
        have B52 := blk_grown B51.out hgw.out (Kd.Q_ne HO1.out B51.out (by decide)); have B42 := blk_grown B41.out hgw.out (Kd.Q_ne HO1.out B41.out (by decide)); clear HO1 B51 B41 HB1 hgw; replace B52 := Aside0.mk B52; replace B42 := Aside0.mk B42; go_wp2; go_roundw
        case rel => exact ⟨i + 1, todo ++ [x.f1], m'.set x.f1.toNat true, by go_num, by omega, hstep, ⟨by rw [List.length_set]; exact HM.out⟩, HL2, ho1, B52, B42, hb1⟩
        case measure => simp [intOf]; omega
       | true =>
        rw [c3] at hcell; have c3' : ¬ (x.f0 = a ∧ roleB x.f1 = true ∧ mkR m' x.f1 = false) := fun h_ => by rw [c3] at h_; exact absurd h_.2.2 (by simp)
        replace hNo := hNo.out c3'; replace c3 := Aside0.mk c3; clear c3' hfz c1; go_wp2_with (go_at_call 339; refine (role_same _ _).mono ?_; rintro e w' ⟨rfl, rfl⟩)
        go_roundw
        case rel => exact ⟨i + 1, todo, m', by go_num, by omega, hNo, HM, HL, ⟨Kd.Q_alloc HO.out _⟩, ⟨blk_alloc B5.out _⟩, ⟨blk_alloc B4.out _⟩, ⟨below_alloc HB.out _⟩⟩
        case measure => simp [intOf]; omega
      | false =>
       have c3' : ¬ (x.f0 = a ∧ roleB x.f1 = true ∧ mkR m' x.f1 = false) := fun h_ => by rw [c2] at h_; exact absurd h_.2.1 (by simp)
       replace hNo := hNo.out c3'; clear c3' c1; go_wp2_with (go_at_call 339; refine (role_same _ _).mono ?_; rintro e w' ⟨rfl, rfl⟩)
       go_roundw
       case rel => exact ⟨i + 1, todo, m', by go_num, by omega, hNo, HM, HL, ⟨Kd.Q_alloc HO.out _⟩, ⟨blk_alloc B5.out _⟩, ⟨blk_alloc B4.out _⟩, ⟨below_alloc HB.out _⟩⟩
       case measure => simp [intOf]; omega
    subst hc1; rw [if_pos rfl] at hQ2; have hN3 : N = 1 := (by omega); subst hN3; go_wp2; have HO : Aside0 (Kd.Q (Kd.int .i64) 3 wr w.heap.size (fun _ => True) (.slice (some ⟨g, o, none⟩) 0 0) rest) := ⟨hQ2⟩; clear hQ2 hq0; generalize Value.slice (some ⟨g, o, none⟩) 0 0 = vq at HO ⊢; clear hN hN1 hNI hNI2 hc9 hcap hg2; obtain ⟨wo, rfl⟩ : ∃ wo : World, wo = wr := ⟨_, rfl⟩; go_loopw [23, 6] (fun v23 v6 w' => ∃ (i : Nat) (todo : List Int) (m' : List Bool), v23 = .int .i64 i ∧ i ≤ l0.length ∧ Aside0 ((l0.take i).foldl (visX a) (m, rest) = (m', todo)) ∧ Aside0 (m'.length = 6) ∧ Aside0 (todo.length + (6 - cntB m') ≤ 7) ∧ Aside0 (Kd.Q (Kd.int .i64) 3 w' w.heap.size (fun _ => True) v6 todo) ∧ Aside0 (w'.heap[w.heap.size + 1]? = some (.cells (m'.map Value.bool).toArray 317 (0, 0))) ∧ Aside0 (w'.heap[w.heap.size]? = some (.cells #[.bool false, .bool false, .bool false, .bool false, .bool false, .bool false] 317 (0, 0))) ∧ Aside0 (Below w.heap.size w w')) (fun v _ _ => l0.length - (intOf v).toNat)
    case atStart => exact ⟨0, rest, m, rfl, Nat.zero_le _, ⟨rfl⟩, HM, ⟨by have := HL.out; omega⟩, HO, B5, B4, HB⟩
    case round =>
     clear HM HL HO B5 B4 HB; obtain ⟨i, todo, m', rfl, hi, HF, HM, HL, HO, B5, B4, HB⟩ := hrel; replace hi := Aside0.mk hi; by_cases hlt : i < l0.length
     rotate_left
     ·obtain rfl : i = l0.length := by have := hi.out; omega
      rw [List.take_length] at HF; have H2 : Aside0 (bfsX l0 k1 todo m' = some r) := ⟨by have h_ := H.out; unfold popX at h_; rw [HF.out] at h_; exact h_⟩; clear H HF hi; go_wp2; go_roundg k1
      case rel => exact ⟨todo, m', H2, ⟨by have := HK1.out; omega⟩, HM, ⟨by have := HL.out; omega⟩, HO, B5, B4, HB⟩
      case measure => omega
     obtain ⟨x, hx⟩ : ∃ x, l0[i]? = some x := ⟨_, List.getElem?_eq_getElem hlt⟩; have hrd : rd_T154 l0 (i : Int) = x := by unfold rd_T154; rw [List.getD_eq_getElem?_getD, Int.toNat_natCast, hx]; rfl
     have hmx : l0.length ≤ 9223372036854775807 := HR0.out.2.1; have p0 : (0 : Int) ≤ (i : Int) := by omega
     have p1 : (i : Int) < (l0.length : Int) := by omega
     obtain ⟨ad, e_, hx0, hx1⟩ := at_T154 HR0.out (i : Int) p0 p1; cases e_; rw [hrd] at hx0 hx1; rw [Int.toNat_natCast] at hx0 hx1; have y0 := xC HB ⟨hx0⟩; have y1 := xC HB ⟨hx1⟩; replace hstep := Aside0.mk (show (l0.take (i + 1)).foldl (visX a) (m, rest) = visX a (m', todo) x by rw [List.take_add_one, hx, List.foldl_append, HF.out]; rfl); have hneX : w.heap.size + 1 ≠ wr.heap.size := by have := blk_lt B5.out; omega
     have hneY : w.heap.size + 1 < wr.heap.size := by have := blk_lt B5.out; omega
     have hNo : (¬ (x.f0 = a ∧ roleB x.f1 = true ∧ mkR m' x.f1 = false)) → Aside0 ((l0.take (i + 1)).foldl (visX a) (m, rest) = (m', todo)) := fun h_ => ⟨by rw [hstep.out]; unfold visX; rw [if_neg h_]⟩
     replace hNo := Aside0.mk hNo; replace hx := Aside0.mk hx; replace hrd := Aside0.mk hrd; clear hx0 hx1; by_cases c1 : x.f0 = a
     rotate_left
     ·have c1_1 := eqF c1; replace hNo := hNo.out (fun h_ => c1 h_.1); clear c1; go_wp2; go_roundw
      case rel => exact ⟨i + 1, todo, m', by go_num, by omega, hNo, HM, HL, ⟨Kd.Q_alloc HO.out _⟩, ⟨blk_alloc B5.out _⟩, ⟨blk_alloc B4.out _⟩, ⟨below_alloc HB.out _⟩⟩
      case measure => simp [intOf]; omega
     have c1_1 := eqT c1; cases c2 : roleB x.f1 with
     | true =>
      have hr1 : (0 : Int) ≤ x.f1 := (roleB_iff.1 c2).1; have hr2 : x.f1 < 6 := by have := (roleB_iff.1 c2).2; omega
      have hcell : wr.cell? ⟨w.heap.size + 1, x.f1.toNat, none⟩ = some (.bool (mkR m' x.f1)) := (blk_cell B5.out _).trans (mkR_cell m' x.f1 HM.out c2); have hfz := blk_frozen B5.out x.f1.toNat; cases c3 : mkR m' x.f1 with
      | false =>
       rw [c3] at hcell; have hcnt := cnt_set_lt HM.out c2 c3; replace hstep : Aside0 ((l0.take (i + 1)).foldl (visX a) (m, rest) = (m'.set x.f1.toNat true, todo ++ [x.f1])) := ⟨by rw [hstep.out]; unfold visX; rw [if_pos ⟨c1, c2, c3⟩]⟩; have hcle := cnt_le (m'.set x.f1.toNat true); rw [List.length_set, HM.out] at hcle; have HL2 : Aside0 ((todo ++ [x.f1]).length + (6 - cntB (m'.set x.f1.toNat true)) ≤ 7) := ⟨by have := HL.out; rw [List.length_append, List.length_singleton, hcnt]; omega⟩; replace hcnt := Aside0.mk hcnt; replace hcle := Aside0.mk hcle; replace c3 := Aside0.mk c3; clear c1 hNo; have HO1 := Kd.Q_alloc (Kd.Q_set HO.out B5.out (by decide) x.f1.toNat (.bool true)) (.cells #[.int .i64 x.f0, .int .i64 x.f1] 154); have B51 := blk_alloc (blk_set B5.out x.f1.toNat (.bool true)) (.cells #[.int .i64 x.f0, .int .i64 x.f1] 154); rw [set_cells] at B51; have B41 := blk_alloc (blk_far B4.out (p := ⟨w.heap.size + 1, x.f1.toNat, none⟩) (show w.heap.size ≠ w.heap.size + 1 by omega) (.bool true)) (.cells #[.int .i64 x.f0, .int .i64 x.f1] 154); have HB1 := below_alloc (bSet HB.out (show w.heap.size ≤ w.heap.size + 1 by omega) (j := x.f1.toNat) (u := .bool true)) (.cells #[.int .i64 x.f0, .int .i64 x.f1] 154); have B91 : ((wr.setCell ⟨w.heap.size + 1, x.f1.toNat, none⟩ (.bool true)).alloc (.cells #[.int .i64 x.f0, .int .i64 x.f1] 154)).heap[wr.heap.size]? = some (.cells #[.int .i64 x.f0, .int .i64 x.f1] 154 (0, 0)) := by have h_ := heap_alloc_new (wr.setCell ⟨w.heap.size + 1, x.f1.toNat, none⟩ (.bool true)) (.cells #[.int .i64 x.f0, .int .i64 x.f1] 154 : Obj); simpa using h_
       replace HO1 := Aside0.mk HO1; replace B51 := Aside0.mk B51; replace B41 := Aside0.mk B41; replace HB1 := Aside0.mk HB1; replace B91 := Aside0.mk B91; go_upto_region 11 with (go_at_call 339; refine (role_same _ _).mono ?_; rintro e w' ⟨rfl, rfl⟩)
       generalize (wr.setCell ⟨w.heap.size + 1, x.f1.toNat, none⟩ (.bool true)).alloc (.cells #[.int .i64 x.f0, .int .i64 x.f1] 154) = W9 at HO1 B51 B41 HB1 B91 ⊢; have c91 : W9.cell? ⟨wr.heap.size, 1, none⟩ = some (.int .i64 x.f1) := (blk_cell B91.out 1).trans rfl; go_wp2_with ((with_reducible refine gate_dst (N := 50) rfl ?_); refine Kd.Q_append (Kd.int .i64) (w0 := w) w.heap.size rfl (.tmp 46) (.tmp 49) 177 3 (.int .i64 0) 8 rfl Tryz.underlying177 info3 rfl (by decide) (by omega) u6 todo x.f1 [.int .i64 x.f1] (fun _ => True) (fun _ => False) rfl rfl ?aP (fun _ hk => hk.elim) ?aF ?aO ?aB ?aS ?aL ?_; (case aP => exact (show Kd.M (Kd.int .i64) _ _ _ x.f1 [.int .i64 x.f1] from rfl)); (case aF => exact fun _ _ => trivial); (case aO => exact HO1.out); (case aB => exact HB1.out); (case aS => exact HB1.out.size); (case aL => (have := HL.out; omega)); intro v1 w1 hon hbn hgn hat_; have hgw := Aside0.mk hgn; have ho1 := Aside0.mk hon; have hb1 := Aside0.mk hbn; clear hgn hon hbn hat_)
       have B52 := blk_grown B51.out hgw.out (Kd.Q_ne HO1.out B51.out (by decide)); have B42 := blk_grown B41.out hgw.out (Kd.Q_ne HO1.out B41.out (by decide)); clear HO1 B51 B41 HB1 hgw; replace B52 := Aside0.mk B52; replace B42 := Aside0.mk B42; go_wp2; go_roundw
       case rel => exact ⟨i + 1, todo ++ [x.f1], m'.set x.f1.toNat true, by go_num, by omega, hstep, ⟨by rw [List.length_set]; exact HM.out⟩, HL2, ho1, B52, B42, hb1⟩
       case measure => simp [intOf]; omega
      | true =>
       rw [c3] at hcell; have c3' : ¬ (x.f0 = a ∧ roleB x.f1 = true ∧ mkR m' x.f1 = false) := fun h_ => by rw [c3] at h_; exact absurd h_.2.2 (by simp)
       replace hNo := hNo.out c3'; replace c3 := Aside0.mk c3; clear c3' hfz c1; go_wp2_with (go_at_call 339; refine (role_same _ _).mono ?_; rintro e w' ⟨rfl, rfl⟩)
       go_roundw
       case rel => exact ⟨i + 1, todo, m', by go_num, by omega, hNo, HM, HL, ⟨Kd.Q_alloc HO.out _⟩, ⟨blk_alloc B5.out _⟩, ⟨blk_alloc B4.out _⟩, ⟨below_alloc HB.out _⟩⟩
       case measure => simp [intOf]; omega
     | false =>
      have c3' : ¬ (x.f0 = a ∧ roleB x.f1 = true ∧ mkR m' x.f1 = false) := fun h_ => by rw [c2] at h_; exact absurd h_.2.1 (by simp)
      replace hNo := hNo.out c3'; clear c3' c1; go_wp2_with (go_at_call 339; refine (role_same _ _).mono ?_; rintro e w' ⟨rfl, rfl⟩)
      go_roundw
      case rel => exact ⟨i + 1, todo, m', by go_num, by omega, hNo, HM, HL, ⟨Kd.Q_alloc HO.out _⟩, ⟨blk_alloc B5.out _⟩, ⟨blk_alloc B4.out _⟩, ⟨below_alloc HB.out _⟩⟩
      case measure => simp [intOf]; omega
theorem role_iz (a : Int) (b : Bool) (h : roleB a = b) (w : World) : Calls Tryz.prog 339 #[.int .i64 a] w fun e w' => e = .returned (.bool b) ∧ w = w' := h ▸ role_same a w
theorem agg_ix (m : List Bool) (i : Nat) (hm : m.length = 6) (hi : i < 6) (w : World) : (Instr.index 317 (.agg (m.map Value.bool).toArray) (.int .i64 (i : Int))).run Tryz.prog w = .ok (.bool (mkR m (i : Int))) w := by
 obtain ⟨b0, b1, b2, b3, b4, b5, rfl⟩ : ∃ b0 b1 b2 b3 b4 b5, m = [b0, b1, b2, b3, b4, b5] := by
  match m, hm with
  | [b0, b1, b2, b3, b4, b5], _ => exact ⟨b0, b1, b2, b3, b4, b5, rfl⟩
 rcases (by omega : i = 0 ∨ i = 1 ∨ i = 2 ∨ i = 3 ∨ i = 4 ∨ i = 5) with rfl | rfl | rfl | rfl | rfl | rfl <;> kernel_rfl
theorem bfsY_len (l : List S154) : ∀ (k : Nat) (todo : List Int) (m r : List Bool), m.length = 6 → bfsX l k todo m = some r → r.length = 6 := by
 have hv : ∀ (a : Int) (s : List Bool × List Int) (x : S154), (visX a s x).1.length = s.1.length := by
  intro a s x; unfold visX; split <;> simp
 have hp : ∀ (t : List S154) (a : Int) (s : List Bool × List Int), (t.foldl (visX a) s).1.length = s.1.length := by
  intro t
  induction t with
  | nil => intro a s; rfl
  | cons x t ih => intro a s; rw [List.foldl_cons, ih, hv]
 intro k
 induction k with
 | zero => intro todo m r _ h; cases todo <;> simp [bfsX] at h
 | succ k ih =>
  intro todo m r hm h
  cases todo with
  | nil => simp only [bfsX] at h; obtain rfl := Option.some.inj h; exact hm
  | cons a rest => simp only [bfsX] at h; exact ih _ _ _ (by unfold popX; rw [hp]; exact hm) h
def rolesX (m : List Bool) (a : Int) : Nat → List Int
 | 0 => []
 | n + 1 => rolesX m a n ++ (if mkR m (n : Int) = true ∨ (n : Int) = a then [(n : Int)] else [])
theorem rolesX_len (m : List Bool) (a : Int) : ∀ n, (rolesX m a n).length ≤ n
 | 0 => Nat.le_refl _
 | n + 1 => by have := rolesX_len m a n; rw [rolesX, List.length_append]; split <;> simp <;> omega
def impl_RolesUnder.f (k : Nat) (l0 : List S154) (a1 : Int) : Option (List Int) := if roleB a1 = true then (bfsX l0 k [a1] (List.replicate 6 false)).bind fun m => some (rolesX m a1 6) else some []
theorem impl_RolesUnder.calls (k : Nat) (A0 : Option Addr) (c0 : Nat) (l0 : List S154) (a1 : Int) (r : List Int) (w : World) (hr0 : Kd.C k154 w A0 l0.length l0) (hc0 : l0.length ≤ c0) (h : impl_RolesUnder.f k l0 a1 = some r) :
  Calls Tryz.prog 404 #[.slice A0 l0.length c0, .int .i64 a1] w fun e w' => ∃ v0_ : Value, e = .returned v0_ ∧ Kd.R (Kd.int .i64) 3 w' w.heap.size (fun _ => True) v0_ r ∧ Below w.heap.size w w' := by
 have HR0 := Aside0.mk hr0
 have HC0 := Aside0.mk hc0
 clear hr0 hc0
 have HB := Aside0.mk (Below.refl w.heap.size w)
 have hu2_ := Tryz.underlying317
 unfold impl_RolesUnder.f at h
 have h := Aside0.mk h
 go_enter Tryz.func404, Tryz.ntmps404
 go_upto_region 2 with ((with_reducible refine gate_dst (N := 8) rfl ?_); refine Kd.R_lit (Kd.int .i64) _ 3 ?hg (N := 8) ?hd (xs := ([] : List Int)) (inner := []) (ok := fun _ => True) (okp := fun _ => True) ?hr ?hp (fun _ hk => hk) trivial (Below.refl _ _) (Nat.le_refl _) (by simp) ?_; (case hd => rfl); (case hg => rfl); (case hr => first | (go_simp; done) | (go_simp; rfl)); (case hp => exact (Reps.none _ _)); intro v W1 ho hb hg_ hnew_; clear hg_ hnew_; have O := Aside0.mk (Kd.R_lower ho (below_size HB.out)); replace HB := Aside0.mk (below_step HB.out hb); clear hb ho)
 cases c : roleB a1 with
 | false =>
  have H := h.out
  rw [c, if_neg (by simp)] at H
  obtain rfl := Option.some.inj H
  clear H h
  go_wp2_with (go_at_call 339; refine (role_iz a1 _ c _).mono ?_; rintro e w' ⟨rfl, rfl⟩)
  go_ret
  exact ⟨_, rfl, O.out, HB.out⟩
 | true =>
  have H := h.out
  rw [c, if_pos rfl] at H
  obtain ⟨m, hm, H⟩ := Option.bind_eq_some_iff.mp H
  obtain rfl := Option.some.inj H
  clear H h
  have hm6 := bfsY_len l0 k _ _ _ (by simp) hm
  replace hm := Aside0.mk hm
  go_wp2_with (first | (go_at_call 339; refine (role_iz a1 _ c _).mono ?_; rintro e w' ⟨rfl, rfl⟩) | (go_at_call 340; refine (below.calls k _ _ _ _ m _ (Kd.C_below HR0.out HB.out) HC0.out hm.out).mono ?_; rintro e W2 ⟨rfl, hb⟩; replace O := Aside0.mk (Kd.R_below O.out hb); replace HB := Aside0.mk (below_step HB.out hb); clear hb))
  clear hm
  generalize hma : (List.map Value.bool m).toArray = ma
  replace hma := Aside0.mk hma
  go_loopg [16, 5] 6 (fun gg v16 v5 w' => ∃ i : Nat, v16 = .int .i64 i ∧ (i ≤ 6 ∧ 6 ≤ gg + i) ∧ Aside0 (Kd.R (Kd.int .i64) 3 w' w.heap.size (fun _ => True) v5 (rolesX m a1 i)) ∧ Aside0 (Below w.heap.size w w'))
  case atStart => exact ⟨0, rfl, ⟨Nat.zero_le _, Nat.le_refl _⟩, O, HB⟩
  case round =>
   clear O HB; obtain ⟨i, rfl, hi, O, HB⟩ := hrel; by_cases hlt : i < 6
   rotate_left
   ·obtain rfl : i = 6 := by omega
    have hI : decide (((6 : Nat) : Int) < 6) = false := by decide
    go_wp2; go_ret; exact ⟨_, rfl, O.out, HB.out⟩
   have hix := agg_ix m i hm6 hlt; rw [hma.out] at hix; have hI : decide ((i : Int) < 6) = true := decT (by omega); have hl := Aside0.mk (rolesX_len m a1 i); have he : wrap64 ((i : Int) + 1) = (i : Int) + 1 := by have h1_ : (0 : Int) ≤ (i : Int) + 1 := (by omega); have h2_ : (i : Int) + 1 ≤ 7 := (by omega); generalize (i : Int) + 1 = z at h1_ h2_ ⊢; unfold wrap64; omega
   replace hi := Aside0.mk hi; replace hlt := Aside0.mk hlt; cases e : mkR m (i : Int) with
   | true =>
    rw [e] at hix; have hz2 := Aside0.mk (show rolesX m a1 (i + 1) = rolesX m a1 i ++ [(i : Int)] by rw [rolesX, if_pos (Or.inl e)]); go_wp2_with ((with_reducible refine gate_dst (N := 29) rfl ?_); refine Kd.R_append (Kd.int .i64) (w0 := w) w.heap.size rfl (.tmp 26) (.tmp 28) 177 3 (.int .i64 0) 8 rfl Tryz.underlying177 info3 rfl (by decide) (by omega) u5 (rolesX m a1 i) (i : Int) [.int .i64 (i : Int)] (fun _ => True) (fun _ => False) rfl rfl ?aP (fun _ hk => hk.elim) ?aF ?aO ?aB ?aS ?aL ?_; (case aP => exact (show Kd.M (Kd.int .i64) _ _ _ (i : Int) [.int .i64 (i : Int)] from rfl)); (case aF => exact fun _ _ => trivial); (case aO => exact O.out); (case aB => exact HB.out); (case aS => exact HB.out.size); (case aL => (have := hl.out; have := hi.out; omega)); intro v1 w1 hon hbn hgn hat_; rw [← hz2.out] at hon; have O2 := Aside0.mk hon; have HB2 := Aside0.mk hbn; clear hgn hon hbn hat_)
    go_roundg (6 - (i + 1))
    case rel => exact ⟨i + 1, by rw [he]; simp, by have := hlt.out; have := hi.out; omega, O2, HB2⟩
    case measure => have := hlt.out; have := hi.out; omega
   | false =>
    rw [e] at hix; by_cases e2 : (i : Int) = a1
    rotate_left
    ·have e3 := eqF e2; have hz2 := Aside0.mk (show rolesX m a1 (i + 1) = rolesX m a1 i by rw [rolesX, if_neg (by rw [e]; simpa using e2), List.append_nil]); clear e2; go_wp2; go_roundg (6 - (i + 1))
     case rel => exact ⟨i + 1, by rw [he]; simp, by have := hlt.out; have := hi.out; omega, ⟨by rw [hz2.out]; exact O.out⟩, HB⟩
     case measure => have := hlt.out; have := hi.out; omega
    have e3 := eqT e2; have e4 := Aside0.mk e2; clear e2; have hz2 := Aside0.mk (show rolesX m a1 (i + 1) = rolesX m a1 i ++ [(i : Int)] by rw [rolesX, if_pos (Or.inr e4.out)]); go_wp2_with ((with_reducible refine gate_dst (N := 29) rfl ?_); refine Kd.R_append (Kd.int .i64) (w0 := w) w.heap.size rfl (.tmp 26) (.tmp 28) 177 3 (.int .i64 0) 8 rfl Tryz.underlying177 info3 rfl (by decide) (by omega) u5 (rolesX m a1 i) (i : Int) [.int .i64 (i : Int)] (fun _ => True) (fun _ => False) rfl rfl ?aP (fun _ hk => hk.elim) ?aF ?aO ?aB ?aS ?aL ?_; (case aP => exact (show Kd.M (Kd.int .i64) _ _ _ (i : Int) [.int .i64 (i : Int)] from rfl)); (case aF => exact fun _ _ => trivial); (case aO => exact O.out); (case aB => exact HB.out); (case aS => exact HB.out.size); (case aL => (have := hl.out; have := hi.out; omega)); intro v1 w1 hon hbn hgn hat_; rw [← hz2.out] at hon; have O2 := Aside0.mk hon; have HB2 := Aside0.mk hbn; clear hgn hon hbn hat_)
    go_roundg (6 - (i + 1))
    case rel => exact ⟨i + 1, by rw [he]; simp, by have := hlt.out; have := hi.out; omega, O2, HB2⟩
    case measure => have := hlt.out; have := hi.out; omega
def slices_Sort_int_int.f (l0 : List Int) : Option (List Int) := if l0.length < 2199023255552 then some (l0.mergeSort fun x y => decide (x ≤ y)) else none
open Go.Proofs.YtmgfklmhelabcaaGreatS in
theorem slices_Sort_int_int.calls (P0_ : Nat → Prop) (u9000_ : Value) (l0 : List Int) (r : List Int) (w0 w : World) (hB : Below w0.heap.size w0 w) (ho0 : Kd.R (Kd.int .i64) 3 w w0.heap.size P0_ u9000_ l0) (h : slices_Sort_int_int.f l0 = some r) :
  Calls Tryz.prog 405 #[u9000_] w fun e w' => e = .returned (.tuple #[]) ∧ Kd.R (Kd.int .i64) 3 w' w0.heap.size (fun k_ => (P0_ k_ ∨ w.heap.size ≤ k_)) u9000_ r ∧ Below w0.heap.size w0 w' ∧ Kept w w' (fun k_ => P0_ k_) := by
 unfold slices_Sort_int_int.f at h
 split at h
 case isFalse => cases h
 case isTrue hl =>
 obtain rfl := Option.some.inj h
 clear h
 obtain ⟨h0, ho⟩ := ints_row ho0
 obtain ⟨_, ⟨rfl, hz⟩ | ⟨g, cap, cur, rfl, hg, hh, hc1, hc2, hc3, hc4⟩⟩ := ho
 ·obtain rfl := List.length_eq_zero_iff.1 hz
  refine (Tryz.slices_Sort_int_none _ _ _).mono ?_
  rintro e w' ⟨rfl, rfl⟩
  exact ⟨rfl, by simpa using Kd.R_mono ho0 (fun k hk => .inl hk), hB, Kept.refl _ _⟩
 refine (Tryz.slices_Sort_int g 0 cap l0 w (holds_of_blockI hh (by rw [← hc4, Nat.mul_one])) (Array.getElem?_eq_some_iff.1 hh).1 (by omega)).mono ?_
 rintro e w' ⟨rfl, n, os, rfl⟩
 have hgb := grownBy_sortedI (n := n) (os := os) (w := w) (g := g) (l0.mergeSort fun x y => decide (x ≤ y)).toArray
 have hp : P0_ g := h0 g rfl
 exact ⟨rfl, row_ints (fun k hk => .inl (h0 k hk)) (by rw [List.length_mergeSort]; exact ownsRow_sortedI (List.length_mergeSort _) hg hh hc1 hc2 hc3), below_grown hB hgb hg, Kept.of_grown hgb (Kept.refl _ _) (fun k e => .inl (by injection e with e; exact e ▸ hp))⟩
def slices_Compact_int_int.f (l0 : List Int) : Option (List Int) := if l0.length < 2199023255552 then some (Go.Lib.compact l0) else none
open Go.Proofs.YtmgfklmhelabcaaGreatS in
theorem slices_Compact_int_int.calls (P0_ : Nat → Prop) (u9000_ : Value) (l0 : List Int) (r : List Int) (w0 w : World) (hB : Below w0.heap.size w0 w) (ho0 : Kd.R (Kd.int .i64) 3 w w0.heap.size P0_ u9000_ l0) (h : slices_Compact_int_int.f l0 = some r) :
  Calls Tryz.prog 406 #[u9000_] w fun e w' => ∃ v0_ : Value, e = .returned (v0_) ∧ Kd.R (Kd.int .i64) 3 w' w0.heap.size (fun k_ => (P0_ k_ ∨ w.heap.size ≤ k_)) v0_ r ∧ Below w0.heap.size w0 w' ∧ Kept w w' (fun k_ => P0_ k_) := by
 unfold slices_Compact_int_int.f at h
 split at h
 case isFalse => cases h
 case isTrue hl =>
 obtain rfl := Option.some.inj h
 clear h
 obtain ⟨h0, ho⟩ := ints_row ho0
 obtain ⟨_, ⟨rfl, hz⟩ | ⟨g, cap, cur, rfl, hg, hh, hc1, hc2, hc3, hc4⟩⟩ := ho
 ·obtain rfl := List.length_eq_zero_iff.1 hz
  refine (Tryz.slices_Compact_int_empty _ _ _).mono ?_
  rintro e w' ⟨rfl, rfl⟩
  exact ⟨_, rfl, Kd.R_mono ho0 (fun k hk => .inl hk), hB, Kept.refl _ _⟩
 refine (Tryz.slices_Compact_int g 0 cap l0 w (holds_of_blockI hh (by rw [← hc4, Nat.mul_one])) (by omega) hc1).mono ?_
 rintro e w' ⟨rfl, n, rfl⟩
 have hgb := grownBy_sortedI (n := n) (os := #[]) (w := w) (g := g) (Go.Lib.compact l0 ++ List.replicate (l0.length - (Go.Lib.compact l0).length) 0).toArray
 rw [grow_none] at hgb
 have hp : P0_ g := h0 g rfl
 have hle := Go.Lib.compact_length_le l0
 have ho2 := own_cut (os := #[]) (n := n) (m := l0.length - (Go.Lib.compact l0).length) (Go.Lib.compact l0) hg hh (by omega) hc2 hc3
 rw [grow_none] at ho2
 exact ⟨_, rfl, row_ints (fun k hk => .inl (h0 k hk)) ho2, below_grown hB hgb hg, Kept.of_grown hgb (Kept.refl _ _) (fun k e => .inl (by injection e with e; exact e ▸ hp))⟩
end Go.Proofs.YtmgfklmhelabcaaGreat.QFnExactSaveDecision
