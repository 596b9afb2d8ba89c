/- The machine side of FnExactSaveDecision: what each function that it reaches computes, and that the machine's call gives just that. -/
import Derived.Test.YtmgfklmhelabcaaGreatQFnExactSaveDecisionx0
import Derived.Test.YtmgfklmhelabcaaGreatQFnExactSaveDecisionx2
import Derived.Test.YtmgfklmhelabcaaGreatQFnExactSaveDecisionx3
import Derived.Test.YtmgfklmhelabcaaGreatQFnExactSaveDecisionx6
namespace Go.Proofs.YtmgfklmhelabcaaGreat.QFnExactSaveDecision
open Go.RowKit Go.Proofs.YtmgfklmhelabcaaGreatW.PrintWords Go.Proofs.YtmgfklmhelabcaaGreatW.PrintLast Go.Proofs.YtmgfklmhelabcaaGreatW.PrintMore
attribute [local go_sem] max2_int min2_int max_two min_two max_three min_three max_four min_four
set_option maxHeartbeats 8000000
set_option maxRecDepth 100000
open Go.Proofs.YtmgfklmhelabcaaGreatM
set_option linter.unusedVariables false
set_option linter.unusedSimpArgs false
def spec_IsFact.f (a0_0 : Int) (a0_1 : Int) (a0_2 : Int) (a0_3 : Int) (a0_4 : Int) (a0_5 : Int) : Option (Bool) := if a0_0 = 1 then ((spec_HasKind.f a0_1 1).bind fun t346 => (if t346 = true then ((spec_l1In.f a0_2 0 5).bind fun t347 => (if t347 = true then ((spec_l1In.f a0_3 0 9).bind fun t348 => (if t348 = true then ((spec_IsTime.f a0_4).bind fun t349 => (if t349 = true then ((spec_IsTime.f a0_5).bind fun t350 => (if t350 = true then (some (decide (a0_4 ≤ a0_5))) else (some false))) else (some false))) else (some false))) else (some false))) else (some false))) else (if a0_0 = 2 then ((spec_HasKind.f a0_1 1).bind fun t351 => (if t351 = true then ((spec_HasKind.f a0_2 2).bind fun t352 => (if t352 = true then ((spec_l1In.f a0_3 0 9).bind fun t353 => (if t353 = true then ((spec_IsTime.f a0_4).bind fun t354 => (if t354 = true then ((spec_IsTime.f a0_5).bind fun t355 => (if t355 = true then (some (decide (a0_4 ≤ a0_5))) else (some false))) else (some false))) else (some false))) else (some false))) else (some false))) else (if a0_0 = 3 then ((spec_HasKind.f a0_1 2).bind fun t356 => (if t356 = true then ((spec_l1In.f a0_2 0 3).bind fun t357 => (if t357 = true then ((spec_l1In.f a0_3 0 9).bind fun t358 => (if t358 = true then ((spec_IsTime.f a0_4).bind fun t359 => (if t359 = true then ((spec_IsTime.f a0_5).bind fun t360 => (if t360 = true then (some (decide (a0_4 ≤ a0_5))) else (some false))) else (some false))) else (some false))) else (some false))) else (some false))) else (if a0_0 = 4 then ((spec_HasKind.f a0_1 3).bind fun t361 => (if t361 = true then ((spec_l1In.f a0_2 0 3).bind fun t362 => (if t362 = true then ((spec_l1In.f a0_3 0 9).bind fun t363 => (if t363 = true then ((spec_IsTime.f a0_4).bind fun t364 => (if t364 = true then ((spec_IsTime.f a0_5).bind fun t365 => (if t365 = true then (some (decide (a0_4 ≤ a0_5))) else (some false))) else (some false))) else (some false))) else (some false))) else (some false))) else (some false))))
theorem spec_IsFact.calls (a0_0 : Int) (a0_1 : Int) (a0_2 : Int) (a0_3 : Int) (a0_4 : Int) (a0_5 : Int) (r : Bool) (w : World) (h : spec_IsFact.f a0_0 a0_1 a0_2 a0_3 a0_4 a0_5 = some r) :
  Calls Tryz.prog 260 #[.agg #[.int .i64 a0_0, .int .i64 a0_1, .int .i64 a0_2, .int .i64 a0_3, .int .i64 a0_4, .int .i64 a0_5]] w fun e w' => e = .returned (.bool r) ∧ Below w.heap.size w w' := by
 have HB := Aside0.mk (Below.refl w.heap.size w)
 have H := h
 clear h
 unfold spec_IsFact.f at H
 have hu136 := Tryz.underlying136
 go_enter Tryz.func260, Tryz.ntmps260
 replace H := Aside0.mk H
 go_upto_region 1 with (first | ((with_reducible refine gate_dst (N := 1) rfl ?_); refine box_event ?hg (N := 1) ?hd (cs := #[.int .i64 a0_0, .int .i64 a0_1, .int .i64 a0_2, .int .i64 a0_3, .int .i64 a0_4, .int .i64 a0_5]) (t := 136) ?hr ?_; (case hd => rfl); (case hg => rfl); (case hr => first | (go_simp; done) | (go_simp; rfl)); intro gb1 hg W1 hbox hb; replace HB := bH HB hb; clear hb; have BK1 := Aside0.mk hbox; have c_BK1 := blk_cell hbox; have z_BK1 := blk_frozen hbox; clear hg hbox))
 replace H := ifD H.out; rcases H with ⟨c2, H⟩ | ⟨c2, H⟩
 ·obtain ⟨c2_0, c2_1, c2_2⟩ := d3T c2
  clear c2
  (first | rw [c2_1] | rw [c2_2] | skip)
  replace H := obs H
  obtain ⟨t346, hm, H⟩ := H
  (try dsimp only at H)
  replace H := Aside0.mk H
  have hcall := spec_HasKind.calls _ _ _ W1  hm
  clear hm
  (go_wp2_with fail)
  refine hcall.mono ?_
  rintro e W3 ⟨rfl, hb⟩
  clear hcall
  replace BK1 := bK BK1 hb; replace c_BK1 := bcl BK1; replace z_BK1 := bfr BK1
  replace HB := bH HB hb; clear hb
  replace H := ifD H.out; rcases H with ⟨c4, H⟩ | ⟨c4, H⟩
  rotate_left
  ·replace c4 := nT c4; subst c4; cases H; go_wp2; go_ret; exact ⟨rfl, HB.out⟩
  subst c4
  replace H := obs H
  obtain ⟨t347, hm, H⟩ := H
  (try dsimp only at H)
  replace H := Aside0.mk H
  have hcall := spec_l1In.calls _ _ _ _ W3  hm
  clear hm
  (go_wp2_with fail)
  refine hcall.mono ?_
  rintro e W5 ⟨rfl, hb⟩
  clear hcall
  replace BK1 := bK BK1 hb; replace c_BK1 := bcl BK1; replace z_BK1 := bfr BK1
  replace HB := bH HB hb; clear hb
  replace H := ifD H.out; rcases H with ⟨c6, H⟩ | ⟨c6, H⟩
  rotate_left
  ·replace c6 := nT c6; subst c6; cases H; go_wp2; go_ret; exact ⟨rfl, HB.out⟩
  subst c6
  replace H := obs H
  obtain ⟨t348, hm, H⟩ := H
  (try dsimp only at H)
  replace H := Aside0.mk H
  have hcall := spec_l1In.calls _ _ _ _ W5  hm
  clear hm
  (go_wp2_with fail)
  refine hcall.mono ?_
  rintro e W7 ⟨rfl, hb⟩
  clear hcall
  replace BK1 := bK BK1 hb; replace c_BK1 := bcl BK1; replace z_BK1 := bfr BK1
  replace HB := bH HB hb; clear hb
  replace H := ifD H.out; rcases H with ⟨c8, H⟩ | ⟨c8, H⟩
  rotate_left
  ·replace c8 := nT c8; subst c8; cases H; go_wp2; go_ret; exact ⟨rfl, HB.out⟩
  subst c8
  replace H := obs H
  obtain ⟨t349, hm, H⟩ := H
  (try dsimp only at H)
  replace H := Aside0.mk H
  have hcall := spec_IsTime.calls _ _ W7  hm
  clear hm
  (go_wp2_with fail)
  refine hcall.mono ?_
  rintro e W9 ⟨rfl, hb⟩
  clear hcall
  replace BK1 := bK BK1 hb; replace c_BK1 := bcl BK1; replace z_BK1 := bfr BK1
  replace HB := bH HB hb; clear hb
  replace H := ifD H.out; rcases H with ⟨c10, H⟩ | ⟨c10, H⟩
  rotate_left
  ·replace c10 := nT c10; subst c10; cases H; go_wp2; go_ret; exact ⟨rfl, HB.out⟩
  subst c10
  replace H := obs H
  obtain ⟨t350, hm, H⟩ := H
  (try dsimp only at H)
  replace H := Aside0.mk H
  have hcall := spec_IsTime.calls _ _ W9  hm
  clear hm
  (go_wp2_with fail)
  refine hcall.mono ?_
  rintro e W11 ⟨rfl, hb⟩
  clear hcall
  replace BK1 := bK BK1 hb; replace c_BK1 := bcl BK1; replace z_BK1 := bfr BK1
  replace HB := bH HB hb; clear hb
  replace H := ifD H.out; rcases H with ⟨c12, H⟩ | ⟨c12, H⟩
  ·subst c12; cases H; go_wp2; go_ret; exact ⟨rfl, HB.out⟩
  replace c12 := nT c12
  subst c12
  cases H
  go_wp2
  go_ret
  exact ⟨rfl, HB.out⟩
 obtain ⟨c2_0, c2_1, c2_2⟩ := d3F c2
 clear c2
 (first | rw [c2_1] | rw [c2_2] | skip)
 replace H := ifD H; rcases H with ⟨c13, H⟩ | ⟨c13, H⟩
 ·obtain ⟨c13_0, c13_1, c13_2⟩ := d3T c13
  clear c13
  (first | rw [c13_1] | rw [c13_2] | skip)
  replace H := obs H
  obtain ⟨t351, hm, H⟩ := H
  (try dsimp only at H)
  replace H := Aside0.mk H
  have hcall := spec_HasKind.calls _ _ _ W1  hm
  clear hm
  (go_wp2_with fail)
  refine hcall.mono ?_
  rintro e W14 ⟨rfl, hb⟩
  clear hcall
  replace BK1 := bK BK1 hb; replace c_BK1 := bcl BK1; replace z_BK1 := bfr BK1
  replace HB := bH HB hb; clear hb
  replace H := ifD H.out; rcases H with ⟨c15, H⟩ | ⟨c15, H⟩
  rotate_left
  ·replace c15 := nT c15; subst c15; cases H; go_wp2; go_ret; exact ⟨rfl, HB.out⟩
  subst c15
  replace H := obs H
  obtain ⟨t352, hm, H⟩ := H
  (try dsimp only at H)
  replace H := Aside0.mk H
  have hcall := spec_HasKind.calls _ _ _ W14  hm
  clear hm
  (go_wp2_with fail)
  refine hcall.mono ?_
  rintro e W16 ⟨rfl, hb⟩
  clear hcall
  replace BK1 := bK BK1 hb; replace c_BK1 := bcl BK1; replace z_BK1 := bfr BK1
  replace HB := bH HB hb; clear hb
  replace H := ifD H.out; rcases H with ⟨c17, H⟩ | ⟨c17, H⟩
  rotate_left
  ·replace c17 := nT c17; subst c17; cases H; go_wp2; go_ret; exact ⟨rfl, HB.out⟩
  subst c17
  replace H := obs H
  obtain ⟨t353, hm, H⟩ := H
  (try dsimp only at H)
  replace H := Aside0.mk H
  have hcall := spec_l1In.calls _ _ _ _ W16  hm
  clear hm
  (go_wp2_with fail)
  refine hcall.mono ?_
  rintro e W18 ⟨rfl, hb⟩
  clear hcall
  replace BK1 := bK BK1 hb; replace c_BK1 := bcl BK1; replace z_BK1 := bfr BK1
  replace HB := bH HB hb; clear hb
  replace H := ifD H.out; rcases H with ⟨c19, H⟩ | ⟨c19, H⟩
  rotate_left
  ·replace c19 := nT c19; subst c19; cases H; go_wp2; go_ret; exact ⟨rfl, HB.out⟩
  subst c19
  replace H := obs H
  obtain ⟨t354, hm, H⟩ := H
  (try dsimp only at H)
  replace H := Aside0.mk H
  have hcall := spec_IsTime.calls _ _ W18  hm
  clear hm
  (go_wp2_with fail)
  refine hcall.mono ?_
  rintro e W20 ⟨rfl, hb⟩
  clear hcall
  replace BK1 := bK BK1 hb; replace c_BK1 := bcl BK1; replace z_BK1 := bfr BK1
  replace HB := bH HB hb; clear hb
  replace H := ifD H.out; rcases H with ⟨c21, H⟩ | ⟨c21, H⟩
  rotate_left
  ·replace c21 := nT c21; subst c21; cases H; go_wp2; go_ret; exact ⟨rfl, HB.out⟩
  subst c21
  replace H := obs H
  obtain ⟨t355, hm, H⟩ := H
  (try dsimp only at H)
  replace H := Aside0.mk H
  have hcall := spec_IsTime.calls _ _ W20  hm
  clear hm
  (go_wp2_with fail)
  refine hcall.mono ?_
  rintro e W22 ⟨rfl, hb⟩
  clear hcall
  replace BK1 := bK BK1 hb; replace c_BK1 := bcl BK1; replace z_BK1 := bfr BK1
  replace HB := bH HB hb; clear hb
  replace H := ifD H.out; rcases H with ⟨c23, H⟩ | ⟨c23, H⟩
  ·subst c23; cases H; go_wp2; go_ret; exact ⟨rfl, HB.out⟩
  replace c23 := nT c23
  subst c23
  cases H
  go_wp2
  go_ret
  exact ⟨rfl, HB.out⟩
 obtain ⟨c13_0, c13_1, c13_2⟩ := d3F c13
 clear c13
 (first | rw [c13_1] | rw [c13_2] | skip)
 replace H := ifD H; rcases H with ⟨c24, H⟩ | ⟨c24, H⟩
 ·obtain ⟨c24_0, c24_1, c24_2⟩ := d3T c24
  clear c24
  (first | rw [c24_1] | rw [c24_2] | skip)
  replace H := obs H
  obtain ⟨t356, hm, H⟩ := H
  (try dsimp only at H)
  replace H := Aside0.mk H
  have hcall := spec_HasKind.calls _ _ _ W1  hm
  clear hm
  (go_wp2_with fail)
  refine hcall.mono ?_
  rintro e W25 ⟨rfl, hb⟩
  clear hcall
  replace BK1 := bK BK1 hb; replace c_BK1 := bcl BK1; replace z_BK1 := bfr BK1
  replace HB := bH HB hb; clear hb
  replace H := ifD H.out; rcases H with ⟨c26, H⟩ | ⟨c26, H⟩
  rotate_left
  ·replace c26 := nT c26; subst c26; cases H; go_wp2; go_ret; exact ⟨rfl, HB.out⟩
  subst c26
  replace H := obs H
  obtain ⟨t357, hm, H⟩ := H
  (try dsimp only at H)
  replace H := Aside0.mk H
  have hcall := spec_l1In.calls _ _ _ _ W25  hm
  clear hm
  (go_wp2_with fail)
  refine hcall.mono ?_
  rintro e W27 ⟨rfl, hb⟩
  clear hcall
  replace BK1 := bK BK1 hb; replace c_BK1 := bcl BK1; replace z_BK1 := bfr BK1
  replace HB := bH HB hb; clear hb
  replace H := ifD H.out; rcases H with ⟨c28, H⟩ | ⟨c28, H⟩
  rotate_left
  ·replace c28 := nT c28; subst c28; cases H; go_wp2; go_ret; exact ⟨rfl, HB.out⟩
  subst c28
  replace H := obs H
  obtain ⟨t358, hm, H⟩ := H
  (try dsimp only at H)
  replace H := Aside0.mk H
  have hcall := spec_l1In.calls _ _ _ _ W27  hm
  clear hm
  (go_wp2_with fail)
  refine hcall.mono ?_
  rintro e W29 ⟨rfl, hb⟩
  clear hcall
  replace BK1 := bK BK1 hb; replace c_BK1 := bcl BK1; replace z_BK1 := bfr BK1
  replace HB := bH HB hb; clear hb
  replace H := ifD H.out; rcases H with ⟨c30, H⟩ | ⟨c30, H⟩
  rotate_left
  ·replace c30 := nT c30; subst c30; cases H; go_wp2; go_ret; exact ⟨rfl, HB.out⟩
  subst c30
  replace H := obs H
  obtain ⟨t359, hm, H⟩ := H
  (try dsimp only at H)
  replace H := Aside0.mk H
  have hcall := spec_IsTime.calls _ _ W29  hm
  clear hm
  (go_wp2_with fail)
  refine hcall.mono ?_
  rintro e W31 ⟨rfl, hb⟩
  clear hcall
  replace BK1 := bK BK1 hb; replace c_BK1 := bcl BK1; replace z_BK1 := bfr BK1
  replace HB := bH HB hb; clear hb
  replace H := ifD H.out; rcases H with ⟨c32, H⟩ | ⟨c32, H⟩
  rotate_left
  ·replace c32 := nT c32; subst c32; cases H; go_wp2; go_ret; exact ⟨rfl, HB.out⟩
  subst c32
  replace H := obs H
  obtain ⟨t360, hm, H⟩ := H
  (try dsimp only at H)
  replace H := Aside0.mk H
  have hcall := spec_IsTime.calls _ _ W31  hm
  clear hm
  (go_wp2_with fail)
  refine hcall.mono ?_
  rintro e W33 ⟨rfl, hb⟩
  clear hcall
  replace BK1 := bK BK1 hb; replace c_BK1 := bcl BK1; replace z_BK1 := bfr BK1
  replace HB := bH HB hb; clear hb
  replace H := ifD H.out; rcases H with ⟨c34, H⟩ | ⟨c34, H⟩
  ·subst c34; cases H; go_wp2; go_ret; exact ⟨rfl, HB.out⟩
  replace c34 := nT c34
  subst c34
  cases H
  go_wp2
  go_ret
  exact ⟨rfl, HB.out⟩
 obtain ⟨c24_0, c24_1, c24_2⟩ := d3F c24
 clear c24
 (first | rw [c24_1] | rw [c24_2] | skip)
 replace H := ifD H; rcases H with ⟨c35, H⟩ | ⟨c35, H⟩
 rotate_left
 ·obtain ⟨c35_0, c35_1, c35_2⟩ := d3F c35
  clear c35
  (first | rw [c35_1] | rw [c35_2] | skip)
  cases H
  go_wp2
  go_ret
  exact ⟨rfl, HB.out⟩
 obtain ⟨c35_0, c35_1, c35_2⟩ := d3T c35
 clear c35
 (first | rw [c35_1] | rw [c35_2] | skip)
 replace H := obs H
 obtain ⟨t361, hm, H⟩ := H
 (try dsimp only at H)
 replace H := Aside0.mk H
 have hcall := spec_HasKind.calls _ _ _ W1  hm
 clear hm
 (go_wp2_with fail)
 refine hcall.mono ?_
 rintro e W36 ⟨rfl, hb⟩
 clear hcall
 replace BK1 := bK BK1 hb; replace c_BK1 := bcl BK1; replace z_BK1 := bfr BK1
 replace HB := bH HB hb; clear hb
 replace H := ifD H.out; rcases H with ⟨c37, H⟩ | ⟨c37, H⟩
 rotate_left
 ·replace c37 := nT c37
  subst c37
  cases H
  go_wp2
  go_ret
  exact ⟨rfl, HB.out⟩
 subst c37
 replace H := obs H
 obtain ⟨t362, hm, H⟩ := H
 (try dsimp only at H)
 replace H := Aside0.mk H
 have hcall := spec_l1In.calls _ _ _ _ W36  hm
 clear hm
 (go_wp2_with fail)
 refine hcall.mono ?_
 rintro e W38 ⟨rfl, hb⟩
 clear hcall
 replace BK1 := bK BK1 hb; replace c_BK1 := bcl BK1; replace z_BK1 := bfr BK1
 replace HB := bH HB hb; clear hb
 replace H := ifD H.out; rcases H with ⟨c39, H⟩ | ⟨c39, H⟩
 rotate_left
 ·replace c39 := nT c39
  subst c39
  cases H
  go_wp2
  go_ret
  exact ⟨rfl, HB.out⟩
 subst c39
 replace H := obs H
 obtain ⟨t363, hm, H⟩ := H
 (try dsimp only at H)
 replace H := Aside0.mk H
 have hcall := spec_l1In.calls _ _ _ _ W38  hm
 clear hm
 (go_wp2_with fail)
 refine hcall.mono ?_
 rintro e W40 ⟨rfl, hb⟩
 clear hcall
 replace BK1 := bK BK1 hb; replace c_BK1 := bcl BK1; replace z_BK1 := bfr BK1
 replace HB := bH HB hb; clear hb
 replace H := ifD H.out; rcases H with ⟨c41, H⟩ | ⟨c41, H⟩
 rotate_left
 ·replace c41 := nT c41
  subst c41
  cases H
  go_wp2
  go_ret
  exact ⟨rfl, HB.out⟩
 subst c41
 replace H := obs H
 obtain ⟨t364, hm, H⟩ := H
 (try dsimp only at H)
 replace H := Aside0.mk H
 have hcall := spec_IsTime.calls _ _ W40  hm
 clear hm
 (go_wp2_with fail)
 refine hcall.mono ?_
 rintro e W42 ⟨rfl, hb⟩
 clear hcall
 replace BK1 := bK BK1 hb; replace c_BK1 := bcl BK1; replace z_BK1 := bfr BK1
 replace HB := bH HB hb; clear hb
 replace H := ifD H.out; rcases H with ⟨c43, H⟩ | ⟨c43, H⟩
 rotate_left
 ·replace c43 := nT c43
  subst c43
  cases H
  go_wp2
  go_ret
  exact ⟨rfl, HB.out⟩
 subst c43
 replace H := obs H
 obtain ⟨t365, hm, H⟩ := H
 (try dsimp only at H)
 replace H := Aside0.mk H
 have hcall := spec_IsTime.calls _ _ W42  hm
 clear hm
 (go_wp2_with fail)
 refine hcall.mono ?_
 rintro e W44 ⟨rfl, hb⟩
 clear hcall
 replace BK1 := bK BK1 hb; replace c_BK1 := bcl BK1; replace z_BK1 := bfr BK1
 replace HB := bH HB hb; clear hb
 replace H := ifD H.out; rcases H with ⟨c45, H⟩ | ⟨c45, H⟩
 ·subst c45
  cases H
  go_wp2
  go_ret
  exact ⟨rfl, HB.out⟩
 replace c45 := nT c45
 subst c45
 cases H
 go_wp2
 go_ret
 exact ⟨rfl, HB.out⟩
def spec_IsWithin.f (a0 : Int) (a1 : Int) (a2 : Int) : Option (Bool) := (spec_IsTime.f a0).bind fun t366 => (if t366 = true then ((spec_IsTime.f a1).bind fun t367 => (if t367 = true then ((spec_IsTime.f a2).bind fun t368 => (if t368 = true then (if a0 ≤ a2 then (some (decide (a2 ≤ a1))) else (some false)) else (some false))) else (some false))) else (some false))
theorem spec_IsWithin.calls (a0 : Int) (a1 : Int) (a2 : Int) (r : Bool) (w : World) (h : spec_IsWithin.f a0 a1 a2 = some r) :
  Calls Tryz.prog 267 #[.int .i64 a0, .int .i64 a1, .int .i64 a2] w fun e w' => e = .returned (.bool r) ∧ Below w.heap.size w w' := by
 have HB := Aside0.mk (Below.refl w.heap.size w)
 have H := h
 clear h
 unfold spec_IsWithin.f at H
 go_enter Tryz.func267, Tryz.ntmps267
 replace H := obs H
 obtain ⟨t366, hm, H⟩ := H
 (try dsimp only at H)
 replace H := Aside0.mk H
 have hcall := spec_IsTime.calls _ _ w  hm
 clear hm
 (go_wp2_with fail)
 refine hcall.mono ?_
 rintro e W1 ⟨rfl, hb⟩
 clear hcall
 replace HB := bH HB hb; clear hb
 replace H := ifD H.out; rcases H with ⟨c2, H⟩ | ⟨c2, H⟩
 rotate_left
 ·replace c2 := nT c2
  subst c2
  cases H
  go_wp2
  go_ret
  exact ⟨rfl, HB.out⟩
 subst c2
 replace H := obs H
 obtain ⟨t367, hm, H⟩ := H
 (try dsimp only at H)
 replace H := Aside0.mk H
 have hcall := spec_IsTime.calls _ _ W1  hm
 clear hm
 (go_wp2_with fail)
 refine hcall.mono ?_
 rintro e W3 ⟨rfl, hb⟩
 clear hcall
 replace HB := bH HB hb; clear hb
 replace H := ifD H.out; rcases H with ⟨c4, H⟩ | ⟨c4, H⟩
 rotate_left
 ·replace c4 := nT c4
  subst c4
  cases H
  go_wp2
  go_ret
  exact ⟨rfl, HB.out⟩
 subst c4
 replace H := obs H
 obtain ⟨t368, hm, H⟩ := H
 (try dsimp only at H)
 replace H := Aside0.mk H
 have hcall := spec_IsTime.calls _ _ W3  hm
 clear hm
 (go_wp2_with fail)
 refine hcall.mono ?_
 rintro e W5 ⟨rfl, hb⟩
 clear hcall
 replace HB := bH HB hb; clear hb
 replace H := ifD H.out; rcases H with ⟨c6, H⟩ | ⟨c6, H⟩
 rotate_left
 ·replace c6 := nT c6
  subst c6
  cases H
  go_wp2
  go_ret
  exact ⟨rfl, HB.out⟩
 subst c6
 replace H := ifD H; rcases H with ⟨c7, H⟩ | ⟨c7, H⟩
 ·have c7_0 := decT c7
  replace c7 := Aside0.mk c7
  (try rw [c7_0])
  cases H
  go_wp2
  go_ret
  exact ⟨rfl, HB.out⟩
 have c7_0 := decF c7
 replace c7 := Aside0.mk c7
 (try rw [c7_0])
 cases H
 go_wp2
 go_ret
 exact ⟨rfl, HB.out⟩
def spec_HoldsAt.f (a0_0 : Int) (a0_1 : Int) (a0_2 : Int) (a0_3 : Int) (a0_4 : Int) (a0_5 : Int) (a1 : Int) (a2 : Int) : Option (Bool) := (spec_IsFact.f a0_0 a0_1 a0_2 a0_3 a0_4 a0_5).bind fun t370 => (if t370 = true then ((spec_IsWithin.f a0_4 a0_5 a1).bind fun t371 => (if t371 = true then ((spec_IsFresh.f a0_4 a1 a2).bind fun t372 => (some t372)) else (some false))) else (some false))
theorem spec_HoldsAt.calls (a0_0 : Int) (a0_1 : Int) (a0_2 : Int) (a0_3 : Int) (a0_4 : Int) (a0_5 : Int) (a1 : Int) (a2 : Int) (r : Bool) (w : World) (h : spec_HoldsAt.f a0_0 a0_1 a0_2 a0_3 a0_4 a0_5 a1 a2 = some r) :
  Calls Tryz.prog 408 #[.agg #[.int .i64 a0_0, .int .i64 a0_1, .int .i64 a0_2, .int .i64 a0_3, .int .i64 a0_4, .int .i64 a0_5], .int .i64 a1, .int .i64 a2] w fun e w' => e = .returned (.bool r) ∧ Below w.heap.size w w' := by
 have HB := Aside0.mk (Below.refl w.heap.size w)
 have H := h
 clear h
 unfold spec_HoldsAt.f at H
 have hu136 := Tryz.underlying136
 go_enter Tryz.func408, Tryz.ntmps408
 replace H := Aside0.mk H
 go_upto_region 1 with (first | ((with_reducible refine gate_dst (N := 3) rfl ?_); refine box_event ?hg (N := 3) ?hd (cs := #[.int .i64 a0_0, .int .i64 a0_1, .int .i64 a0_2, .int .i64 a0_3, .int .i64 a0_4, .int .i64 a0_5]) (t := 136) ?hr ?_; (case hd => rfl); (case hg => rfl); (case hr => first | (go_simp; done) | (go_simp; rfl)); intro gb1 hg W1 hbox hb; replace HB := bH HB hb; clear hb; have BK1 := Aside0.mk hbox; have c_BK1 := blk_cell hbox; have z_BK1 := blk_frozen hbox; clear hg hbox))
 replace H := H.out
 replace H := obs H
 obtain ⟨t370, hm, H⟩ := H
 (try dsimp only at H)
 replace H := Aside0.mk H
 have hcall := spec_IsFact.calls _ _ _ _ _ _ _ W1  hm
 clear hm
 (go_wp2_with fail)
 refine hcall.mono ?_
 rintro e W2 ⟨rfl, hb⟩
 clear hcall
 replace BK1 := bK BK1 hb; replace c_BK1 := bcl BK1; replace z_BK1 := bfr BK1
 replace HB := bH HB hb; clear hb
 replace H := ifD H.out; rcases H with ⟨c3, H⟩ | ⟨c3, H⟩
 rotate_left
 ·replace c3 := nT c3
  subst c3
  cases H
  go_wp2
  go_ret
  exact ⟨rfl, HB.out⟩
 subst c3
 replace H := obs H
 obtain ⟨t371, hm, H⟩ := H
 (try dsimp only at H)
 replace H := Aside0.mk H
 have hcall := spec_IsWithin.calls _ _ _ _ W2  hm
 clear hm
 (go_wp2_with fail)
 refine hcall.mono ?_
 rintro e W4 ⟨rfl, hb⟩
 clear hcall
 replace BK1 := bK BK1 hb; replace c_BK1 := bcl BK1; replace z_BK1 := bfr BK1
 replace HB := bH HB hb; clear hb
 replace H := ifD H.out; rcases H with ⟨c5, H⟩ | ⟨c5, H⟩
 rotate_left
 ·replace c5 := nT c5
  subst c5
  cases H
  go_wp2
  go_ret
  exact ⟨rfl, HB.out⟩
 subst c5
 replace H := obs H
 obtain ⟨t372, hm, H⟩ := H
 (try dsimp only at H)
 replace H := Aside0.mk H
 have hcall := spec_IsFresh.calls _ _ _ _ W4  hm
 clear hm
 (go_wp2_with fail)
 refine hcall.mono ?_
 rintro e W6 ⟨rfl, hb⟩
 clear hcall
 replace BK1 := bK BK1 hb; replace c_BK1 := bcl BK1; replace z_BK1 := bfr BK1
 replace HB := bH HB hb; clear hb
 replace H := H.out
 cases H
 go_wp2
 go_ret
 exact ⟨rfl, HB.out⟩
end Go.Proofs.YtmgfklmhelabcaaGreat.QFnExactSaveDecision
