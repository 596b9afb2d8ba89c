/- The machine side of FnExactIsCenter: what each function that it reaches computes, and that the machine's call gives just that. -/
import Derived.Test.YtineejdlpcgnkaaGreatQFnExactIsCenterx0
import Derived.Test.YtineejdlpcgnkaaGreatQFnExactIsCenterx9
import Derived.Test.YtineejdlpcgnkaaGreatQFnExactIsCenterx13
namespace Go.Proofs.YtineejdlpcgnkaaGreat.QFnExactIsCenter
open Go.RowKit Go.Proofs.YtineejdlpcgnkaaGreatW.PrintWords Go.Proofs.YtineejdlpcgnkaaGreatW.PrintLast Go.Proofs.YtineejdlpcgnkaaGreatW.PrintMore
attribute [local go_sem] max2_int min2_int max_two min_two max_three min_three max_four min_four   -- for this text's walks alone
set_option linter.unusedVariables false
set_option linter.unusedSimpArgs false

/-! ### impl_IsFact: function 91 -/
def impl_IsFact.f (a0_0 : Int) (a0_1 : Int) (a0_2 : Int) (a0_3 : Int) (a0_4 : Int) (a0_5 : Int) : Option (Bool) := (impl_isClaim.f a0_0 a0_1 a0_2 a0_3 a0_4 a0_5).bind fun t716 => (if t716 = true then ((impl_InRange.f a0_3 0 9).bind fun t717 => (if t717 = true then ((impl_IsTime.f a0_4).bind fun t718 => (if t718 = true then ((impl_IsTime.f a0_5).bind fun t719 => (if t719 = true then (some (decide (a0_4 ≤ a0_5))) else (some false))) else (some false))) else (some false))) else (some false))
open Go.Proofs.YtineejdlpcgnkaaGreatM in
set_option maxHeartbeats 8000000 in
set_option maxRecDepth 100000 in
theorem impl_IsFact.calls (a0_0 : Int) (a0_1 : Int) (a0_2 : Int) (a0_3 : Int) (a0_4 : Int) (a0_5 : Int) (r : Bool) (w : World) (h : impl_IsFact.f a0_0 a0_1 a0_2 a0_3 a0_4 a0_5 = some r) :
  Calls Tryz.prog 91 #[.agg #[.int .i64 a0_0, .int .i64 a0_1, .int .i64 a0_2, .int .i64 a0_3, .int .i64 a0_4, .int .i64 a0_5]] w fun e w' => e = .returned (.bool r) ∧ Below w.heap.size w w' := by
 have HB := Aside0.mk (Below.refl w.heap.size w)
 have H := h
 clear h
 unfold impl_IsFact.f at H
 have hu53 := Tryz.underlying53
 go_enter Tryz.func91, Tryz.ntmps91
 replace H := Aside0.mk H
 go_upto_region 1 with (first | ((with_reducible refine gate_dst (N := 1) rfl ?_); refine box_event ?hg (N := 1) ?hd (cs := #[.int .i64 a0_0, .int .i64 a0_1, .int .i64 a0_2, .int .i64 a0_3, .int .i64 a0_4, .int .i64 a0_5]) (t := 53) ?hr ?_; (case hd => rfl); (case hg => rfl); (case hr => first | (go_simp; done) | (go_simp; rfl)); intro gb1 hg W1 hbox hb; replace HB := bH HB hb; clear hb; have BK1 := Aside0.mk hbox; have c_BK1 := blk_cell hbox; have z_BK1 := blk_frozen hbox; clear hg hbox))
 replace H := H.out
 replace H := Option.bind_eq_some_iff.mp H
 obtain ⟨t716, hm, H⟩ := H
 try dsimp only at H
 replace H := Aside0.mk H
 have hcall := impl_isClaim.calls _ _ _ _ _ _ _ W1  hm
 clear hm
 go_wp2_with fail
 refine hcall.mono ?_
 rintro e W2 ⟨rfl, hb⟩
 clear hcall
 replace BK1 := bK BK1 hb; replace c_BK1 := blk_cell BK1.out; replace z_BK1 := blk_frozen BK1.out
 replace HB := bH HB hb; clear hb
 replace H := H.out
 replace H := ifD H; rcases H with ⟨c3, H⟩ | ⟨c3, H⟩
 ·subst c3
  replace H := Option.bind_eq_some_iff.mp H
  obtain ⟨t717, hm, H⟩ := H
  try dsimp only at H
  replace H := Aside0.mk H
  have hcall := impl_InRange.calls _ _ _ _ W2  hm
  clear hm
  go_wp2_with fail
  refine hcall.mono ?_
  rintro e W4 ⟨rfl, hb⟩
  clear hcall
  replace BK1 := bK BK1 hb; replace c_BK1 := blk_cell BK1.out; replace z_BK1 := blk_frozen BK1.out
  replace HB := bH HB hb; clear hb
  replace H := H.out
  replace H := ifD H; rcases H with ⟨c5, H⟩ | ⟨c5, H⟩
  ·subst c5
   replace H := Option.bind_eq_some_iff.mp H
   obtain ⟨t718, hm, H⟩ := H
   try dsimp only at H
   replace H := Aside0.mk H
   have hcall := impl_IsTime.calls _ _ W4  hm
   clear hm
   go_wp2_with fail
   refine hcall.mono ?_
   rintro e W6 ⟨rfl, hb⟩
   clear hcall
   replace BK1 := bK BK1 hb; replace c_BK1 := blk_cell BK1.out; replace z_BK1 := blk_frozen BK1.out
   replace HB := bH HB hb; clear hb
   replace H := H.out
   replace H := ifD H; rcases H with ⟨c7, H⟩ | ⟨c7, H⟩
   ·subst c7
    replace H := Option.bind_eq_some_iff.mp H
    obtain ⟨t719, hm, H⟩ := H
    try dsimp only at H
    replace H := Aside0.mk H
    have hcall := impl_IsTime.calls _ _ W6  hm
    clear hm
    go_wp2_with fail
    refine hcall.mono ?_
    rintro e W8 ⟨rfl, hb⟩
    clear hcall
    replace BK1 := bK BK1 hb; replace c_BK1 := blk_cell BK1.out; replace z_BK1 := blk_frozen BK1.out
    replace HB := bH HB hb; clear hb
    replace H := H.out
    replace H := ifD H; rcases H with ⟨c9, H⟩ | ⟨c9, H⟩
    ·subst c9
     obtain rfl := Option.some.inj H
     clear H
     go_wp2
     go_ret
     exact ⟨rfl, HB.out⟩
    ·replace c9 := (Bool.not_eq_true _).mp c9
     subst c9
     obtain rfl := Option.some.inj H
     clear H
     go_wp2
     go_ret
     exact ⟨rfl, HB.out⟩
   ·replace c7 := (Bool.not_eq_true _).mp c7
    subst c7
    obtain rfl := Option.some.inj H
    clear H
    go_wp2
    go_ret
    exact ⟨rfl, HB.out⟩
  ·replace c5 := (Bool.not_eq_true _).mp c5
   subst c5
   obtain rfl := Option.some.inj H
   clear H
   go_wp2
   go_ret
   exact ⟨rfl, HB.out⟩
 ·replace c3 := (Bool.not_eq_true _).mp c3
  subst c3
  obtain rfl := Option.some.inj H
  clear H
  go_wp2
  go_ret
  exact ⟨rfl, HB.out⟩

/-! ### impl_compareClaims: function 138 -/
open Go.Proofs.YtineejdlpcgnkaaGreatM in
def cmp4 (a0 a1 a2 a3 b0 b1 b2 b3 : Int) : Int := if a0 < b0 then -1 else if b0 < a0 then 1 else if a1 < b1 then -1 else if b1 < a1 then 1 else if a2 < b2 then -1 else if b2 < a2 then 1 else if a3 < b3 then -1 else if b3 < a3 then 1 else 0
open Go.Proofs.YtineejdlpcgnkaaGreatM in
set_option maxHeartbeats 8000000 in
set_option maxRecDepth 100000 in
theorem impl_compareClaims.calls0 (a0_0 : Int) (a0_1 : Int) (a0_2 : Int) (a0_3 : Int) (a0_4 : Int) (a0_5 : Int) (a1_0 : Int) (a1_1 : Int) (a1_2 : Int) (a1_3 : Int) (a1_4 : Int) (a1_5 : Int) (w : World) :
  Calls Tryz.prog 138 #[.agg #[.int .i64 a0_0, .int .i64 a0_1, .int .i64 a0_2, .int .i64 a0_3, .int .i64 a0_4, .int .i64 a0_5], .agg #[.int .i64 a1_0, .int .i64 a1_1, .int .i64 a1_2, .int .i64 a1_3, .int .i64 a1_4, .int .i64 a1_5]] w fun e w' => e = .returned (.int .i64 (cmp4 a0_0 a0_1 a0_2 a0_3 a1_0 a1_1 a1_2 a1_3)) ∧ Below w.heap.size w w' := by
 have HB := Aside0.mk (Below.refl w.heap.size w)
 have hu1_ := Tryz.underlying53
 have hu2_ := Tryz.underlying184
 go_enter Tryz.func138, Tryz.ntmps138
 go_upto_region 1 with (first | ((with_reducible refine gate_dst (N := 2) rfl ?_); refine box_event ?hg (N := 2) ?hd (cs := #[.int .i64 a0_0, .int .i64 a0_1, .int .i64 a0_2, .int .i64 a0_3, .int .i64 a0_4, .int .i64 a0_5]) (t := 53) ?hr ?_; (case hd => rfl); (case hg => rfl); (case hr => first | (go_simp; done) | (go_simp; rfl)); intro gb1 hg W1 hbox hb; replace HB := bH HB hb; clear hb; have BK1 := Aside0.mk hbox; have c_BK1 := blk_cell hbox; have z_BK1 := blk_frozen hbox; clear hg hbox) | ((with_reducible refine gate_dst (N := 3) rfl ?_); refine box_event ?hg (N := 3) ?hd (cs := #[.int .i64 a1_0, .int .i64 a1_1, .int .i64 a1_2, .int .i64 a1_3, .int .i64 a1_4, .int .i64 a1_5]) (t := 53) ?hr ?_; (case hd => rfl); (case hg => rfl); (case hr => first | (go_simp; done) | (go_simp; rfl)); intro gb2 hg W2 hbox hb; replace BK1 := bK BK1 hb; replace c_BK1 := blk_cell BK1.out; replace z_BK1 := blk_frozen BK1.out; replace HB := bH HB hb; clear hb; have BK2 := Aside0.mk hbox; have c_BK2 := blk_cell hbox; have z_BK2 := blk_frozen hbox; clear hg hbox))
 clear z_BK1 z_BK2
 have x0 : W2.cell? ⟨gb1, 0, none⟩ = some (.int .i64 a0_0) := (c_BK1 0).trans rfl
 have x1 : W2.cell? ⟨gb1, 1, none⟩ = some (.int .i64 a0_1) := (c_BK1 1).trans rfl
 have x2 : W2.cell? ⟨gb1, 2, none⟩ = some (.int .i64 a0_2) := (c_BK1 2).trans rfl
 have x3 : W2.cell? ⟨gb1, 3, none⟩ = some (.int .i64 a0_3) := (c_BK1 3).trans rfl
 have y0 : W2.cell? ⟨gb2, 0, none⟩ = some (.int .i64 a1_0) := (c_BK2 0).trans rfl
 have y1 : W2.cell? ⟨gb2, 1, none⟩ = some (.int .i64 a1_1) := (c_BK2 1).trans rfl
 have y2 : W2.cell? ⟨gb2, 2, none⟩ = some (.int .i64 a1_2) := (c_BK2 2).trans rfl
 have y3 : W2.cell? ⟨gb2, 3, none⟩ = some (.int .i64 a1_3) := (c_BK2 3).trans rfl
 clear c_BK1 c_BK2
 have n0 := World.new_ne _ _ x0
 have n1 := World.new_ne _ _ y0
 go_region_held3 (fun w' => w'.cell? ⟨gb1, 0, none⟩ = some (.int .i64 a0_0) ∧ w'.cell? ⟨gb1, 1, none⟩ = some (.int .i64 a0_1) ∧ w'.cell? ⟨gb1, 2, none⟩ = some (.int .i64 a0_2) ∧ w'.cell? ⟨gb1, 3, none⟩ = some (.int .i64 a0_3) ∧ w'.cell? ⟨gb2, 0, none⟩ = some (.int .i64 a1_0) ∧ w'.cell? ⟨gb2, 1, none⟩ = some (.int .i64 a1_1) ∧ w'.cell? ⟨gb2, 2, none⟩ = some (.int .i64 a1_2) ∧ w'.cell? ⟨gb2, 3, none⟩ = some (.int .i64 a1_3)) (go_keep) (fail)
 all_goals go_wp2
 all_goals clear x0 x1 x2 x3 y0 y1 y2 y3 BK1 BK2 n0 n1
 ·have hz1 : (((W2.alloc (.cells #[.int .i64 a0_0, .int .i64 a0_1, .int .i64 a0_2, .int .i64 a0_3] 184)).alloc (.cells #[.int .i64 a1_0, .int .i64 a1_1, .int .i64 a1_2, .int .i64 a1_3] 184)).drew).heap[W2.heap.size]? = some (.cells #[.int .i64 a0_0, .int .i64 a0_1, .int .i64 a0_2, .int .i64 a0_3] 184 (0, 0)) := blk_drew (blk_below (heap_alloc_new W2 _) (below_alloc (Below.refl _ _) _))
  have hz2 : (((W2.alloc (.cells #[.int .i64 a0_0, .int .i64 a0_1, .int .i64 a0_2, .int .i64 a0_3] 184)).alloc (.cells #[.int .i64 a1_0, .int .i64 a1_1, .int .i64 a1_2, .int .i64 a1_3] 184)).drew).heap[W2.heap.size + 1]? = some (.cells #[.int .i64 a1_0, .int .i64 a1_1, .int .i64 a1_2, .int .i64 a1_3] 184 (0, 0)) := blk_drew (by have h_ := heap_alloc_new (W2.alloc (.cells #[.int .i64 a0_0, .int .i64 a0_1, .int .i64 a0_2, .int .i64 a0_3] 184)) (.cells #[.int .i64 a1_0, .int .i64 a1_1, .int .i64 a1_2, .int .i64 a1_3] 184 : Obj); simpa using h_)
  have hBB : Below w.heap.size w (((W2.alloc (.cells #[.int .i64 a0_0, .int .i64 a0_1, .int .i64 a0_2, .int .i64 a0_3] 184)).alloc (.cells #[.int .i64 a1_0, .int .i64 a1_1, .int .i64 a1_2, .int .i64 a1_3] 184)).drew) := below_drew1 (below_alloc (below_alloc HB.out _) _)
  generalize ((W2.alloc (.cells #[.int .i64 a0_0, .int .i64 a0_1, .int .i64 a0_2, .int .i64 a0_3] 184)).alloc (.cells #[.int .i64 a1_0, .int .i64 a1_1, .int .i64 a1_2, .int .i64 a1_3] 184)).drew = W3 at hz1 hz2 hBB ⊢
  generalize W2.heap.size + 1 = gy at hz2 ⊢
  generalize W2.heap.size = gx at hz1 ⊢
  clear HB
  have HB := Aside0.mk hBB; have BX := Aside0.mk hz1; have BY := Aside0.mk hz2; clear hz1 hz2 hBB
  skip
  go_loopw [26] (fun v w' => ∃ i : Nat, v = .int .i64 i ∧ i ≤ 4 ∧ Aside0 ((0 < i → a0_0 = a1_0) ∧ (1 < i → a0_1 = a1_1) ∧ (2 < i → a0_2 = a1_2) ∧ (3 < i → a0_3 = a1_3)) ∧ Aside0 (w'.heap[gx]? = some (.cells #[.int .i64 a0_0, .int .i64 a0_1, .int .i64 a0_2, .int .i64 a0_3] 184 (0, 0))) ∧ Aside0 (w'.heap[gy]? = some (.cells #[.int .i64 a1_0, .int .i64 a1_1, .int .i64 a1_2, .int .i64 a1_3] 184 (0, 0))) ∧ Aside0 (Below w.heap.size w w')) (fun v _ => 4 - (intOf v).toNat)
  case atStart => exact ⟨0, rfl, by omega, ⟨by omega⟩, BX, BY, HB⟩
  case round =>
   clear HB BX BY
   obtain ⟨i, rfl, hi, HE, BX, BY, HB⟩ := hrel
   have cX := blk_cell BX.out; have cY := blk_cell BY.out
   rcases (by omega : i = 0 ∨ i = 1 ∨ i = 2 ∨ i = 3 ∨ i = 4) with rfl | rfl | rfl | rfl | rfl
   ·have ux : wr.cell? ⟨gx, 0, none⟩ = some (.int .i64 a0_0) := (cX 0).trans rfl
    have uy : wr.cell? ⟨gy, 0, none⟩ = some (.int .i64 a1_0) := (cY 0).trans rfl
    clear cX cY hi
    by_cases c1 : a0_0 < a1_0
    ·have c1_0 := decT c1; replace c1 := Aside0.mk c1
     go_wp2; go_quiet (fail); go_wp2; go_ret
     exact ⟨by have := c1.out; have := HE.out; rw [show cmp4 a0_0 a0_1 a0_2 a0_3 a1_0 a1_1 a1_2 a1_3 = -1 by (unfold cmp4; (repeat' split) <;> omega)]; rfl, by first | exact HB.out | exact pw_below_drewN HB.out _⟩
    ·have c1_0 := decF c1; replace c1 := Aside0.mk c1
     by_cases c2 : a1_0 < a0_0
     ·have c2_0 := decT c2; replace c2 := Aside0.mk c2
      go_wp2; go_quiet (fail); go_wp2; go_quiet (fail); go_wp2; go_ret
      exact ⟨by have := c1.out; have := c2.out; have := HE.out; rw [show cmp4 a0_0 a0_1 a0_2 a0_3 a1_0 a1_1 a1_2 a1_3 = 1 by (unfold cmp4; (repeat' split) <;> omega)]; rfl, by first | exact HB.out | exact pw_below_drewN (pw_below_drewN HB.out _) _ | exact pw_below_drewN HB.out _⟩
     ·have c2_0 := decF c2; replace c2 := Aside0.mk c2
      go_wp2; go_quiet (fail); go_wp2; go_quiet (fail); go_wp2
      go_roundw
      case rel => exact ⟨1, rfl, by omega, ⟨by have := c1.out; have := c2.out; have := HE.out; omega⟩, ⟨by first | exact blk_drewN (blk_drewN BX.out _) _ | exact blk_drewN BX.out _⟩, ⟨by first | exact blk_drewN (blk_drewN BY.out _) _ | exact blk_drewN BY.out _⟩, ⟨by first | exact pw_below_drewN (pw_below_drewN HB.out _) _ | exact pw_below_drewN HB.out _⟩⟩
      case measure => simp [intOf]
   ·have ux : wr.cell? ⟨gx, 1, none⟩ = some (.int .i64 a0_1) := (cX 1).trans rfl
    have uy : wr.cell? ⟨gy, 1, none⟩ = some (.int .i64 a1_1) := (cY 1).trans rfl
    clear cX cY hi
    by_cases c1 : a0_1 < a1_1
    ·have c1_0 := decT c1; replace c1 := Aside0.mk c1
     go_wp2; go_quiet (fail); go_wp2; go_ret
     exact ⟨by have := c1.out; have := HE.out; rw [show cmp4 a0_0 a0_1 a0_2 a0_3 a1_0 a1_1 a1_2 a1_3 = -1 by (unfold cmp4; (repeat' split) <;> omega)]; rfl, by first | exact HB.out | exact pw_below_drewN HB.out _⟩
    ·have c1_0 := decF c1; replace c1 := Aside0.mk c1
     by_cases c2 : a1_1 < a0_1
     ·have c2_0 := decT c2; replace c2 := Aside0.mk c2
      go_wp2; go_quiet (fail); go_wp2; go_quiet (fail); go_wp2; go_ret
      exact ⟨by have := c1.out; have := c2.out; have := HE.out; rw [show cmp4 a0_0 a0_1 a0_2 a0_3 a1_0 a1_1 a1_2 a1_3 = 1 by (unfold cmp4; (repeat' split) <;> omega)]; rfl, by first | exact HB.out | exact pw_below_drewN (pw_below_drewN HB.out _) _ | exact pw_below_drewN HB.out _⟩
     ·have c2_0 := decF c2; replace c2 := Aside0.mk c2
      go_wp2; go_quiet (fail); go_wp2; go_quiet (fail); go_wp2
      go_roundw
      case rel => exact ⟨2, rfl, by omega, ⟨by have := c1.out; have := c2.out; have := HE.out; omega⟩, ⟨by first | exact blk_drewN (blk_drewN BX.out _) _ | exact blk_drewN BX.out _⟩, ⟨by first | exact blk_drewN (blk_drewN BY.out _) _ | exact blk_drewN BY.out _⟩, ⟨by first | exact pw_below_drewN (pw_below_drewN HB.out _) _ | exact pw_below_drewN HB.out _⟩⟩
      case measure => simp [intOf]
   ·have ux : wr.cell? ⟨gx, 2, none⟩ = some (.int .i64 a0_2) := (cX 2).trans rfl
    have uy : wr.cell? ⟨gy, 2, none⟩ = some (.int .i64 a1_2) := (cY 2).trans rfl
    clear cX cY hi
    by_cases c1 : a0_2 < a1_2
    ·have c1_0 := decT c1; replace c1 := Aside0.mk c1
     go_wp2; go_quiet (fail); go_wp2; go_ret
     exact ⟨by have := c1.out; have := HE.out; rw [show cmp4 a0_0 a0_1 a0_2 a0_3 a1_0 a1_1 a1_2 a1_3 = -1 by (unfold cmp4; (repeat' split) <;> omega)]; rfl, by first | exact HB.out | exact pw_below_drewN HB.out _⟩
    ·have c1_0 := decF c1; replace c1 := Aside0.mk c1
     by_cases c2 : a1_2 < a0_2
     ·have c2_0 := decT c2; replace c2 := Aside0.mk c2
      go_wp2; go_quiet (fail); go_wp2; go_quiet (fail); go_wp2; go_ret
      exact ⟨by have := c1.out; have := c2.out; have := HE.out; rw [show cmp4 a0_0 a0_1 a0_2 a0_3 a1_0 a1_1 a1_2 a1_3 = 1 by (unfold cmp4; (repeat' split) <;> omega)]; rfl, by first | exact HB.out | exact pw_below_drewN (pw_below_drewN HB.out _) _ | exact pw_below_drewN HB.out _⟩
     ·have c2_0 := decF c2; replace c2 := Aside0.mk c2
      go_wp2; go_quiet (fail); go_wp2; go_quiet (fail); go_wp2
      go_roundw
      case rel => exact ⟨3, rfl, by omega, ⟨by have := c1.out; have := c2.out; have := HE.out; omega⟩, ⟨by first | exact blk_drewN (blk_drewN BX.out _) _ | exact blk_drewN BX.out _⟩, ⟨by first | exact blk_drewN (blk_drewN BY.out _) _ | exact blk_drewN BY.out _⟩, ⟨by first | exact pw_below_drewN (pw_below_drewN HB.out _) _ | exact pw_below_drewN HB.out _⟩⟩
      case measure => simp [intOf]
   ·have ux : wr.cell? ⟨gx, 3, none⟩ = some (.int .i64 a0_3) := (cX 3).trans rfl
    have uy : wr.cell? ⟨gy, 3, none⟩ = some (.int .i64 a1_3) := (cY 3).trans rfl
    clear cX cY hi
    by_cases c1 : a0_3 < a1_3
    ·have c1_0 := decT c1; replace c1 := Aside0.mk c1
     go_wp2; go_quiet (fail); go_wp2; go_ret
     exact ⟨by have := c1.out; have := HE.out; rw [show cmp4 a0_0 a0_1 a0_2 a0_3 a1_0 a1_1 a1_2 a1_3 = -1 by (unfold cmp4; (repeat' split) <;> omega)]; rfl, by first | exact HB.out | exact pw_below_drewN HB.out _⟩
    ·have c1_0 := decF c1; replace c1 := Aside0.mk c1
     by_cases c2 : a1_3 < a0_3
     ·have c2_0 := decT c2; replace c2 := Aside0.mk c2
      go_wp2; go_quiet (fail); go_wp2; go_quiet (fail); go_wp2; go_ret
      exact ⟨by have := c1.out; have := c2.out; have := HE.out; rw [show cmp4 a0_0 a0_1 a0_2 a0_3 a1_0 a1_1 a1_2 a1_3 = 1 by (unfold cmp4; (repeat' split) <;> omega)]; rfl, by first | exact HB.out | exact pw_below_drewN (pw_below_drewN HB.out _) _ | exact pw_below_drewN HB.out _⟩
     ·have c2_0 := decF c2; replace c2 := Aside0.mk c2
      go_wp2; go_quiet (fail); go_wp2; go_quiet (fail); go_wp2
      go_roundw
      case rel => exact ⟨4, rfl, by omega, ⟨by have := c1.out; have := c2.out; have := HE.out; omega⟩, ⟨by first | exact blk_drewN (blk_drewN BX.out _) _ | exact blk_drewN BX.out _⟩, ⟨by first | exact blk_drewN (blk_drewN BY.out _) _ | exact blk_drewN BY.out _⟩, ⟨by first | exact pw_below_drewN (pw_below_drewN HB.out _) _ | exact pw_below_drewN HB.out _⟩⟩
      case measure => simp [intOf]
   ·clear cX cY hi
    go_wp2; go_ret
    exact ⟨by have := HE.out; rw [show cmp4 a0_0 a0_1 a0_2 a0_3 a1_0 a1_1 a1_2 a1_3 = 0 by (unfold cmp4; (repeat' split) <;> omega)]; rfl, HB.out⟩
 ·have hz1 : (((W2.alloc (.cells #[.int .i64 a1_0, .int .i64 a1_1, .int .i64 a1_2, .int .i64 a1_3] 184)).alloc (.cells #[.int .i64 a0_0, .int .i64 a0_1, .int .i64 a0_2, .int .i64 a0_3] 184)).drew).heap[W2.heap.size]? = some (.cells #[.int .i64 a1_0, .int .i64 a1_1, .int .i64 a1_2, .int .i64 a1_3] 184 (0, 0)) := blk_drew (blk_below (heap_alloc_new W2 _) (below_alloc (Below.refl _ _) _))
  have hz2 : (((W2.alloc (.cells #[.int .i64 a1_0, .int .i64 a1_1, .int .i64 a1_2, .int .i64 a1_3] 184)).alloc (.cells #[.int .i64 a0_0, .int .i64 a0_1, .int .i64 a0_2, .int .i64 a0_3] 184)).drew).heap[W2.heap.size + 1]? = some (.cells #[.int .i64 a0_0, .int .i64 a0_1, .int .i64 a0_2, .int .i64 a0_3] 184 (0, 0)) := blk_drew (by have h_ := heap_alloc_new (W2.alloc (.cells #[.int .i64 a1_0, .int .i64 a1_1, .int .i64 a1_2, .int .i64 a1_3] 184)) (.cells #[.int .i64 a0_0, .int .i64 a0_1, .int .i64 a0_2, .int .i64 a0_3] 184 : Obj); simpa using h_)
  have hBB : Below w.heap.size w (((W2.alloc (.cells #[.int .i64 a1_0, .int .i64 a1_1, .int .i64 a1_2, .int .i64 a1_3] 184)).alloc (.cells #[.int .i64 a0_0, .int .i64 a0_1, .int .i64 a0_2, .int .i64 a0_3] 184)).drew) := below_drew1 (below_alloc (below_alloc HB.out _) _)
  generalize ((W2.alloc (.cells #[.int .i64 a1_0, .int .i64 a1_1, .int .i64 a1_2, .int .i64 a1_3] 184)).alloc (.cells #[.int .i64 a0_0, .int .i64 a0_1, .int .i64 a0_2, .int .i64 a0_3] 184)).drew = W3 at hz1 hz2 hBB ⊢
  generalize W2.heap.size + 1 = gx at hz2 ⊢
  generalize W2.heap.size = gy at hz1 ⊢
  clear HB
  have HB := Aside0.mk hBB; have BX := Aside0.mk hz2; have BY := Aside0.mk hz1; clear hz1 hz2 hBB
  skip
  go_loopw [26] (fun v w' => ∃ i : Nat, v = .int .i64 i ∧ i ≤ 4 ∧ Aside0 ((0 < i → a0_0 = a1_0) ∧ (1 < i → a0_1 = a1_1) ∧ (2 < i → a0_2 = a1_2) ∧ (3 < i → a0_3 = a1_3)) ∧ Aside0 (w'.heap[gx]? = some (.cells #[.int .i64 a0_0, .int .i64 a0_1, .int .i64 a0_2, .int .i64 a0_3] 184 (0, 0))) ∧ Aside0 (w'.heap[gy]? = some (.cells #[.int .i64 a1_0, .int .i64 a1_1, .int .i64 a1_2, .int .i64 a1_3] 184 (0, 0))) ∧ Aside0 (Below w.heap.size w w')) (fun v _ => 4 - (intOf v).toNat)
  case atStart => exact ⟨0, rfl, by omega, ⟨by omega⟩, BX, BY, HB⟩
  case round =>
   clear HB BX BY
   obtain ⟨i, rfl, hi, HE, BX, BY, HB⟩ := hrel
   have cX := blk_cell BX.out; have cY := blk_cell BY.out
   rcases (by omega : i = 0 ∨ i = 1 ∨ i = 2 ∨ i = 3 ∨ i = 4) with rfl | rfl | rfl | rfl | rfl
   ·have ux : wr.cell? ⟨gx, 0, none⟩ = some (.int .i64 a0_0) := (cX 0).trans rfl
    have uy : wr.cell? ⟨gy, 0, none⟩ = some (.int .i64 a1_0) := (cY 0).trans rfl
    clear cX cY hi
    by_cases c1 : a0_0 < a1_0
    ·have c1_0 := decT c1; replace c1 := Aside0.mk c1
     go_wp2; go_quiet (fail); go_wp2; go_ret
     exact ⟨by have := c1.out; have := HE.out; rw [show cmp4 a0_0 a0_1 a0_2 a0_3 a1_0 a1_1 a1_2 a1_3 = -1 by (unfold cmp4; (repeat' split) <;> omega)]; rfl, by first | exact HB.out | exact pw_below_drewN HB.out _⟩
    ·have c1_0 := decF c1; replace c1 := Aside0.mk c1
     by_cases c2 : a1_0 < a0_0
     ·have c2_0 := decT c2; replace c2 := Aside0.mk c2
      go_wp2; go_quiet (fail); go_wp2; go_quiet (fail); go_wp2; go_ret
      exact ⟨by have := c1.out; have := c2.out; have := HE.out; rw [show cmp4 a0_0 a0_1 a0_2 a0_3 a1_0 a1_1 a1_2 a1_3 = 1 by (unfold cmp4; (repeat' split) <;> omega)]; rfl, by first | exact HB.out | exact pw_below_drewN (pw_below_drewN HB.out _) _ | exact pw_below_drewN HB.out _⟩
     ·have c2_0 := decF c2; replace c2 := Aside0.mk c2
      go_wp2; go_quiet (fail); go_wp2; go_quiet (fail); go_wp2
      go_roundw
      case rel => exact ⟨1, rfl, by omega, ⟨by have := c1.out; have := c2.out; have := HE.out; omega⟩, ⟨by first | exact blk_drewN (blk_drewN BX.out _) _ | exact blk_drewN BX.out _⟩, ⟨by first | exact blk_drewN (blk_drewN BY.out _) _ | exact blk_drewN BY.out _⟩, ⟨by first | exact pw_below_drewN (pw_below_drewN HB.out _) _ | exact pw_below_drewN HB.out _⟩⟩
      case measure => simp [intOf]
   ·have ux : wr.cell? ⟨gx, 1, none⟩ = some (.int .i64 a0_1) := (cX 1).trans rfl
    have uy : wr.cell? ⟨gy, 1, none⟩ = some (.int .i64 a1_1) := (cY 1).trans rfl
    clear cX cY hi
    by_cases c1 : a0_1 < a1_1
    ·have c1_0 := decT c1; replace c1 := Aside0.mk c1
     go_wp2; go_quiet (fail); go_wp2; go_ret
     exact ⟨by have := c1.out; have := HE.out; rw [show cmp4 a0_0 a0_1 a0_2 a0_3 a1_0 a1_1 a1_2 a1_3 = -1 by (unfold cmp4; (repeat' split) <;> omega)]; rfl, by first | exact HB.out | exact pw_below_drewN HB.out _⟩
    ·have c1_0 := decF c1; replace c1 := Aside0.mk c1
     by_cases c2 : a1_1 < a0_1
     ·have c2_0 := decT c2; replace c2 := Aside0.mk c2
      go_wp2; go_quiet (fail); go_wp2; go_quiet (fail); go_wp2; go_ret
      exact ⟨by have := c1.out; have := c2.out; have := HE.out; rw [show cmp4 a0_0 a0_1 a0_2 a0_3 a1_0 a1_1 a1_2 a1_3 = 1 by (unfold cmp4; (repeat' split) <;> omega)]; rfl, by first | exact HB.out | exact pw_below_drewN (pw_below_drewN HB.out _) _ | exact pw_below_drewN HB.out _⟩
     ·have c2_0 := decF c2; replace c2 := Aside0.mk c2
      go_wp2; go_quiet (fail); go_wp2; go_quiet (fail); go_wp2
      go_roundw
      case rel => exact ⟨2, rfl, by omega, ⟨by have := c1.out; have := c2.out; have := HE.out; omega⟩, ⟨by first | exact blk_drewN (blk_drewN BX.out _) _ | exact blk_drewN BX.out _⟩, ⟨by first | exact blk_drewN (blk_drewN BY.out _) _ | exact blk_drewN BY.out _⟩, ⟨by first | exact pw_below_drewN (pw_below_drewN HB.out _) _ | exact pw_below_drewN HB.out _⟩⟩
      case measure => simp [intOf]
   ·have ux : wr.cell? ⟨gx, 2, none⟩ = some (.int .i64 a0_2) := (cX 2).trans rfl
    have uy : wr.cell? ⟨gy, 2, none⟩ = some (.int .i64 a1_2) := (cY 2).trans rfl
    clear cX cY hi
    by_cases c1 : a0_2 < a1_2
    ·have c1_0 := decT c1; replace c1 := Aside0.mk c1
     go_wp2; go_quiet (fail); go_wp2; go_ret
     exact ⟨by have := c1.out; have := HE.out; rw [show cmp4 a0_0 a0_1 a0_2 a0_3 a1_0 a1_1 a1_2 a1_3 = -1 by (unfold cmp4; (repeat' split) <;> omega)]; rfl, by first | exact HB.out | exact pw_below_drewN HB.out _⟩
    ·have c1_0 := decF c1; replace c1 := Aside0.mk c1
     by_cases c2 : a1_2 < a0_2
     ·have c2_0 := decT c2; replace c2 := Aside0.mk c2
      go_wp2; go_quiet (fail); go_wp2; go_quiet (fail); go_wp2; go_ret
      exact ⟨by have := c1.out; have := c2.out; have := HE.out; rw [show cmp4 a0_0 a0_1 a0_2 a0_3 a1_0 a1_1 a1_2 a1_3 = 1 by (unfold cmp4; (repeat' split) <;> omega)]; rfl, by first | exact HB.out | exact pw_below_drewN (pw_below_drewN HB.out _) _ | exact pw_below_drewN HB.out _⟩
     ·have c2_0 := decF c2; replace c2 := Aside0.mk c2
      go_wp2; go_quiet (fail); go_wp2; go_quiet (fail); go_wp2
      go_roundw
      case rel => exact ⟨3, rfl, by omega, ⟨by have := c1.out; have := c2.out; have := HE.out; omega⟩, ⟨by first | exact blk_drewN (blk_drewN BX.out _) _ | exact blk_drewN BX.out _⟩, ⟨by first | exact blk_drewN (blk_drewN BY.out _) _ | exact blk_drewN BY.out _⟩, ⟨by first | exact pw_below_drewN (pw_below_drewN HB.out _) _ | exact pw_below_drewN HB.out _⟩⟩
      case measure => simp [intOf]
   ·have ux : wr.cell? ⟨gx, 3, none⟩ = some (.int .i64 a0_3) := (cX 3).trans rfl
    have uy : wr.cell? ⟨gy, 3, none⟩ = some (.int .i64 a1_3) := (cY 3).trans rfl
    clear cX cY hi
    by_cases c1 : a0_3 < a1_3
    ·have c1_0 := decT c1; replace c1 := Aside0.mk c1
     go_wp2; go_quiet (fail); go_wp2; go_ret
     exact ⟨by have := c1.out; have := HE.out; rw [show cmp4 a0_0 a0_1 a0_2 a0_3 a1_0 a1_1 a1_2 a1_3 = -1 by (unfold cmp4; (repeat' split) <;> omega)]; rfl, by first | exact HB.out | exact pw_below_drewN HB.out _⟩
    ·have c1_0 := decF c1; replace c1 := Aside0.mk c1
     by_cases c2 : a1_3 < a0_3
     ·have c2_0 := decT c2; replace c2 := Aside0.mk c2
      go_wp2; go_quiet (fail); go_wp2; go_quiet (fail); go_wp2; go_ret
      exact ⟨by have := c1.out; have := c2.out; have := HE.out; rw [show cmp4 a0_0 a0_1 a0_2 a0_3 a1_0 a1_1 a1_2 a1_3 = 1 by (unfold cmp4; (repeat' split) <;> omega)]; rfl, by first | exact HB.out | exact pw_below_drewN (pw_below_drewN HB.out _) _ | exact pw_below_drewN HB.out _⟩
     ·have c2_0 := decF c2; replace c2 := Aside0.mk c2
      go_wp2; go_quiet (fail); go_wp2; go_quiet (fail); go_wp2
      go_roundw
      case rel => exact ⟨4, rfl, by omega, ⟨by have := c1.out; have := c2.out; have := HE.out; omega⟩, ⟨by first | exact blk_drewN (blk_drewN BX.out _) _ | exact blk_drewN BX.out _⟩, ⟨by first | exact blk_drewN (blk_drewN BY.out _) _ | exact blk_drewN BY.out _⟩, ⟨by first | exact pw_below_drewN (pw_below_drewN HB.out _) _ | exact pw_below_drewN HB.out _⟩⟩
      case measure => simp [intOf]
   ·clear cX cY hi
    go_wp2; go_ret
    exact ⟨by have := HE.out; rw [show cmp4 a0_0 a0_1 a0_2 a0_3 a1_0 a1_1 a1_2 a1_3 = 0 by (unfold cmp4; (repeat' split) <;> omega)]; rfl, HB.out⟩
def impl_compareClaims.f (a0_0 : Int) (a0_1 : Int) (a0_2 : Int) (a0_3 : Int) (a0_4 : Int) (a0_5 : Int) (a1_0 : Int) (a1_1 : Int) (a1_2 : Int) (a1_3 : Int) (a1_4 : Int) (a1_5 : Int) : Option Int := some (cmp4 a0_0 a0_1 a0_2 a0_3 a1_0 a1_1 a1_2 a1_3)
theorem impl_compareClaims.calls (a0_0 : Int) (a0_1 : Int) (a0_2 : Int) (a0_3 : Int) (a0_4 : Int) (a0_5 : Int) (a1_0 : Int) (a1_1 : Int) (a1_2 : Int) (a1_3 : Int) (a1_4 : Int) (a1_5 : Int) (r : Int) (w : World) (h : impl_compareClaims.f a0_0 a0_1 a0_2 a0_3 a0_4 a0_5 a1_0 a1_1 a1_2 a1_3 a1_4 a1_5 = some r) :
  Calls Tryz.prog 138 #[.agg #[.int .i64 a0_0, .int .i64 a0_1, .int .i64 a0_2, .int .i64 a0_3, .int .i64 a0_4, .int .i64 a0_5], .agg #[.int .i64 a1_0, .int .i64 a1_1, .int .i64 a1_2, .int .i64 a1_3, .int .i64 a1_4, .int .i64 a1_5]] w fun e w' => e = .returned (.int .i64 r) ∧ Below w.heap.size w w' := by
 obtain rfl := Option.some.inj h
 exact impl_compareClaims.calls0 a0_0 a0_1 a0_2 a0_3 a0_4 a0_5 a1_0 a1_1 a1_2 a1_3 a1_4 a1_5 w

/-! ### impl_FactBefore: function 92 -/
def impl_FactBefore.f (a0_0 : Int) (a0_1 : Int) (a0_2 : Int) (a0_3 : Int) (a0_4 : Int) (a0_5 : Int) (a1_0 : Int) (a1_1 : Int) (a1_2 : Int) (a1_3 : Int) (a1_4 : Int) (a1_5 : Int) : Option (Bool) := (impl_compareClaims.f a0_0 a0_1 a0_2 a0_3 a0_4 a0_5 a1_0 a1_1 a1_2 a1_3 a1_4 a1_5).bind fun t722 => (some (decide (t722 < 0)))
open Go.Proofs.YtineejdlpcgnkaaGreatM in
set_option maxHeartbeats 8000000 in
set_option maxRecDepth 100000 in
theorem impl_FactBefore.calls (a0_0 : Int) (a0_1 : Int) (a0_2 : Int) (a0_3 : Int) (a0_4 : Int) (a0_5 : Int) (a1_0 : Int) (a1_1 : Int) (a1_2 : Int) (a1_3 : Int) (a1_4 : Int) (a1_5 : Int) (r : Bool) (w : World) (h : impl_FactBefore.f a0_0 a0_1 a0_2 a0_3 a0_4 a0_5 a1_0 a1_1 a1_2 a1_3 a1_4 a1_5 = some r) :
  Calls Tryz.prog 92 #[.agg #[.int .i64 a0_0, .int .i64 a0_1, .int .i64 a0_2, .int .i64 a0_3, .int .i64 a0_4, .int .i64 a0_5], .agg #[.int .i64 a1_0, .int .i64 a1_1, .int .i64 a1_2, .int .i64 a1_3, .int .i64 a1_4, .int .i64 a1_5]] w fun e w' => e = .returned (.bool r) ∧ Below w.heap.size w w' := by
 have HB := Aside0.mk (Below.refl w.heap.size w)
 have H := h
 clear h
 unfold impl_FactBefore.f at H
 have hu53 := Tryz.underlying53
 go_enter Tryz.func92, Tryz.ntmps92
 replace H := Aside0.mk H
 go_upto_region 1 with (first | ((with_reducible refine gate_dst (N := 2) rfl ?_); refine box_event ?hg (N := 2) ?hd (cs := #[.int .i64 a0_0, .int .i64 a0_1, .int .i64 a0_2, .int .i64 a0_3, .int .i64 a0_4, .int .i64 a0_5]) (t := 53) ?hr ?_; (case hd => rfl); (case hg => rfl); (case hr => first | (go_simp; done) | (go_simp; rfl)); intro gb1 hg W1 hbox hb; replace HB := bH HB hb; clear hb; have BK1 := Aside0.mk hbox; have c_BK1 := blk_cell hbox; have z_BK1 := blk_frozen hbox; clear hg hbox) | ((with_reducible refine gate_dst (N := 3) rfl ?_); refine box_event ?hg (N := 3) ?hd (cs := #[.int .i64 a1_0, .int .i64 a1_1, .int .i64 a1_2, .int .i64 a1_3, .int .i64 a1_4, .int .i64 a1_5]) (t := 53) ?hr ?_; (case hd => rfl); (case hg => rfl); (case hr => first | (go_simp; done) | (go_simp; rfl)); intro gb2 hg W2 hbox hb; replace BK1 := bK BK1 hb; replace c_BK1 := blk_cell BK1.out; replace z_BK1 := blk_frozen BK1.out; replace HB := bH HB hb; clear hb; have BK2 := Aside0.mk hbox; have c_BK2 := blk_cell hbox; have z_BK2 := blk_frozen hbox; clear hg hbox))
 replace H := H.out
 replace H := Option.bind_eq_some_iff.mp H
 obtain ⟨t722, hm, H⟩ := H
 try dsimp only at H
 replace H := Aside0.mk H
 have hcall := impl_compareClaims.calls _ _ _ _ _ _ _ _ _ _ _ _ _ W2  hm
 clear hm
 go_wp2_with fail
 refine hcall.mono ?_
 rintro e W3 ⟨rfl, hb⟩
 clear hcall
 replace BK1 := bK BK1 hb; replace c_BK1 := blk_cell BK1.out; replace z_BK1 := blk_frozen BK1.out
 replace BK2 := bK BK2 hb; replace c_BK2 := blk_cell BK2.out; replace z_BK2 := blk_frozen BK2.out
 replace HB := bH HB hb; clear hb
 replace H := H.out
 obtain rfl := Option.some.inj H
 clear H
 go_wp2
 go_ret
 exact ⟨rfl, HB.out⟩

/-! ### impl_IsStore: function 42 -/
def impl_IsStore.l0 : Nat → List (S53) → List (S53) → Int → Int → Option (Bool)
 | 0, _, _, _, _ => none
 | k + 1, x0, x5, x6, x7 => if x7 < x6 then (if 0 ≤ x7 then (if x7 < (x5.length : Int) then ((impl_IsFact.f ((rd_T53 x5 x7).f0) ((rd_T53 x5 x7).f1) ((rd_T53 x5 x7).f2) ((rd_T53 x5 x7).f3) ((rd_T53 x5 x7).f4) ((rd_T53 x5 x7).f5)).bind fun t725 => (if t725 = true then (if x7 > 0 then (if 0 ≤ (wrap64 (x7 - 1)) then (if (wrap64 (x7 - 1)) < (x0.length : Int) then ((impl_FactBefore.f ((rd_T53 x0 (wrap64 (x7 - 1))).f0) ((rd_T53 x0 (wrap64 (x7 - 1))).f1) ((rd_T53 x0 (wrap64 (x7 - 1))).f2) ((rd_T53 x0 (wrap64 (x7 - 1))).f3) ((rd_T53 x0 (wrap64 (x7 - 1))).f4) ((rd_T53 x0 (wrap64 (x7 - 1))).f5) ((rd_T53 x5 x7).f0) ((rd_T53 x5 x7).f1) ((rd_T53 x5 x7).f2) ((rd_T53 x5 x7).f3) ((rd_T53 x5 x7).f4) ((rd_T53 x5 x7).f5)).bind fun t727 => (if t727 = true then (impl_IsStore.l0 k x0 x5 x6 (wrap64 (x7 + 1))) else (some false))) else (none)) else (none)) else (impl_IsStore.l0 k x0 x5 x6 (wrap64 (x7 + 1)))) else (some false))) else (none)) else (none)) else (some (decide ((x0.length : Int) ≤ 30)))
def impl_IsStore.f (k : Nat) (l0 : List (S53)) : Option (Bool) := impl_IsStore.l0 k l0 l0 (l0.length : Int) 0
open Go.Proofs.YtineejdlpcgnkaaGreatM in
set_option maxHeartbeats 8000000 in
set_option maxRecDepth 100000 in
theorem impl_IsStore.calls (k : Nat) (A0 : Option Addr) (c0 : Nat) (l0 : List (S53)) (r : Bool) (w : World) (hr0 : Kd.C k53 w A0 l0.length l0) (hc0 : l0.length ≤ c0) (h : impl_IsStore.f k l0 = some r) :
  Calls Tryz.prog 42 #[.slice A0 l0.length c0] w fun e w' => e = .returned (.bool r) ∧ Below w.heap.size w w' := by
 have HR0 := Aside0.mk hr0
 have HC0 := Aside0.mk hc0
 clear hr0 hc0
 have HB := Aside0.mk (Below.refl w.heap.size w)
 have H := h
 clear h
 unfold impl_IsStore.f at H
 have hu53 := Tryz.underlying53
 go_enter Tryz.func42, Tryz.ntmps42
 replace H := Aside0.mk H
 go_wp2
 go_loopg [7] k (fun kq v7 w' => ∃ (x7_1 : Int), v7 = .int .i64 x7_1 ∧ Aside0 (impl_IsStore.l0 kq l0 l0 (l0.length : Int) x7_1 = some r) ∧ Aside0 (kq ≤ k) ∧ Aside0 (Below w.heap.size w w'))
 case atStart => exact ⟨(0), (by first | rfl | (simp; done) | (simp [*]; done)), H, ⟨Nat.le_refl _⟩, HB⟩
 case round =>
  clear H HB 
  obtain ⟨x7_1, rfl, HA, Hk1, HB⟩ := hrel
  cases gk with
  | zero => exact absurd HA.out (by simp [impl_IsStore.l0])
  | succ k1 =>
   have H := HA.out
   clear HA
   simp only [impl_IsStore.l0] at H
   replace H := ifD H; rcases H with ⟨c2, H⟩ | ⟨c2, H⟩
   ·have c2_0 := decT c2
    replace c2 := Aside0.mk c2
    first | rw [c2_0] | skip
    replace H := ifN H; obtain ⟨c3, H⟩ := H
    have c3_0 := decT c3
    replace c3 := Aside0.mk c3
    first | rw [c3_0] | skip
    replace H := ifN H; obtain ⟨c4, H⟩ := H
    have c4_0 := decT c4
    replace c4 := Aside0.mk c4
    first | rw [c4_0] | skip
    have p723 : 0 ≤ (x7_1 : Int) := (of_decide_eq_true (by assumption))
    have q723 : x7_1 < (l0.length : Int) := (of_decide_eq_true (by assumption))
    obtain ⟨ad723, e723, hx723_0, hx723_1, hx723_2, hx723_3, hx723_4, hx723_5⟩ := at_T53 HR0.out x7_1 p723 q723
    cases e723
    replace hx723_0 := Aside0.mk hx723_0
    have y723_0 := xC HB hx723_0
    replace hx723_1 := Aside0.mk hx723_1
    have y723_1 := xC HB hx723_1
    replace hx723_2 := Aside0.mk hx723_2
    have y723_2 := xC HB hx723_2
    replace hx723_3 := Aside0.mk hx723_3
    have y723_3 := xC HB hx723_3
    replace hx723_4 := Aside0.mk hx723_4
    have y723_4 := xC HB hx723_4
    replace hx723_5 := Aside0.mk hx723_5
    have y723_5 := xC HB hx723_5
    have r723 := eq_true p723; have s723 := eq_true q723
    replace p723 := Aside0.mk p723; replace q723 := Aside0.mk q723
    replace H := Aside0.mk H
    go_upto_region 4 with (first | ((with_reducible refine gate_dst (N := 4) rfl ?_); refine box_event ?hg (N := 4) ?hd (cs := #[.int .i64 0, .int .i64 0, .int .i64 0, .int .i64 0, .int .i64 0, .int .i64 0]) (t := 53) ?hr ?_; (case hd => rfl); (case hg => rfl); (case hr => first | (go_simp; done) | (go_simp; rfl)); intro gb5 hg W5 hbox hb; have G5 := Aside0.mk hg; have b0_ := Aside0.mk hb; have BK5 := Aside0.mk hbox; have c_BK5 := blk_cell hbox; have z_BK5 := blk_frozen hbox; clear hg hb hbox) | ((with_reducible refine gate_store (t := 53) (p := 4) rfl ?_); refine store_event (t := 53) (p := 4) (v := ?vo_s6) (w1 := ((((((W5.setCell ⟨gb5, 0, none⟩ (.int .i64 ((rd_T53 l0 x7_1).f0))).setCell ⟨gb5, 1, none⟩ (.int .i64 ((rd_T53 l0 x7_1).f1))).setCell ⟨gb5, 2, none⟩ (.int .i64 ((rd_T53 l0 x7_1).f2))).setCell ⟨gb5, 3, none⟩ (.int .i64 ((rd_T53 l0 x7_1).f3))).setCell ⟨gb5, 4, none⟩ (.int .i64 ((rd_T53 l0 x7_1).f4))).setCell ⟨gb5, 5, none⟩ (.int .i64 ((rd_T53 l0 x7_1).f5)))) ?hg ?ho ?hn ?hr ?_; (case ho => rfl); (case hg => rfl); (case hn => rfl); (case hr => first | (go_simp; done) | (go_simp; rfl)); intro W6 hw; have hb : Below wr.heap.size wr W6 := (by rw [hw]; exact bSet (bSet (bSet (bSet (bSet (bSet (b0_.out) (Nat.le_of_eq G5.out.symm)) (Nat.le_of_eq G5.out.symm)) (Nat.le_of_eq G5.out.symm)) (Nat.le_of_eq G5.out.symm)) (Nat.le_of_eq G5.out.symm)) (Nat.le_of_eq G5.out.symm)); clear b0_; have h_ := blk_set (blk_set (blk_set (blk_set (blk_set (blk_set (BK5.out) 0 (.int .i64 ((rd_T53 l0 x7_1).f0))) 1 (.int .i64 ((rd_T53 l0 x7_1).f1))) 2 (.int .i64 ((rd_T53 l0 x7_1).f2))) 3 (.int .i64 ((rd_T53 l0 x7_1).f3))) 4 (.int .i64 ((rd_T53 l0 x7_1).f4))) 5 (.int .i64 ((rd_T53 l0 x7_1).f5)); rw [← hw] at h_; simp only [List.setIfInBounds_toArray, List.set_cons_zero, List.set_cons_succ] at h_; clear BK5 c_BK5 z_BK5 hw; replace HB := bH HB hb; clear hb; have BK5 := Aside0.mk h_; have c_BK5 := blk_cell h_; have z_BK5 := blk_frozen h_; clear h_ G5))
    try clear y723_0 y723_1 y723_2 y723_3 y723_4 y723_5
    clear c_BK5 z_BK5; have rBK5 := BK5; replace BK5 := dK BK5
    have HBr := HB; replace HB := dH HB
    refine stA (n := 17) (S := fun w' => Below W6.heap.size W6 w') (by kernel_rfl) rfl (below_drew1 (Below.refl _ W6)) (by kernel_rfl) (fun hHeld => ?_)
    generalize W6.drew = W7 at HB BK5 hHeld ⊢
    replace H := H.out
    replace H := Option.bind_eq_some_iff.mp H
    obtain ⟨t725, hm, H⟩ := H
    try dsimp only at H
    replace hm := Aside0.mk hm
    replace H := Aside0.mk H
    refine ld 0 (some 12) 1 hHeld ?_ (hr := by (intro w' h_; have y_ := kD rBK5 h_; go_simp; with_reducible rfl))
    refine on 1 (some 13) 3 (fun K hK => ?_)
    have hcall := impl_IsFact.calls _ _ _ _ _ _ _ W7  hm.out
    refine goes_ Tryz.func91 (by kernel_rfl) rfl #[.agg #[.int .i64 ((rd_T53 l0 x7_1).f0), .int .i64 ((rd_T53 l0 x7_1).f1), .int .i64 ((rd_T53 l0 x7_1).f2), .int .i64 ((rd_T53 l0 x7_1).f3), .int .i64 ((rd_T53 l0 x7_1).f4), .int .i64 ((rd_T53 l0 x7_1).f5)]] (by rfl) rfl rfl (by (try simp only [List.map_toArray, List.map_cons, List.map_nil]); first | done | rfl) ?_
    refine hcall.mono ?_
    rintro e W9 ⟨rfl, hb⟩
    refine ⟨_, rfl, ?_⟩
    clear hcall hm
    replace hHeld := below_step hHeld hb
    replace BK5 := bK BK5 hb
    replace HB := bH HB hb; clear hb
    refine hK.out _ _ hHeld (fun hHeld => ?_)
    clear hK K
    refine nr 13 ?_
    replace H := H.out
    replace H := ifD H; rcases H with ⟨c10, H⟩ | ⟨c10, H⟩
    ·subst c10
     replace H := ifD H; rcases H with ⟨c11, H⟩ | ⟨c11, H⟩
     ·replace c11 : 0 < x7_1 := c11
      have c11_0 := decT c11
      replace c11 := Aside0.mk c11
      first | rw [c11_0] | skip
      replace H := ifN H; obtain ⟨c12, H⟩ := H
      have c12_0 := decT c12
      replace c12 := Aside0.mk c12
      first | rw [c12_0] | skip
      replace H := ifN H; obtain ⟨c13, H⟩ := H
      have c13_0 := decT c13
      replace c13 := Aside0.mk c13
      first | rw [c13_0] | skip
      have p726 : 0 ≤ ((wrap64 (x7_1 - 1)) : Int) := (of_decide_eq_true (by assumption))
      have q726 : (wrap64 (x7_1 - 1)) < (l0.length : Int) := (of_decide_eq_true (by assumption))
      obtain ⟨ad726, e726, hx726_0, hx726_1, hx726_2, hx726_3, hx726_4, hx726_5⟩ := at_T53 HR0.out (wrap64 (x7_1 - 1)) p726 q726
      obtain rfl : ad723 = ad726 := by injection e726
      replace hx726_0 := Aside0.mk hx726_0
      replace hx726_1 := Aside0.mk hx726_1
      replace hx726_2 := Aside0.mk hx726_2
      replace hx726_3 := Aside0.mk hx726_3
      replace hx726_4 := Aside0.mk hx726_4
      replace hx726_5 := Aside0.mk hx726_5
      have r726 := eq_true p726; have s726 := eq_true q726
      replace p726 := Aside0.mk p726; replace q726 := Aside0.mk q726
      replace H := Option.bind_eq_some_iff.mp H
      obtain ⟨t727, hm, H⟩ := H
      try dsimp only at H
      replace hm := Aside0.mk hm
      replace H := Aside0.mk H
      refine pu 2 (some 14) 7 ?_; refine pu 3 (some 15) 15 ?_; refine pu 4 (some 16) 31 ?_; refine pu 5 (some 17) 63 ?_; refine pu 6 (some 18) 127 ?_; refine pu 7 (some 19) 255 ?_; refine pu 8 (some 20) 511 ?_; refine pu 9 (some 21) 1023 ?_; refine pu 10 (some 22) 2047 ?_; refine ld 11 (some 23) 4095 hHeld ?_ (hr := by (intro w' h_; have y0_ := xD HBr h_ hx726_0; have y1_ := xD HBr h_ hx726_1; have y2_ := xD HBr h_ hx726_2; have y3_ := xD HBr h_ hx726_3; have y4_ := xD HBr h_ hx726_4; have y5_ := xD HBr h_ hx726_5; go_simp; with_reducible rfl)); refine ld 12 (some 24) 8191 hHeld ?_ (hr := by (intro w' h_; have y_ := kD rBK5 h_; go_simp; with_reducible rfl))
      refine on 13 (some 25) 16383 (fun K hK => ?_)
      have hcall := impl_FactBefore.calls _ _ _ _ _ _ _ _ _ _ _ _ _ W9  hm.out
      refine goes_ Tryz.func92 (by kernel_rfl) rfl #[.agg #[.int .i64 ((rd_T53 l0 (wrap64 (x7_1 - 1))).f0), .int .i64 ((rd_T53 l0 (wrap64 (x7_1 - 1))).f1), .int .i64 ((rd_T53 l0 (wrap64 (x7_1 - 1))).f2), .int .i64 ((rd_T53 l0 (wrap64 (x7_1 - 1))).f3), .int .i64 ((rd_T53 l0 (wrap64 (x7_1 - 1))).f4), .int .i64 ((rd_T53 l0 (wrap64 (x7_1 - 1))).f5)], .agg #[.int .i64 ((rd_T53 l0 x7_1).f0), .int .i64 ((rd_T53 l0 x7_1).f1), .int .i64 ((rd_T53 l0 x7_1).f2), .int .i64 ((rd_T53 l0 x7_1).f3), .int .i64 ((rd_T53 l0 x7_1).f4), .int .i64 ((rd_T53 l0 x7_1).f5)]] (by rfl) rfl rfl (by (try simp only [List.map_toArray, List.map_cons, List.map_nil]); first | done | rfl) ?_
      refine hcall.mono ?_
      rintro e W15 ⟨rfl, hb⟩
      refine ⟨_, rfl, ?_⟩
      clear hcall hm
      replace hHeld := below_step hHeld hb
      replace BK5 := bK BK5 hb
      replace HB := bH HB hb; clear hb
      refine hK.out _ _ hHeld (fun hHeld => ?_)
      clear hK K
      refine nr 25 ?_
      refine pu 14 (some 26) 32767 ?_; refine pu 15 (some 27) 65535 ?_; refine pu 16 (some 28) 131071 ?_
      refine dn (by kernel_rfl) ?_
      clear hHeld HBr rBK5
      have c_BK5 := blk_cell BK5.out; have z_BK5 := blk_frozen BK5.out
      replace H := H.out
      replace H := ifD H; rcases H with ⟨c16, H⟩ | ⟨c16, H⟩
      ·subst c16
       replace H := Aside0.mk H
       go_wp2
       go_roundg k1
       case measure => have := Hk1.out; omega
       case rel => exact ⟨(wrap64 (x7_1 + 1)), (by first | rfl | (simp; done) | (simp [*]; done)), H, ⟨by have := Hk1.out; omega⟩, HB⟩
      ·replace c16 := (Bool.not_eq_true _).mp c16
       subst c16
       obtain rfl := Option.some.inj H
       clear H
       go_wp2
       go_ret
       exact ⟨rfl, HB.out⟩
     ·replace c11 : ¬ (0 < x7_1) := c11
      have c11_0 := decF c11
      replace c11 := Aside0.mk c11
      first | rw [c11_0] | skip
      replace H := Aside0.mk H
      refine pu 2 (some 14) 7 ?_; refine pu 3 (some 15) 15 ?_; refine pu 4 (some 16) 31 ?_; refine pu 5 (some 17) 63 ?_; refine pu 6 (some 18) 127 ?_; refine sk 7 (some 19) 255 ?_; refine sk 8 (some 20) 511 ?_; refine sk 9 (some 21) 1023 ?_; refine sk 10 (some 22) 2047 ?_; refine sk 11 (some 23) 4095 ?_; refine sk 12 (some 24) 8191 ?_; refine sk 13 (some 25) 16383 ?_; refine sk 14 (some 26) 32767 ?_; refine pu 15 (some 27) 65535 ?_; refine pu 16 (some 28) 131071 ?_
      refine dn (by kernel_rfl) ?_
      clear hHeld HBr rBK5
      have c_BK5 := blk_cell BK5.out; have z_BK5 := blk_frozen BK5.out
      go_wp2
      go_roundg k1
      case measure => have := Hk1.out; omega
      case rel => exact ⟨(wrap64 (x7_1 + 1)), (by first | rfl | (simp; done) | (simp [*]; done)), H, ⟨by have := Hk1.out; omega⟩, HB⟩
    ·replace c10 := (Bool.not_eq_true _).mp c10
     subst c10
     replace H := Aside0.mk H
     refine pu 2 (some 14) 7 ?_; refine pu 3 (some 15) 15 ?_; refine sk 4 (some 16) 31 ?_; refine sk 5 (some 17) 63 ?_; refine sk 6 (some 18) 127 ?_; refine sk 7 (some 19) 255 ?_; refine sk 8 (some 20) 511 ?_; refine sk 9 (some 21) 1023 ?_; refine sk 10 (some 22) 2047 ?_; refine sk 11 (some 23) 4095 ?_; refine sk 12 (some 24) 8191 ?_; refine sk 13 (some 25) 16383 ?_; refine sk 14 (some 26) 32767 ?_; refine sk 15 (some 27) 65535 ?_; refine pu 16 (some 28) 131071 ?_
     refine dn (by kernel_rfl) ?_
     clear hHeld HBr rBK5
     have c_BK5 := blk_cell BK5.out; have z_BK5 := blk_frozen BK5.out
     replace H := H.out
     obtain rfl := Option.some.inj H
     clear H
     go_wp2
     go_ret
     exact ⟨rfl, HB.out⟩
   ·have c2_0 := decF c2
    replace c2 := Aside0.mk c2
    first | rw [c2_0] | skip
    obtain rfl := Option.some.inj H
    clear H
    go_wp2
    go_ret
    exact ⟨rfl, HB.out⟩

/-! ### impl_AreRevoked: function 43 -/
def impl_AreRevoked.l0 : Nat → List (S121) → List (S121) → Int → Int → Option (Bool)
 | 0, _, _, _, _ => none
 | k + 1, x0, x5, x6, x7 => if x7 < x6 then (if 0 ≤ x7 then (if x7 < (x5.length : Int) then ((impl_InRange.f ((rd_T121 x5 x7).f0) 1 9999).bind fun t730 => (if t730 = true then ((impl_IsTime.f ((rd_T121 x5 x7).f1)).bind fun t731 => (if t731 = true then (if x7 > 0 then (if 0 ≤ (wrap64 (x7 - 1)) then (if (wrap64 (x7 - 1)) < (x0.length : Int) then (if ((rd_T121 x0 (wrap64 (x7 - 1))).f0) ≥ ((rd_T121 x5 x7).f0) then (some false) else (impl_AreRevoked.l0 k x0 x5 x6 (wrap64 (x7 + 1)))) else (none)) else (none)) else (impl_AreRevoked.l0 k x0 x5 x6 (wrap64 (x7 + 1)))) else (some false))) else (some false))) else (none)) else (none)) else (some (decide ((x0.length : Int) ≤ 40)))
def impl_AreRevoked.f (k : Nat) (l0 : List (S121)) : Option (Bool) := impl_AreRevoked.l0 k l0 l0 (l0.length : Int) 0
open Go.Proofs.YtineejdlpcgnkaaGreatM in
set_option maxHeartbeats 8000000 in
set_option maxRecDepth 100000 in
theorem impl_AreRevoked.calls (k : Nat) (A0 : Option Addr) (c0 : Nat) (l0 : List (S121)) (r : Bool) (w : World) (hr0 : Kd.C k121 w A0 l0.length l0) (hc0 : l0.length ≤ c0) (h : impl_AreRevoked.f k l0 = some r) :
  Calls Tryz.prog 43 #[.slice A0 l0.length c0] w fun e w' => e = .returned (.bool r) ∧ Below w.heap.size w w' := by
 have HR0 := Aside0.mk hr0
 have HC0 := Aside0.mk hc0
 clear hr0 hc0
 have HB := Aside0.mk (Below.refl w.heap.size w)
 have H := h
 clear h
 unfold impl_AreRevoked.f at H
 have hu121 := Tryz.underlying121
 go_enter Tryz.func43, Tryz.ntmps43
 replace H := Aside0.mk H
 go_wp2
 go_loopg [7] k (fun kq v7 w' => ∃ (x7_1 : Int), v7 = .int .i64 x7_1 ∧ Aside0 (impl_AreRevoked.l0 kq l0 l0 (l0.length : Int) x7_1 = some r) ∧ Aside0 (kq ≤ k) ∧ Aside0 (Below w.heap.size w w'))
 case atStart => exact ⟨(0), (by first | rfl | (simp; done) | (simp [*]; done)), H, ⟨Nat.le_refl _⟩, HB⟩
 case round =>
  clear H HB 
  obtain ⟨x7_1, rfl, HA, Hk1, HB⟩ := hrel
  cases gk with
  | zero => exact absurd HA.out (by simp [impl_AreRevoked.l0])
  | succ k1 =>
   have H := HA.out
   clear HA
   simp only [impl_AreRevoked.l0] at H
   replace H := ifD H; rcases H with ⟨c2, H⟩ | ⟨c2, H⟩
   ·have c2_0 := decT c2
    replace c2 := Aside0.mk c2
    first | rw [c2_0] | skip
    replace H := ifN H; obtain ⟨c3, H⟩ := H
    have c3_0 := decT c3
    replace c3 := Aside0.mk c3
    first | rw [c3_0] | skip
    replace H := ifN H; obtain ⟨c4, H⟩ := H
    have c4_0 := decT c4
    replace c4 := Aside0.mk c4
    first | rw [c4_0] | skip
    have p728 : 0 ≤ (x7_1 : Int) := (of_decide_eq_true (by assumption))
    have q728 : x7_1 < (l0.length : Int) := (of_decide_eq_true (by assumption))
    obtain ⟨ad728, e728, hx728_0, hx728_1⟩ := at_T121 HR0.out x7_1 p728 q728
    cases e728
    replace hx728_0 := Aside0.mk hx728_0
    have y728_0 := xC HB hx728_0
    replace hx728_1 := Aside0.mk hx728_1
    have y728_1 := xC HB hx728_1
    have r728 := eq_true p728; have s728 := eq_true q728
    replace p728 := Aside0.mk p728; replace q728 := Aside0.mk q728
    replace H := Aside0.mk H
    go_upto_region 4 with (first | ((with_reducible refine gate_dst (N := 4) rfl ?_); refine box_event ?hg (N := 4) ?hd (cs := #[.int .i64 0, .int .i64 0]) (t := 121) ?hr ?_; (case hd => rfl); (case hg => rfl); (case hr => first | (go_simp; done) | (go_simp; rfl)); intro gb5 hg W5 hbox hb; have G5 := Aside0.mk hg; have b0_ := Aside0.mk hb; have BK5 := Aside0.mk hbox; have c_BK5 := blk_cell hbox; have z_BK5 := blk_frozen hbox; clear hg hb hbox) | ((with_reducible refine gate_store (t := 121) (p := 4) rfl ?_); refine store_event (t := 121) (p := 4) (v := ?vo_s6) (w1 := ((W5.setCell ⟨gb5, 0, none⟩ (.int .i64 ((rd_T121 l0 x7_1).f0))).setCell ⟨gb5, 1, none⟩ (.int .i64 ((rd_T121 l0 x7_1).f1)))) ?hg ?ho ?hn ?hr ?_; (case ho => rfl); (case hg => rfl); (case hn => rfl); (case hr => first | (go_simp; done) | (go_simp; rfl)); intro W6 hw; have hb : Below wr.heap.size wr W6 := (by rw [hw]; exact bSet (bSet (b0_.out) (Nat.le_of_eq G5.out.symm)) (Nat.le_of_eq G5.out.symm)); clear b0_; have h_ := blk_set (blk_set (BK5.out) 0 (.int .i64 ((rd_T121 l0 x7_1).f0))) 1 (.int .i64 ((rd_T121 l0 x7_1).f1)); rw [← hw] at h_; simp only [List.setIfInBounds_toArray, List.set_cons_zero, List.set_cons_succ] at h_; clear BK5 c_BK5 z_BK5 hw; replace HB := bH HB hb; clear hb; have BK5 := Aside0.mk h_; have c_BK5 := blk_cell h_; have z_BK5 := blk_frozen h_; clear h_ G5))
    try clear y728_0 y728_1
    clear c_BK5 z_BK5; have rBK5 := BK5; replace BK5 := dK BK5
    have HBr := HB; replace HB := dH HB
    refine stA (n := 25) (S := fun w' => Below W6.heap.size W6 w') (by kernel_rfl) rfl (below_drew1 (Below.refl _ W6)) (by kernel_rfl) (fun hHeld => ?_)
    generalize W6.drew = W7 at HB BK5 hHeld ⊢
    replace H := H.out
    replace H := Option.bind_eq_some_iff.mp H
    obtain ⟨t730, hm, H⟩ := H
    try dsimp only at H
    replace hm := Aside0.mk hm
    replace H := Aside0.mk H
    refine pu 0 (some 12) 1 ?_; refine ld 1 (some 13) 3 hHeld ?_ (hr := by (intro w' h_; have y_ := kD rBK5 h_; go_simp; with_reducible rfl))
    refine on 2 (some 14) 7 (fun K hK => ?_)
    have hcall := impl_InRange.calls _ _ _ _ W7  hm.out
    refine goes_ Tryz.func67 (by kernel_rfl) rfl #[.int .i64 ((rd_T121 l0 x7_1).f0), .int .i64 1, .int .i64 9999] (by rfl) rfl rfl (by (try simp only [List.map_toArray, List.map_cons, List.map_nil]); first | done | rfl) ?_
    refine hcall.mono ?_
    rintro e W9 ⟨rfl, hb⟩
    refine ⟨_, rfl, ?_⟩
    clear hcall hm
    replace hHeld := below_step hHeld hb
    replace BK5 := bK BK5 hb
    replace HB := bH HB hb; clear hb
    refine hK.out _ _ hHeld (fun hHeld => ?_)
    clear hK K
    refine nr 14 ?_
    replace H := H.out
    replace H := ifD H; rcases H with ⟨c10, H⟩ | ⟨c10, H⟩
    ·subst c10
     replace H := Option.bind_eq_some_iff.mp H
     obtain ⟨t731, hm, H⟩ := H
     try dsimp only at H
     replace hm := Aside0.mk hm
     replace H := Aside0.mk H
     refine pu 3 (some 15) 15 ?_; refine pu 4 (some 16) 31 ?_; refine pu 5 (some 17) 63 ?_; refine ld 6 (some 18) 127 hHeld ?_ (hr := by (intro w' h_; have y_ := kD rBK5 h_; go_simp; with_reducible rfl))
     refine on 7 (some 19) 255 (fun K hK => ?_)
     have hcall := impl_IsTime.calls _ _ W9  hm.out
     refine goes_ Tryz.func87 (by kernel_rfl) rfl #[.int .i64 ((rd_T121 l0 x7_1).f1)] (by rfl) rfl rfl (by (try simp only [List.map_toArray, List.map_cons, List.map_nil]); first | done | rfl) ?_
     refine hcall.mono ?_
     rintro e W12 ⟨rfl, hb⟩
     refine ⟨_, rfl, ?_⟩
     clear hcall hm
     replace hHeld := below_step hHeld hb
     replace BK5 := bK BK5 hb
     replace HB := bH HB hb; clear hb
     refine hK.out _ _ hHeld (fun hHeld => ?_)
     clear hK K
     refine nr 19 ?_
     replace H := H.out
     replace H := ifD H; rcases H with ⟨c13, H⟩ | ⟨c13, H⟩
     ·subst c13
      replace H := ifD H; rcases H with ⟨c14, H⟩ | ⟨c14, H⟩
      ·replace c14 : 0 < x7_1 := c14
       have c14_0 := decT c14
       replace c14 := Aside0.mk c14
       first | rw [c14_0] | skip
       replace H := ifN H; obtain ⟨c15, H⟩ := H
       have c15_0 := decT c15
       replace c15 := Aside0.mk c15
       first | rw [c15_0] | skip
       replace H := ifN H; obtain ⟨c16, H⟩ := H
       have c16_0 := decT c16
       replace c16 := Aside0.mk c16
       first | rw [c16_0] | skip
       have p732 : 0 ≤ ((wrap64 (x7_1 - 1)) : Int) := (of_decide_eq_true (by assumption))
       have q732 : (wrap64 (x7_1 - 1)) < (l0.length : Int) := (of_decide_eq_true (by assumption))
       obtain ⟨ad732, e732, hx732_0, hx732_1⟩ := at_T121 HR0.out (wrap64 (x7_1 - 1)) p732 q732
       obtain rfl : ad728 = ad732 := by injection e732
       replace hx732_0 := Aside0.mk hx732_0
       replace hx732_1 := Aside0.mk hx732_1
       have r732 := eq_true p732; have s732 := eq_true q732
       replace p732 := Aside0.mk p732; replace q732 := Aside0.mk q732
       replace H := Aside0.mk H
       refine pu 8 (some 20) 511 ?_; refine pu 9 (some 21) 1023 ?_; refine pu 10 (some 22) 2047 ?_; refine pu 11 (some 23) 4095 ?_; refine pu 12 (some 24) 8191 ?_; refine pu 13 (some 25) 16383 ?_; refine pu 14 (some 26) 32767 ?_; refine pu 15 (some 27) 65535 ?_; refine pu 16 (some 28) 131071 ?_; refine pu 17 (some 29) 262143 ?_; refine pu 18 (some 30) 524287 ?_; refine pu 20 (some 32) 1572863 ?_; refine ld 19 (some 31) 2097151 hHeld ?_ (hr := by (intro w' h_; have y0_ := xD HBr h_ hx732_0; have y1_ := xD HBr h_ hx732_1; go_simp; with_reducible rfl)); refine ld 21 (some 33) 4194303 hHeld ?_ (hr := by (intro w' h_; have y_ := kD rBK5 h_; go_simp; with_reducible rfl)); refine pu 22 (some 34) 8388607 ?_; refine pu 23 (some 35) 16777215 ?_; refine pu 24 (some 36) 33554431 ?_
       refine dn (by kernel_rfl) ?_
       clear hHeld HBr rBK5
       have c_BK5 := blk_cell BK5.out; have z_BK5 := blk_frozen BK5.out
       replace H := H.out
       replace H := ifD H; rcases H with ⟨c17, H⟩ | ⟨c17, H⟩
       ·replace c17 : ((rd_T121 l0 x7_1).f0) ≤ ((rd_T121 l0 (wrap64 (x7_1 - 1))).f0) := c17
        have c17_0 := decT c17
        replace c17 := Aside0.mk c17
        first | rw [c17_0] | skip
        obtain rfl := Option.some.inj H
        clear H
        go_wp2
        go_ret
        exact ⟨rfl, HB.out⟩
       ·replace c17 : ¬ (((rd_T121 l0 x7_1).f0) ≤ ((rd_T121 l0 (wrap64 (x7_1 - 1))).f0)) := c17
        have c17_0 := decF c17
        replace c17 := Aside0.mk c17
        first | rw [c17_0] | skip
        replace H := Aside0.mk H
        go_wp2
        go_roundg k1
        case measure => have := Hk1.out; omega
        case rel => exact ⟨(wrap64 (x7_1 + 1)), (by first | rfl | (simp; done) | (simp [*]; done)), H, ⟨by have := Hk1.out; omega⟩, HB⟩
      ·replace c14 : ¬ (0 < x7_1) := c14
       have c14_0 := decF c14
       replace c14 := Aside0.mk c14
       first | rw [c14_0] | skip
       replace H := Aside0.mk H
       refine pu 8 (some 20) 511 ?_; refine pu 9 (some 21) 1023 ?_; refine pu 10 (some 22) 2047 ?_; refine pu 11 (some 23) 4095 ?_; refine pu 12 (some 24) 8191 ?_; refine pu 13 (some 25) 16383 ?_; refine sk 14 (some 26) 32767 ?_; refine sk 15 (some 27) 65535 ?_; refine sk 16 (some 28) 131071 ?_; refine sk 17 (some 29) 262143 ?_; refine sk 18 (some 30) 524287 ?_; refine sk 19 (some 31) 1048575 ?_; refine sk 20 (some 32) 2097151 ?_; refine sk 21 (some 33) 4194303 ?_; refine sk 22 (some 34) 8388607 ?_; refine pu 23 (some 35) 16777215 ?_; refine pu 24 (some 36) 33554431 ?_
       refine dn (by kernel_rfl) ?_
       clear hHeld HBr rBK5
       have c_BK5 := blk_cell BK5.out; have z_BK5 := blk_frozen BK5.out
       go_wp2
       go_roundg k1
       case measure => have := Hk1.out; omega
       case rel => exact ⟨(wrap64 (x7_1 + 1)), (by first | rfl | (simp; done) | (simp [*]; done)), H, ⟨by have := Hk1.out; omega⟩, HB⟩
     ·replace c13 := (Bool.not_eq_true _).mp c13
      subst c13
      replace H := Aside0.mk H
      refine pu 8 (some 20) 511 ?_; refine pu 9 (some 21) 1023 ?_; refine pu 10 (some 22) 2047 ?_; refine sk 11 (some 23) 4095 ?_; refine sk 12 (some 24) 8191 ?_; refine sk 13 (some 25) 16383 ?_; refine sk 14 (some 26) 32767 ?_; refine sk 15 (some 27) 65535 ?_; refine sk 16 (some 28) 131071 ?_; refine sk 17 (some 29) 262143 ?_; refine sk 18 (some 30) 524287 ?_; refine sk 19 (some 31) 1048575 ?_; refine sk 20 (some 32) 2097151 ?_; refine sk 21 (some 33) 4194303 ?_; refine sk 22 (some 34) 8388607 ?_; refine sk 23 (some 35) 16777215 ?_; refine pu 24 (some 36) 33554431 ?_
      refine dn (by kernel_rfl) ?_
      clear hHeld HBr rBK5
      have c_BK5 := blk_cell BK5.out; have z_BK5 := blk_frozen BK5.out
      replace H := H.out
      obtain rfl := Option.some.inj H
      clear H
      go_wp2
      go_ret
      exact ⟨rfl, HB.out⟩
    ·replace c10 := (Bool.not_eq_true _).mp c10
     subst c10
     replace H := Aside0.mk H
     refine pu 3 (some 15) 15 ?_; refine pu 4 (some 16) 31 ?_; refine sk 5 (some 17) 63 ?_; refine sk 6 (some 18) 127 ?_; refine sk 7 (some 19) 255 ?_; refine sk 8 (some 20) 511 ?_; refine pu 9 (some 21) 1023 ?_; refine pu 10 (some 22) 2047 ?_; refine sk 11 (some 23) 4095 ?_; refine sk 12 (some 24) 8191 ?_; refine sk 13 (some 25) 16383 ?_; refine sk 14 (some 26) 32767 ?_; refine sk 15 (some 27) 65535 ?_; refine sk 16 (some 28) 131071 ?_; refine sk 17 (some 29) 262143 ?_; refine sk 18 (some 30) 524287 ?_; refine sk 19 (some 31) 1048575 ?_; refine sk 20 (some 32) 2097151 ?_; refine sk 21 (some 33) 4194303 ?_; refine sk 22 (some 34) 8388607 ?_; refine sk 23 (some 35) 16777215 ?_; refine pu 24 (some 36) 33554431 ?_
     refine dn (by kernel_rfl) ?_
     clear hHeld HBr rBK5
     have c_BK5 := blk_cell BK5.out; have z_BK5 := blk_frozen BK5.out
     replace H := H.out
     obtain rfl := Option.some.inj H
     clear H
     go_wp2
     go_ret
     exact ⟨rfl, HB.out⟩
   ·have c2_0 := decF c2
    replace c2 := Aside0.mk c2
    first | rw [c2_0] | skip
    obtain rfl := Option.some.inj H
    clear H
    go_wp2
    go_ret
    exact ⟨rfl, HB.out⟩

end Go.Proofs.YtineejdlpcgnkaaGreat.QFnExactIsCenter
