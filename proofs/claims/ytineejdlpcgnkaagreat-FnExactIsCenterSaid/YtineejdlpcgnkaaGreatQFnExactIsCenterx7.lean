/- The machine side of FnExactIsCenter: what each function that it reaches computes, and that the machine's call gives just that. -/
import Derived.Test.YtineejdlpcgnkaaGreatQFnExactIsCenterx0
import Derived.Test.YtineejdlpcgnkaaGreatQFnExactIsCenterx3
import Derived.Test.YtineejdlpcgnkaaGreatQFnExactIsCenterx4
namespace Go.Proofs.YtineejdlpcgnkaaGreat.QFnExactIsCenter
open Go.RowKit Go.Proofs.YtineejdlpcgnkaaGreatW.PrintWords Go.Proofs.YtineejdlpcgnkaaGreatW.PrintLast Go.Proofs.YtineejdlpcgnkaaGreatW.PrintMore
attribute [local go_sem] max2_int min2_int max_two min_two max_three min_three max_four min_four   -- for this text's walks alone
set_option linter.unusedVariables false
set_option linter.unusedSimpArgs false

/-! ### spec_IsFact: function 80 -/
def spec_IsFact.f (a0_0 : Int) (a0_1 : Int) (a0_2 : Int) (a0_3 : Int) (a0_4 : Int) (a0_5 : Int) : Option (Bool) := if a0_0 = 1 then ((spec_HasKind.f a0_1 1).bind fun t254 => (if t254 = true then ((spec_l1In.f a0_2 0 5).bind fun t255 => (if t255 = true then ((spec_l1In.f a0_3 0 9).bind fun t256 => (if t256 = true then ((spec_IsTime.f a0_4).bind fun t257 => (if t257 = true then ((spec_IsTime.f a0_5).bind fun t258 => (if t258 = true then (some (decide (a0_4 ≤ a0_5))) else (some false))) else (some false))) else (some false))) else (some false))) else (some false))) else (if a0_0 = 2 then ((spec_HasKind.f a0_1 1).bind fun t259 => (if t259 = true then ((spec_HasKind.f a0_2 2).bind fun t260 => (if t260 = true then ((spec_l1In.f a0_3 0 9).bind fun t261 => (if t261 = true then ((spec_IsTime.f a0_4).bind fun t262 => (if t262 = true then ((spec_IsTime.f a0_5).bind fun t263 => (if t263 = true then (some (decide (a0_4 ≤ a0_5))) else (some false))) else (some false))) else (some false))) else (some false))) else (some false))) else (if a0_0 = 3 then ((spec_HasKind.f a0_1 2).bind fun t264 => (if t264 = true then ((spec_l1In.f a0_2 0 3).bind fun t265 => (if t265 = true then ((spec_l1In.f a0_3 0 9).bind fun t266 => (if t266 = true then ((spec_IsTime.f a0_4).bind fun t267 => (if t267 = true then ((spec_IsTime.f a0_5).bind fun t268 => (if t268 = true then (some (decide (a0_4 ≤ a0_5))) else (some false))) else (some false))) else (some false))) else (some false))) else (some false))) else (if a0_0 = 4 then ((spec_HasKind.f a0_1 3).bind fun t269 => (if t269 = true then ((spec_l1In.f a0_2 0 3).bind fun t270 => (if t270 = true then ((spec_l1In.f a0_3 0 9).bind fun t271 => (if t271 = true then ((spec_IsTime.f a0_4).bind fun t272 => (if t272 = true then ((spec_IsTime.f a0_5).bind fun t273 => (if t273 = true then (some (decide (a0_4 ≤ a0_5))) else (some false))) else (some false))) else (some false))) else (some false))) else (some false))) else (some false))))
open Go.Proofs.YtineejdlpcgnkaaGreatM in
set_option maxHeartbeats 8000000 in
set_option maxRecDepth 100000 in
theorem spec_IsFact.calls (a0_0 : Int) (a0_1 : Int) (a0_2 : Int) (a0_3 : Int) (a0_4 : Int) (a0_5 : Int) (r : Bool) (w : World) (h : spec_IsFact.f a0_0 a0_1 a0_2 a0_3 a0_4 a0_5 = some r) :
  Calls Tryz.prog 80 #[.agg #[.int .i64 a0_0, .int .i64 a0_1, .int .i64 a0_2, .int .i64 a0_3, .int .i64 a0_4, .int .i64 a0_5]] w fun e w' => e = .returned (.bool r) ∧ Below w.heap.size w w' := by
 have HB := Aside0.mk (Below.refl w.heap.size w)
 have H := h
 clear h
 unfold spec_IsFact.f at H
 have hu53 := Tryz.underlying53
 go_enter Tryz.func80, Tryz.ntmps80
 replace H := Aside0.mk H
 go_upto_region 1 with (first | ((with_reducible refine gate_dst (N := 1) rfl ?_); refine box_event ?hg (N := 1) ?hd (cs := #[.int .i64 a0_0, .int .i64 a0_1, .int .i64 a0_2, .int .i64 a0_3, .int .i64 a0_4, .int .i64 a0_5]) (t := 53) ?hr ?_; (case hd => rfl); (case hg => rfl); (case hr => first | (go_simp; done) | (go_simp; rfl)); intro gb1 hg W1 hbox hb; replace HB := bH HB hb; clear hb; have BK1 := Aside0.mk hbox; have c_BK1 := blk_cell hbox; have z_BK1 := blk_frozen hbox; clear hg hbox))
 replace H := H.out
 replace H := ifD H; rcases H with ⟨c2, H⟩ | ⟨c2, H⟩
 ·have c2_0 := decT c2; have c2_1 := eqT c2; have c2_2 := neT c2
  clear c2
  first | rw [c2_1] | rw [c2_2] | skip
  replace H := Option.bind_eq_some_iff.mp H
  obtain ⟨t254, hm, H⟩ := H
  try dsimp only at H
  replace H := Aside0.mk H
  have hcall := spec_HasKind.calls _ _ _ W1  hm
  clear hm
  go_wp2_with fail
  refine hcall.mono ?_
  rintro e W3 ⟨rfl, hb⟩
  clear hcall
  replace BK1 := bK BK1 hb; replace c_BK1 := blk_cell BK1.out; replace z_BK1 := blk_frozen BK1.out
  replace HB := bH HB hb; clear hb
  replace H := H.out
  replace H := ifD H; rcases H with ⟨c4, H⟩ | ⟨c4, H⟩
  ·subst c4
   replace H := Option.bind_eq_some_iff.mp H
   obtain ⟨t255, hm, H⟩ := H
   try dsimp only at H
   replace H := Aside0.mk H
   have hcall := spec_l1In.calls _ _ _ _ W3  hm
   clear hm
   go_wp2_with fail
   refine hcall.mono ?_
   rintro e W5 ⟨rfl, hb⟩
   clear hcall
   replace BK1 := bK BK1 hb; replace c_BK1 := blk_cell BK1.out; replace z_BK1 := blk_frozen BK1.out
   replace HB := bH HB hb; clear hb
   replace H := H.out
   replace H := ifD H; rcases H with ⟨c6, H⟩ | ⟨c6, H⟩
   ·subst c6
    replace H := Option.bind_eq_some_iff.mp H
    obtain ⟨t256, hm, H⟩ := H
    try dsimp only at H
    replace H := Aside0.mk H
    have hcall := spec_l1In.calls _ _ _ _ W5  hm
    clear hm
    go_wp2_with fail
    refine hcall.mono ?_
    rintro e W7 ⟨rfl, hb⟩
    clear hcall
    replace BK1 := bK BK1 hb; replace c_BK1 := blk_cell BK1.out; replace z_BK1 := blk_frozen BK1.out
    replace HB := bH HB hb; clear hb
    replace H := H.out
    replace H := ifD H; rcases H with ⟨c8, H⟩ | ⟨c8, H⟩
    ·subst c8
     replace H := Option.bind_eq_some_iff.mp H
     obtain ⟨t257, hm, H⟩ := H
     try dsimp only at H
     replace H := Aside0.mk H
     have hcall := spec_IsTime.calls _ _ W7  hm
     clear hm
     go_wp2_with fail
     refine hcall.mono ?_
     rintro e W9 ⟨rfl, hb⟩
     clear hcall
     replace BK1 := bK BK1 hb; replace c_BK1 := blk_cell BK1.out; replace z_BK1 := blk_frozen BK1.out
     replace HB := bH HB hb; clear hb
     replace H := H.out
     replace H := ifD H; rcases H with ⟨c10, H⟩ | ⟨c10, H⟩
     ·subst c10
      replace H := Option.bind_eq_some_iff.mp H
      obtain ⟨t258, hm, H⟩ := H
      try dsimp only at H
      replace H := Aside0.mk H
      have hcall := spec_IsTime.calls _ _ W9  hm
      clear hm
      go_wp2_with fail
      refine hcall.mono ?_
      rintro e W11 ⟨rfl, hb⟩
      clear hcall
      replace BK1 := bK BK1 hb; replace c_BK1 := blk_cell BK1.out; replace z_BK1 := blk_frozen BK1.out
      replace HB := bH HB hb; clear hb
      replace H := H.out
      replace H := ifD H; rcases H with ⟨c12, H⟩ | ⟨c12, H⟩
      ·subst c12
       obtain rfl := Option.some.inj H
       clear H
       go_wp2
       go_ret
       exact ⟨rfl, HB.out⟩
      ·replace c12 := (Bool.not_eq_true _).mp c12
       subst c12
       obtain rfl := Option.some.inj H
       clear H
       go_wp2
       go_ret
       exact ⟨rfl, HB.out⟩
     ·replace c10 := (Bool.not_eq_true _).mp c10
      subst c10
      obtain rfl := Option.some.inj H
      clear H
      go_wp2
      go_ret
      exact ⟨rfl, HB.out⟩
    ·replace c8 := (Bool.not_eq_true _).mp c8
     subst c8
     obtain rfl := Option.some.inj H
     clear H
     go_wp2
     go_ret
     exact ⟨rfl, HB.out⟩
   ·replace c6 := (Bool.not_eq_true _).mp c6
    subst c6
    obtain rfl := Option.some.inj H
    clear H
    go_wp2
    go_ret
    exact ⟨rfl, HB.out⟩
  ·replace c4 := (Bool.not_eq_true _).mp c4
   subst c4
   obtain rfl := Option.some.inj H
   clear H
   go_wp2
   go_ret
   exact ⟨rfl, HB.out⟩
 ·have c2_0 := decF c2; have c2_1 := eqF c2; have c2_2 := neF c2
  clear c2
  first | rw [c2_1] | rw [c2_2] | skip
  replace H := ifD H; rcases H with ⟨c13, H⟩ | ⟨c13, H⟩
  ·have c13_0 := decT c13; have c13_1 := eqT c13; have c13_2 := neT c13
   clear c13
   first | rw [c13_1] | rw [c13_2] | skip
   replace H := Option.bind_eq_some_iff.mp H
   obtain ⟨t259, hm, H⟩ := H
   try dsimp only at H
   replace H := Aside0.mk H
   have hcall := spec_HasKind.calls _ _ _ W1  hm
   clear hm
   go_wp2_with fail
   refine hcall.mono ?_
   rintro e W14 ⟨rfl, hb⟩
   clear hcall
   replace BK1 := bK BK1 hb; replace c_BK1 := blk_cell BK1.out; replace z_BK1 := blk_frozen BK1.out
   replace HB := bH HB hb; clear hb
   replace H := H.out
   replace H := ifD H; rcases H with ⟨c15, H⟩ | ⟨c15, H⟩
   ·subst c15
    replace H := Option.bind_eq_some_iff.mp H
    obtain ⟨t260, hm, H⟩ := H
    try dsimp only at H
    replace H := Aside0.mk H
    have hcall := spec_HasKind.calls _ _ _ W14  hm
    clear hm
    go_wp2_with fail
    refine hcall.mono ?_
    rintro e W16 ⟨rfl, hb⟩
    clear hcall
    replace BK1 := bK BK1 hb; replace c_BK1 := blk_cell BK1.out; replace z_BK1 := blk_frozen BK1.out
    replace HB := bH HB hb; clear hb
    replace H := H.out
    replace H := ifD H; rcases H with ⟨c17, H⟩ | ⟨c17, H⟩
    ·subst c17
     replace H := Option.bind_eq_some_iff.mp H
     obtain ⟨t261, hm, H⟩ := H
     try dsimp only at H
     replace H := Aside0.mk H
     have hcall := spec_l1In.calls _ _ _ _ W16  hm
     clear hm
     go_wp2_with fail
     refine hcall.mono ?_
     rintro e W18 ⟨rfl, hb⟩
     clear hcall
     replace BK1 := bK BK1 hb; replace c_BK1 := blk_cell BK1.out; replace z_BK1 := blk_frozen BK1.out
     replace HB := bH HB hb; clear hb
     replace H := H.out
     replace H := ifD H; rcases H with ⟨c19, H⟩ | ⟨c19, H⟩
     ·subst c19
      replace H := Option.bind_eq_some_iff.mp H
      obtain ⟨t262, hm, H⟩ := H
      try dsimp only at H
      replace H := Aside0.mk H
      have hcall := spec_IsTime.calls _ _ W18  hm
      clear hm
      go_wp2_with fail
      refine hcall.mono ?_
      rintro e W20 ⟨rfl, hb⟩
      clear hcall
      replace BK1 := bK BK1 hb; replace c_BK1 := blk_cell BK1.out; replace z_BK1 := blk_frozen BK1.out
      replace HB := bH HB hb; clear hb
      replace H := H.out
      replace H := ifD H; rcases H with ⟨c21, H⟩ | ⟨c21, H⟩
      ·subst c21
       replace H := Option.bind_eq_some_iff.mp H
       obtain ⟨t263, hm, H⟩ := H
       try dsimp only at H
       replace H := Aside0.mk H
       have hcall := spec_IsTime.calls _ _ W20  hm
       clear hm
       go_wp2_with fail
       refine hcall.mono ?_
       rintro e W22 ⟨rfl, hb⟩
       clear hcall
       replace BK1 := bK BK1 hb; replace c_BK1 := blk_cell BK1.out; replace z_BK1 := blk_frozen BK1.out
       replace HB := bH HB hb; clear hb
       replace H := H.out
       replace H := ifD H; rcases H with ⟨c23, H⟩ | ⟨c23, H⟩
       ·subst c23
        obtain rfl := Option.some.inj H
        clear H
        go_wp2
        go_ret
        exact ⟨rfl, HB.out⟩
       ·replace c23 := (Bool.not_eq_true _).mp c23
        subst c23
        obtain rfl := Option.some.inj H
        clear H
        go_wp2
        go_ret
        exact ⟨rfl, HB.out⟩
      ·replace c21 := (Bool.not_eq_true _).mp c21
       subst c21
       obtain rfl := Option.some.inj H
       clear H
       go_wp2
       go_ret
       exact ⟨rfl, HB.out⟩
     ·replace c19 := (Bool.not_eq_true _).mp c19
      subst c19
      obtain rfl := Option.some.inj H
      clear H
      go_wp2
      go_ret
      exact ⟨rfl, HB.out⟩
    ·replace c17 := (Bool.not_eq_true _).mp c17
     subst c17
     obtain rfl := Option.some.inj H
     clear H
     go_wp2
     go_ret
     exact ⟨rfl, HB.out⟩
   ·replace c15 := (Bool.not_eq_true _).mp c15
    subst c15
    obtain rfl := Option.some.inj H
    clear H
    go_wp2
    go_ret
    exact ⟨rfl, HB.out⟩
  ·have c13_0 := decF c13; have c13_1 := eqF c13; have c13_2 := neF c13
   clear c13
   first | rw [c13_1] | rw [c13_2] | skip
   replace H := ifD H; rcases H with ⟨c24, H⟩ | ⟨c24, H⟩
   ·have c24_0 := decT c24; have c24_1 := eqT c24; have c24_2 := neT c24
    clear c24
    first | rw [c24_1] | rw [c24_2] | skip
    replace H := Option.bind_eq_some_iff.mp H
    obtain ⟨t264, hm, H⟩ := H
    try dsimp only at H
    replace H := Aside0.mk H
    have hcall := spec_HasKind.calls _ _ _ W1  hm
    clear hm
    go_wp2_with fail
    refine hcall.mono ?_
    rintro e W25 ⟨rfl, hb⟩
    clear hcall
    replace BK1 := bK BK1 hb; replace c_BK1 := blk_cell BK1.out; replace z_BK1 := blk_frozen BK1.out
    replace HB := bH HB hb; clear hb
    replace H := H.out
    replace H := ifD H; rcases H with ⟨c26, H⟩ | ⟨c26, H⟩
    ·subst c26
     replace H := Option.bind_eq_some_iff.mp H
     obtain ⟨t265, hm, H⟩ := H
     try dsimp only at H
     replace H := Aside0.mk H
     have hcall := spec_l1In.calls _ _ _ _ W25  hm
     clear hm
     go_wp2_with fail
     refine hcall.mono ?_
     rintro e W27 ⟨rfl, hb⟩
     clear hcall
     replace BK1 := bK BK1 hb; replace c_BK1 := blk_cell BK1.out; replace z_BK1 := blk_frozen BK1.out
     replace HB := bH HB hb; clear hb
     replace H := H.out
     replace H := ifD H; rcases H with ⟨c28, H⟩ | ⟨c28, H⟩
     ·subst c28
      replace H := Option.bind_eq_some_iff.mp H
      obtain ⟨t266, hm, H⟩ := H
      try dsimp only at H
      replace H := Aside0.mk H
      have hcall := spec_l1In.calls _ _ _ _ W27  hm
      clear hm
      go_wp2_with fail
      refine hcall.mono ?_
      rintro e W29 ⟨rfl, hb⟩
      clear hcall
      replace BK1 := bK BK1 hb; replace c_BK1 := blk_cell BK1.out; replace z_BK1 := blk_frozen BK1.out
      replace HB := bH HB hb; clear hb
      replace H := H.out
      replace H := ifD H; rcases H with ⟨c30, H⟩ | ⟨c30, H⟩
      ·subst c30
       replace H := Option.bind_eq_some_iff.mp H
       obtain ⟨t267, hm, H⟩ := H
       try dsimp only at H
       replace H := Aside0.mk H
       have hcall := spec_IsTime.calls _ _ W29  hm
       clear hm
       go_wp2_with fail
       refine hcall.mono ?_
       rintro e W31 ⟨rfl, hb⟩
       clear hcall
       replace BK1 := bK BK1 hb; replace c_BK1 := blk_cell BK1.out; replace z_BK1 := blk_frozen BK1.out
       replace HB := bH HB hb; clear hb
       replace H := H.out
       replace H := ifD H; rcases H with ⟨c32, H⟩ | ⟨c32, H⟩
       ·subst c32
        replace H := Option.bind_eq_some_iff.mp H
        obtain ⟨t268, hm, H⟩ := H
        try dsimp only at H
        replace H := Aside0.mk H
        have hcall := spec_IsTime.calls _ _ W31  hm
        clear hm
        go_wp2_with fail
        refine hcall.mono ?_
        rintro e W33 ⟨rfl, hb⟩
        clear hcall
        replace BK1 := bK BK1 hb; replace c_BK1 := blk_cell BK1.out; replace z_BK1 := blk_frozen BK1.out
        replace HB := bH HB hb; clear hb
        replace H := H.out
        replace H := ifD H; rcases H with ⟨c34, H⟩ | ⟨c34, H⟩
        ·subst c34
         obtain rfl := Option.some.inj H
         clear H
         go_wp2
         go_ret
         exact ⟨rfl, HB.out⟩
        ·replace c34 := (Bool.not_eq_true _).mp c34
         subst c34
         obtain rfl := Option.some.inj H
         clear H
         go_wp2
         go_ret
         exact ⟨rfl, HB.out⟩
       ·replace c32 := (Bool.not_eq_true _).mp c32
        subst c32
        obtain rfl := Option.some.inj H
        clear H
        go_wp2
        go_ret
        exact ⟨rfl, HB.out⟩
      ·replace c30 := (Bool.not_eq_true _).mp c30
       subst c30
       obtain rfl := Option.some.inj H
       clear H
       go_wp2
       go_ret
       exact ⟨rfl, HB.out⟩
     ·replace c28 := (Bool.not_eq_true _).mp c28
      subst c28
      obtain rfl := Option.some.inj H
      clear H
      go_wp2
      go_ret
      exact ⟨rfl, HB.out⟩
    ·replace c26 := (Bool.not_eq_true _).mp c26
     subst c26
     obtain rfl := Option.some.inj H
     clear H
     go_wp2
     go_ret
     exact ⟨rfl, HB.out⟩
   ·have c24_0 := decF c24; have c24_1 := eqF c24; have c24_2 := neF c24
    clear c24
    first | rw [c24_1] | rw [c24_2] | skip
    replace H := ifD H; rcases H with ⟨c35, H⟩ | ⟨c35, H⟩
    ·have c35_0 := decT c35; have c35_1 := eqT c35; have c35_2 := neT c35
     clear c35
     first | rw [c35_1] | rw [c35_2] | skip
     replace H := Option.bind_eq_some_iff.mp H
     obtain ⟨t269, hm, H⟩ := H
     try dsimp only at H
     replace H := Aside0.mk H
     have hcall := spec_HasKind.calls _ _ _ W1  hm
     clear hm
     go_wp2_with fail
     refine hcall.mono ?_
     rintro e W36 ⟨rfl, hb⟩
     clear hcall
     replace BK1 := bK BK1 hb; replace c_BK1 := blk_cell BK1.out; replace z_BK1 := blk_frozen BK1.out
     replace HB := bH HB hb; clear hb
     replace H := H.out
     replace H := ifD H; rcases H with ⟨c37, H⟩ | ⟨c37, H⟩
     ·subst c37
      replace H := Option.bind_eq_some_iff.mp H
      obtain ⟨t270, hm, H⟩ := H
      try dsimp only at H
      replace H := Aside0.mk H
      have hcall := spec_l1In.calls _ _ _ _ W36  hm
      clear hm
      go_wp2_with fail
      refine hcall.mono ?_
      rintro e W38 ⟨rfl, hb⟩
      clear hcall
      replace BK1 := bK BK1 hb; replace c_BK1 := blk_cell BK1.out; replace z_BK1 := blk_frozen BK1.out
      replace HB := bH HB hb; clear hb
      replace H := H.out
      replace H := ifD H; rcases H with ⟨c39, H⟩ | ⟨c39, H⟩
      ·subst c39
       replace H := Option.bind_eq_some_iff.mp H
       obtain ⟨t271, hm, H⟩ := H
       try dsimp only at H
       replace H := Aside0.mk H
       have hcall := spec_l1In.calls _ _ _ _ W38  hm
       clear hm
       go_wp2_with fail
       refine hcall.mono ?_
       rintro e W40 ⟨rfl, hb⟩
       clear hcall
       replace BK1 := bK BK1 hb; replace c_BK1 := blk_cell BK1.out; replace z_BK1 := blk_frozen BK1.out
       replace HB := bH HB hb; clear hb
       replace H := H.out
       replace H := ifD H; rcases H with ⟨c41, H⟩ | ⟨c41, H⟩
       ·subst c41
        replace H := Option.bind_eq_some_iff.mp H
        obtain ⟨t272, hm, H⟩ := H
        try dsimp only at H
        replace H := Aside0.mk H
        have hcall := spec_IsTime.calls _ _ W40  hm
        clear hm
        go_wp2_with fail
        refine hcall.mono ?_
        rintro e W42 ⟨rfl, hb⟩
        clear hcall
        replace BK1 := bK BK1 hb; replace c_BK1 := blk_cell BK1.out; replace z_BK1 := blk_frozen BK1.out
        replace HB := bH HB hb; clear hb
        replace H := H.out
        replace H := ifD H; rcases H with ⟨c43, H⟩ | ⟨c43, H⟩
        ·subst c43
         replace H := Option.bind_eq_some_iff.mp H
         obtain ⟨t273, hm, H⟩ := H
         try dsimp only at H
         replace H := Aside0.mk H
         have hcall := spec_IsTime.calls _ _ W42  hm
         clear hm
         go_wp2_with fail
         refine hcall.mono ?_
         rintro e W44 ⟨rfl, hb⟩
         clear hcall
         replace BK1 := bK BK1 hb; replace c_BK1 := blk_cell BK1.out; replace z_BK1 := blk_frozen BK1.out
         replace HB := bH HB hb; clear hb
         replace H := H.out
         replace H := ifD H; rcases H with ⟨c45, H⟩ | ⟨c45, H⟩
         ·subst c45
          obtain rfl := Option.some.inj H
          clear H
          go_wp2
          go_ret
          exact ⟨rfl, HB.out⟩
         ·replace c45 := (Bool.not_eq_true _).mp c45
          subst c45
          obtain rfl := Option.some.inj H
          clear H
          go_wp2
          go_ret
          exact ⟨rfl, HB.out⟩
        ·replace c43 := (Bool.not_eq_true _).mp c43
         subst c43
         obtain rfl := Option.some.inj H
         clear H
         go_wp2
         go_ret
         exact ⟨rfl, HB.out⟩
       ·replace c41 := (Bool.not_eq_true _).mp c41
        subst c41
        obtain rfl := Option.some.inj H
        clear H
        go_wp2
        go_ret
        exact ⟨rfl, HB.out⟩
      ·replace c39 := (Bool.not_eq_true _).mp c39
       subst c39
       obtain rfl := Option.some.inj H
       clear H
       go_wp2
       go_ret
       exact ⟨rfl, HB.out⟩
     ·replace c37 := (Bool.not_eq_true _).mp c37
      subst c37
      obtain rfl := Option.some.inj H
      clear H
      go_wp2
      go_ret
      exact ⟨rfl, HB.out⟩
    ·have c35_0 := decF c35; have c35_1 := eqF c35; have c35_2 := neF c35
     clear c35
     first | rw [c35_1] | rw [c35_2] | skip
     obtain rfl := Option.some.inj H
     clear H
     go_wp2
     go_ret
     exact ⟨rfl, HB.out⟩

/-! ### spec_FactBefore: function 81 -/
def spec_FactBefore.f (a0_0 : Int) (a0_1 : Int) (a0_2 : Int) (a0_3 : Int) (a0_4 : Int) (a0_5 : Int) (a1_0 : Int) (a1_1 : Int) (a1_2 : Int) (a1_3 : Int) (a1_4 : Int) (a1_5 : Int) : Option (Bool) := if a0_0 = a1_0 then (if a0_1 = a1_1 then (if a0_2 = a1_2 then (some (decide (a0_3 < a1_3))) else (some (decide (a0_2 < a1_2)))) else (some (decide (a0_1 < a1_1)))) else (some (decide (a0_0 < a1_0)))
open Go.Proofs.YtineejdlpcgnkaaGreatM in
set_option maxHeartbeats 8000000 in
set_option maxRecDepth 100000 in
theorem spec_FactBefore.calls (a0_0 : Int) (a0_1 : Int) (a0_2 : Int) (a0_3 : Int) (a0_4 : Int) (a0_5 : Int) (a1_0 : Int) (a1_1 : Int) (a1_2 : Int) (a1_3 : Int) (a1_4 : Int) (a1_5 : Int) (r : Bool) (w : World) (h : spec_FactBefore.f a0_0 a0_1 a0_2 a0_3 a0_4 a0_5 a1_0 a1_1 a1_2 a1_3 a1_4 a1_5 = some r) :
  Calls Tryz.prog 81 #[.agg #[.int .i64 a0_0, .int .i64 a0_1, .int .i64 a0_2, .int .i64 a0_3, .int .i64 a0_4, .int .i64 a0_5], .agg #[.int .i64 a1_0, .int .i64 a1_1, .int .i64 a1_2, .int .i64 a1_3, .int .i64 a1_4, .int .i64 a1_5]] w fun e w' => e = .returned (.bool r) ∧ Below w.heap.size w w' := by
 have HB := Aside0.mk (Below.refl w.heap.size w)
 have H := h
 clear h
 unfold spec_FactBefore.f at H
 have hu53 := Tryz.underlying53
 go_enter Tryz.func81, Tryz.ntmps81
 replace H := Aside0.mk H
 go_upto_region 1 with (first | ((with_reducible refine gate_dst (N := 2) rfl ?_); refine box_event ?hg (N := 2) ?hd (cs := #[.int .i64 a0_0, .int .i64 a0_1, .int .i64 a0_2, .int .i64 a0_3, .int .i64 a0_4, .int .i64 a0_5]) (t := 53) ?hr ?_; (case hd => rfl); (case hg => rfl); (case hr => first | (go_simp; done) | (go_simp; rfl)); intro gb1 hg W1 hbox hb; replace HB := bH HB hb; clear hb; have BK1 := Aside0.mk hbox; have c_BK1 := blk_cell hbox; have z_BK1 := blk_frozen hbox; clear hg hbox) | ((with_reducible refine gate_dst (N := 3) rfl ?_); refine box_event ?hg (N := 3) ?hd (cs := #[.int .i64 a1_0, .int .i64 a1_1, .int .i64 a1_2, .int .i64 a1_3, .int .i64 a1_4, .int .i64 a1_5]) (t := 53) ?hr ?_; (case hd => rfl); (case hg => rfl); (case hr => first | (go_simp; done) | (go_simp; rfl)); intro gb2 hg W2 hbox hb; replace BK1 := bK BK1 hb; replace c_BK1 := blk_cell BK1.out; replace z_BK1 := blk_frozen BK1.out; replace HB := bH HB hb; clear hb; have BK2 := Aside0.mk hbox; have c_BK2 := blk_cell hbox; have z_BK2 := blk_frozen hbox; clear hg hbox))
 replace H := H.out
 replace H := ifD H; rcases H with ⟨c3, H⟩ | ⟨c3, H⟩
 ·have c3_0 := decT c3; have c3_1 := eqT c3; have c3_2 := neT c3
  clear c3
  first | rw [c3_1] | rw [c3_2] | skip
  replace H := ifD H; rcases H with ⟨c4, H⟩ | ⟨c4, H⟩
  ·have c4_0 := decT c4; have c4_1 := eqT c4; have c4_2 := neT c4
   clear c4
   first | rw [c4_1] | rw [c4_2] | skip
   replace H := ifD H; rcases H with ⟨c5, H⟩ | ⟨c5, H⟩
   ·have c5_0 := decT c5; have c5_1 := eqT c5; have c5_2 := neT c5
    clear c5
    first | rw [c5_1] | rw [c5_2] | skip
    obtain rfl := Option.some.inj H
    clear H
    go_wp2
    go_ret
    exact ⟨rfl, HB.out⟩
   ·have c5_0 := decF c5; have c5_1 := eqF c5; have c5_2 := neF c5
    clear c5
    first | rw [c5_1] | rw [c5_2] | skip
    obtain rfl := Option.some.inj H
    clear H
    go_wp2
    go_ret
    exact ⟨rfl, HB.out⟩
  ·have c4_0 := decF c4; have c4_1 := eqF c4; have c4_2 := neF c4
   clear c4
   first | rw [c4_1] | rw [c4_2] | skip
   obtain rfl := Option.some.inj H
   clear H
   go_wp2
   go_ret
   exact ⟨rfl, HB.out⟩
 ·have c3_0 := decF c3; have c3_1 := eqF c3; have c3_2 := neF c3
  clear c3
  first | rw [c3_1] | rw [c3_2] | skip
  obtain rfl := Option.some.inj H
  clear H
  go_wp2
  go_ret
  exact ⟨rfl, HB.out⟩

/-! ### spec_IsStore: function 30 -/
def spec_IsStore.l0 : Nat → List (S53) → Int → Option (Bool)
 | 0, _, _ => none
 | k + 1, x0, x3 => if x3 < (x0.length : Int) then (if 0 ≤ x3 then ((spec_IsFact.f ((rd_T53 x0 x3).f0) ((rd_T53 x0 x3).f1) ((rd_T53 x0 x3).f2) ((rd_T53 x0 x3).f3) ((rd_T53 x0 x3).f4) ((rd_T53 x0 x3).f5)).bind fun t277 => (if t277 = true then (if x3 > 0 then (if 0 ≤ (wrap64 (x3 - 1)) then (if (wrap64 (x3 - 1)) < (x0.length : Int) then ((spec_FactBefore.f ((rd_T53 x0 (wrap64 (x3 - 1))).f0) ((rd_T53 x0 (wrap64 (x3 - 1))).f1) ((rd_T53 x0 (wrap64 (x3 - 1))).f2) ((rd_T53 x0 (wrap64 (x3 - 1))).f3) ((rd_T53 x0 (wrap64 (x3 - 1))).f4) ((rd_T53 x0 (wrap64 (x3 - 1))).f5) ((rd_T53 x0 x3).f0) ((rd_T53 x0 x3).f1) ((rd_T53 x0 x3).f2) ((rd_T53 x0 x3).f3) ((rd_T53 x0 x3).f4) ((rd_T53 x0 x3).f5)).bind fun t280 => (if t280 = true then (spec_IsStore.l0 k x0 (wrap64 (x3 + 1))) else (some false))) else (none)) else (none)) else (spec_IsStore.l0 k x0 (wrap64 (x3 + 1)))) else (some false))) else (none)) else (some (decide ((x0.length : Int) ≤ 30)))
def spec_IsStore.f (k : Nat) (l0 : List (S53)) : Option (Bool) := spec_IsStore.l0 k l0 0
open Go.Proofs.YtineejdlpcgnkaaGreatM in
set_option maxHeartbeats 8000000 in
set_option maxRecDepth 100000 in
theorem spec_IsStore.calls (k : Nat) (A0 : Option Addr) (c0 : Nat) (l0 : List (S53)) (r : Bool) (w : World) (hr0 : Kd.C k53 w A0 l0.length l0) (hc0 : l0.length ≤ c0) (h : spec_IsStore.f k l0 = some r) :
  Calls Tryz.prog 30 #[.slice A0 l0.length c0] w fun e w' => e = .returned (.bool r) ∧ Below w.heap.size w w' := by
 have HR0 := Aside0.mk hr0
 have HC0 := Aside0.mk hc0
 clear hr0 hc0
 have HB := Aside0.mk (Below.refl w.heap.size w)
 have H := h
 clear h
 unfold spec_IsStore.f at H
 have hu53 := Tryz.underlying53
 go_enter Tryz.func30, Tryz.ntmps30
 replace H := Aside0.mk H
 go_wp2
 go_loopg [3] k (fun kq v3 w' => ∃ (x3_1 : Int), v3 = .int .i64 x3_1 ∧ Aside0 (spec_IsStore.l0 kq l0 x3_1 = some r) ∧ Aside0 (kq ≤ k) ∧ Aside0 (Below w.heap.size w w'))
 case atStart => exact ⟨(0), (by first | rfl | (simp; done) | (simp [*]; done)), H, ⟨Nat.le_refl _⟩, HB⟩
 case round =>
  clear H HB 
  obtain ⟨x3_1, rfl, HA, Hk1, HB⟩ := hrel
  cases gk with
  | zero => exact absurd HA.out (by simp [spec_IsStore.l0])
  | succ k1 =>
   have H := HA.out
   clear HA
   simp only [spec_IsStore.l0] at H
   replace H := ifD H; rcases H with ⟨c2, H⟩ | ⟨c2, H⟩
   ·have c2_0 := decT c2
    replace c2 := Aside0.mk c2
    first | rw [c2_0] | skip
    replace H := Aside0.mk H
    try go_wp2
    have HBr := HB; replace HB := dH HB
    refine stA (n := 23) (S := fun w' => Below wr.heap.size wr w') (by kernel_rfl) rfl (below_drew1 (Below.refl _ wr)) (by kernel_rfl) (fun hHeld => ?_)
    generalize wr.drew = W3 at HB hHeld ⊢
    refine pu 0 (some 10) 1 ?_; refine pu 1 (some 11) 3 ?_
    replace H := H.out
    replace H := ifN H; obtain ⟨c4, H⟩ := H
    have c4_0 := decT c4
    replace c4 := Aside0.mk c4
    first | rw [c4_0] | skip
    have p276 : 0 ≤ (x3_1 : Int) := (of_decide_eq_true (by assumption))
    have q276 : x3_1 < (l0.length : Int) := (of_decide_eq_true (by assumption))
    obtain ⟨ad276, e276, hx276_0, hx276_1, hx276_2, hx276_3, hx276_4, hx276_5⟩ := at_T53 HR0.out x3_1 p276 q276
    cases e276
    replace hx276_0 := Aside0.mk hx276_0
    replace hx276_1 := Aside0.mk hx276_1
    replace hx276_2 := Aside0.mk hx276_2
    replace hx276_3 := Aside0.mk hx276_3
    replace hx276_4 := Aside0.mk hx276_4
    replace hx276_5 := Aside0.mk hx276_5
    have r276 := eq_true p276; have s276 := eq_true q276
    replace p276 := Aside0.mk p276; replace q276 := Aside0.mk q276
    replace H := Option.bind_eq_some_iff.mp H
    obtain ⟨t277, hm, H⟩ := H
    try dsimp only at H
    replace hm := Aside0.mk hm
    replace H := Aside0.mk H
    refine pu 2 (some 12) 7 ?_; refine ld 3 (some 13) 15 hHeld ?_ (hr := by (intro w' h_; have y0_ := xD HBr h_ hx276_0; have y1_ := xD HBr h_ hx276_1; have y2_ := xD HBr h_ hx276_2; have y3_ := xD HBr h_ hx276_3; have y4_ := xD HBr h_ hx276_4; have y5_ := xD HBr h_ hx276_5; go_simp; with_reducible rfl))
    refine on 4 (some 14) 31 (fun K hK => ?_)
    have hcall := spec_IsFact.calls _ _ _ _ _ _ _ W3  hm.out
    refine goes_ Tryz.func80 (by kernel_rfl) rfl #[.agg #[.int .i64 ((rd_T53 l0 x3_1).f0), .int .i64 ((rd_T53 l0 x3_1).f1), .int .i64 ((rd_T53 l0 x3_1).f2), .int .i64 ((rd_T53 l0 x3_1).f3), .int .i64 ((rd_T53 l0 x3_1).f4), .int .i64 ((rd_T53 l0 x3_1).f5)]] (by rfl) rfl rfl (by (try simp only [List.map_toArray, List.map_cons, List.map_nil]); first | done | rfl) ?_
    refine hcall.mono ?_
    rintro e W6 ⟨rfl, hb⟩
    refine ⟨_, rfl, ?_⟩
    clear hcall hm
    replace hHeld := below_step hHeld hb
    replace HB := bH HB hb; clear hb
    refine hK.out _ _ hHeld (fun hHeld => ?_)
    clear hK K
    refine nr 14 ?_
    replace H := H.out
    replace H := ifD H; rcases H with ⟨c7, H⟩ | ⟨c7, H⟩
    ·subst c7
     replace H := ifD H; rcases H with ⟨c8, H⟩ | ⟨c8, H⟩
     ·replace c8 : 0 < x3_1 := c8
      have c8_0 := decT c8
      replace c8 := Aside0.mk c8
      first | rw [c8_0] | skip
      replace H := ifN H; obtain ⟨c9, H⟩ := H
      have c9_0 := decT c9
      replace c9 := Aside0.mk c9
      first | rw [c9_0] | skip
      replace H := ifN H; obtain ⟨c10, H⟩ := H
      have c10_0 := decT c10
      replace c10 := Aside0.mk c10
      first | rw [c10_0] | skip
      have p278 : 0 ≤ ((wrap64 (x3_1 - 1)) : Int) := (of_decide_eq_true (by assumption))
      have q278 : (wrap64 (x3_1 - 1)) < (l0.length : Int) := (of_decide_eq_true (by assumption))
      obtain ⟨ad278, e278, hx278_0, hx278_1, hx278_2, hx278_3, hx278_4, hx278_5⟩ := at_T53 HR0.out (wrap64 (x3_1 - 1)) p278 q278
      obtain rfl : ad276 = ad278 := by injection e278
      replace hx278_0 := Aside0.mk hx278_0
      replace hx278_1 := Aside0.mk hx278_1
      replace hx278_2 := Aside0.mk hx278_2
      replace hx278_3 := Aside0.mk hx278_3
      replace hx278_4 := Aside0.mk hx278_4
      replace hx278_5 := Aside0.mk hx278_5
      have r278 := eq_true p278; have s278 := eq_true q278
      replace p278 := Aside0.mk p278; replace q278 := Aside0.mk q278
      replace H := Option.bind_eq_some_iff.mp H
      obtain ⟨t280, hm, H⟩ := H
      try dsimp only at H
      replace hm := Aside0.mk hm
      replace H := Aside0.mk H
      refine pu 5 (some 15) 63 ?_; refine pu 6 (some 16) 127 ?_; refine pu 7 (some 17) 255 ?_; refine pu 8 (some 18) 511 ?_; refine pu 9 (some 19) 1023 ?_; refine pu 10 (some 20) 2047 ?_; refine pu 11 (some 21) 4095 ?_; refine pu 12 (some 22) 8191 ?_; refine pu 13 (some 23) 16383 ?_; refine pu 15 (some 25) 49151 ?_; refine pu 16 (some 26) 114687 ?_; refine pu 17 (some 27) 245759 ?_; refine ld 14 (some 24) 262143 hHeld ?_ (hr := by (intro w' h_; have y0_ := xD HBr h_ hx278_0; have y1_ := xD HBr h_ hx278_1; have y2_ := xD HBr h_ hx278_2; have y3_ := xD HBr h_ hx278_3; have y4_ := xD HBr h_ hx278_4; have y5_ := xD HBr h_ hx278_5; go_simp; with_reducible rfl)); refine ld 18 (some 28) 524287 hHeld ?_ (hr := by (intro w' h_; have y0_ := xD HBr h_ hx276_0; have y1_ := xD HBr h_ hx276_1; have y2_ := xD HBr h_ hx276_2; have y3_ := xD HBr h_ hx276_3; have y4_ := xD HBr h_ hx276_4; have y5_ := xD HBr h_ hx276_5; go_simp; with_reducible rfl))
      refine on 19 (some 29) 1048575 (fun K hK => ?_)
      have hcall := spec_FactBefore.calls _ _ _ _ _ _ _ _ _ _ _ _ _ W6  hm.out
      refine goes_ Tryz.func81 (by kernel_rfl) rfl #[.agg #[.int .i64 ((rd_T53 l0 (wrap64 (x3_1 - 1))).f0), .int .i64 ((rd_T53 l0 (wrap64 (x3_1 - 1))).f1), .int .i64 ((rd_T53 l0 (wrap64 (x3_1 - 1))).f2), .int .i64 ((rd_T53 l0 (wrap64 (x3_1 - 1))).f3), .int .i64 ((rd_T53 l0 (wrap64 (x3_1 - 1))).f4), .int .i64 ((rd_T53 l0 (wrap64 (x3_1 - 1))).f5)], .agg #[.int .i64 ((rd_T53 l0 x3_1).f0), .int .i64 ((rd_T53 l0 x3_1).f1), .int .i64 ((rd_T53 l0 x3_1).f2), .int .i64 ((rd_T53 l0 x3_1).f3), .int .i64 ((rd_T53 l0 x3_1).f4), .int .i64 ((rd_T53 l0 x3_1).f5)]] (by rfl) rfl rfl (by (try simp only [List.map_toArray, List.map_cons, List.map_nil]); first | done | rfl) ?_
      refine hcall.mono ?_
      rintro e W12 ⟨rfl, hb⟩
      refine ⟨_, rfl, ?_⟩
      clear hcall hm
      replace hHeld := below_step hHeld hb
      replace HB := bH HB hb; clear hb
      refine hK.out _ _ hHeld (fun hHeld => ?_)
      clear hK K
      refine nr 29 ?_
      refine pu 20 (some 30) 2097151 ?_; refine pu 21 (some 31) 4194303 ?_; refine pu 22 (some 32) 8388607 ?_
      refine dn (by kernel_rfl) ?_
      clear hHeld HBr
      replace H := H.out
      replace H := ifD H; rcases H with ⟨c13, H⟩ | ⟨c13, H⟩
      ·subst c13
       replace H := Aside0.mk H
       go_wp2
       go_roundg k1
       case measure => have := Hk1.out; omega
       case rel => exact ⟨(wrap64 (x3_1 + 1)), (by first | rfl | (simp; done) | (simp [*]; done)), H, ⟨by have := Hk1.out; omega⟩, HB⟩
      ·replace c13 := (Bool.not_eq_true _).mp c13
       subst c13
       obtain rfl := Option.some.inj H
       clear H
       go_wp2
       go_ret
       exact ⟨rfl, HB.out⟩
     ·replace c8 : ¬ (0 < x3_1) := c8
      have c8_0 := decF c8
      replace c8 := Aside0.mk c8
      first | rw [c8_0] | skip
      replace H := Aside0.mk H
      refine pu 5 (some 15) 63 ?_; refine pu 6 (some 16) 127 ?_; refine pu 7 (some 17) 255 ?_; refine pu 8 (some 18) 511 ?_; refine pu 9 (some 19) 1023 ?_; refine sk 10 (some 20) 2047 ?_; refine sk 11 (some 21) 4095 ?_; refine sk 12 (some 22) 8191 ?_; refine sk 13 (some 23) 16383 ?_; refine sk 14 (some 24) 32767 ?_; refine sk 15 (some 25) 65535 ?_; refine sk 16 (some 26) 131071 ?_; refine sk 17 (some 27) 262143 ?_; refine sk 18 (some 28) 524287 ?_; refine sk 19 (some 29) 1048575 ?_; refine sk 20 (some 30) 2097151 ?_; refine pu 21 (some 31) 4194303 ?_; refine pu 22 (some 32) 8388607 ?_
      refine dn (by kernel_rfl) ?_
      clear hHeld HBr
      go_wp2
      go_roundg k1
      case measure => have := Hk1.out; omega
      case rel => exact ⟨(wrap64 (x3_1 + 1)), (by first | rfl | (simp; done) | (simp [*]; done)), H, ⟨by have := Hk1.out; omega⟩, HB⟩
    ·replace c7 := (Bool.not_eq_true _).mp c7
     subst c7
     replace H := Aside0.mk H
     refine pu 5 (some 15) 63 ?_; refine pu 6 (some 16) 127 ?_; refine sk 7 (some 17) 255 ?_; refine sk 8 (some 18) 511 ?_; refine sk 9 (some 19) 1023 ?_; refine sk 10 (some 20) 2047 ?_; refine sk 11 (some 21) 4095 ?_; refine sk 12 (some 22) 8191 ?_; refine sk 13 (some 23) 16383 ?_; refine sk 14 (some 24) 32767 ?_; refine sk 15 (some 25) 65535 ?_; refine sk 16 (some 26) 131071 ?_; refine sk 17 (some 27) 262143 ?_; refine sk 18 (some 28) 524287 ?_; refine sk 19 (some 29) 1048575 ?_; refine sk 20 (some 30) 2097151 ?_; refine sk 21 (some 31) 4194303 ?_; refine pu 22 (some 32) 8388607 ?_
     refine dn (by kernel_rfl) ?_
     clear hHeld HBr
     replace H := H.out
     obtain rfl := Option.some.inj H
     clear H
     go_wp2
     go_ret
     exact ⟨rfl, HB.out⟩
   ·have c2_0 := decF c2
    replace c2 := Aside0.mk c2
    first | rw [c2_0] | skip
    obtain rfl := Option.some.inj H
    clear H
    go_wp2
    go_ret
    exact ⟨rfl, HB.out⟩

/-! ### spec_AreRevoked: function 31 -/
def spec_AreRevoked.l0 : Nat → List (S121) → Int → Option (Bool)
 | 0, _, _ => none
 | k + 1, x0, x3 => if x3 < (x0.length : Int) then (if 0 ≤ x3 then ((spec_l1In.f ((rd_T121 x0 x3).f0) 1 9999).bind fun t282 => (if t282 = true then ((spec_IsTime.f ((rd_T121 x0 x3).f1)).bind fun t284 => (if t284 = true then (if x3 > 0 then (if 0 ≤ (wrap64 (x3 - 1)) then (if (wrap64 (x3 - 1)) < (x0.length : Int) then (if ((rd_T121 x0 (wrap64 (x3 - 1))).f0) ≥ ((rd_T121 x0 x3).f0) then (some false) else (spec_AreRevoked.l0 k x0 (wrap64 (x3 + 1)))) else (none)) else (none)) else (spec_AreRevoked.l0 k x0 (wrap64 (x3 + 1)))) else (some false))) else (some false))) else (none)) else (some (decide ((x0.length : Int) ≤ 40)))
def spec_AreRevoked.f (k : Nat) (l0 : List (S121)) : Option (Bool) := spec_AreRevoked.l0 k l0 0
open Go.Proofs.YtineejdlpcgnkaaGreatM in
set_option maxHeartbeats 8000000 in
set_option maxRecDepth 100000 in
theorem spec_AreRevoked.calls (k : Nat) (A0 : Option Addr) (c0 : Nat) (l0 : List (S121)) (r : Bool) (w : World) (hr0 : Kd.C k121 w A0 l0.length l0) (hc0 : l0.length ≤ c0) (h : spec_AreRevoked.f k l0 = some r) :
  Calls Tryz.prog 31 #[.slice A0 l0.length c0] w fun e w' => e = .returned (.bool r) ∧ Below w.heap.size w w' := by
 have HR0 := Aside0.mk hr0
 have HC0 := Aside0.mk hc0
 clear hr0 hc0
 have HB := Aside0.mk (Below.refl w.heap.size w)
 have H := h
 clear h
 unfold spec_AreRevoked.f at H
 have hu121 := Tryz.underlying121
 go_enter Tryz.func31, Tryz.ntmps31
 replace H := Aside0.mk H
 go_wp2
 go_loopg [3] k (fun kq v3 w' => ∃ (x3_1 : Int), v3 = .int .i64 x3_1 ∧ Aside0 (spec_AreRevoked.l0 kq l0 x3_1 = some r) ∧ Aside0 (kq ≤ k) ∧ Aside0 (Below w.heap.size w w'))
 case atStart => exact ⟨(0), (by first | rfl | (simp; done) | (simp [*]; done)), H, ⟨Nat.le_refl _⟩, HB⟩
 case round =>
  clear H HB 
  obtain ⟨x3_1, rfl, HA, Hk1, HB⟩ := hrel
  cases gk with
  | zero => exact absurd HA.out (by simp [spec_AreRevoked.l0])
  | succ k1 =>
   have H := HA.out
   clear HA
   simp only [spec_AreRevoked.l0] at H
   replace H := ifD H; rcases H with ⟨c2, H⟩ | ⟨c2, H⟩
   ·have c2_0 := decT c2
    replace c2 := Aside0.mk c2
    first | rw [c2_0] | skip
    replace H := Aside0.mk H
    try go_wp2
    have HBr := HB; replace HB := dH HB
    refine stA (n := 34) (S := fun w' => Below wr.heap.size wr w') (by kernel_rfl) rfl (below_drew1 (Below.refl _ wr)) (by kernel_rfl) (fun hHeld => ?_)
    generalize wr.drew = W3 at HB hHeld ⊢
    refine pu 0 (some 10) 1 ?_; refine pu 1 (some 11) 3 ?_
    replace H := H.out
    replace H := ifN H; obtain ⟨c4, H⟩ := H
    have c4_0 := decT c4
    replace c4 := Aside0.mk c4
    first | rw [c4_0] | skip
    have p281 : 0 ≤ (x3_1 : Int) := (of_decide_eq_true (by assumption))
    have q281 : x3_1 < (l0.length : Int) := (of_decide_eq_true (by assumption))
    obtain ⟨ad281, e281, hx281_0, hx281_1⟩ := at_T121 HR0.out x3_1 p281 q281
    cases e281
    replace hx281_0 := Aside0.mk hx281_0
    replace hx281_1 := Aside0.mk hx281_1
    have r281 := eq_true p281; have s281 := eq_true q281
    replace p281 := Aside0.mk p281; replace q281 := Aside0.mk q281
    replace H := Option.bind_eq_some_iff.mp H
    obtain ⟨t282, hm, H⟩ := H
    try dsimp only at H
    replace hm := Aside0.mk hm
    replace H := Aside0.mk H
    refine pu 2 (some 12) 7 ?_; refine pu 3 (some 13) 15 ?_; refine ld 4 (some 14) 31 hHeld ?_ (hr := by (intro w' h_; have y0_ := xD HBr h_ hx281_0; have y1_ := xD HBr h_ hx281_1; go_simp; with_reducible rfl))
    refine on 5 (some 15) 63 (fun K hK => ?_)
    have hcall := spec_l1In.calls _ _ _ _ W3  hm.out
    refine goes_ Tryz.func64 (by kernel_rfl) rfl #[.int .i64 ((rd_T121 l0 x3_1).f0), .int .i64 1, .int .i64 9999] (by rfl) rfl rfl (by (try simp only [List.map_toArray, List.map_cons, List.map_nil]); first | done | rfl) ?_
    refine hcall.mono ?_
    rintro e W6 ⟨rfl, hb⟩
    refine ⟨_, rfl, ?_⟩
    clear hcall hm
    replace hHeld := below_step hHeld hb
    replace HB := bH HB hb; clear hb
    refine hK.out _ _ hHeld (fun hHeld => ?_)
    clear hK K
    refine nr 15 ?_
    replace H := H.out
    replace H := ifD H; rcases H with ⟨c7, H⟩ | ⟨c7, H⟩
    ·subst c7
     replace H := Option.bind_eq_some_iff.mp H
     obtain ⟨t284, hm, H⟩ := H
     try dsimp only at H
     replace hm := Aside0.mk hm
     replace H := Aside0.mk H
     refine pu 6 (some 16) 127 ?_; refine pu 7 (some 17) 255 ?_; refine pu 8 (some 18) 511 ?_; refine pu 9 (some 19) 1023 ?_; refine pu 10 (some 20) 2047 ?_; refine pu 11 (some 21) 4095 ?_; refine ld 12 (some 22) 8191 hHeld ?_ (hr := by (intro w' h_; have y0_ := xD HBr h_ hx281_0; have y1_ := xD HBr h_ hx281_1; go_simp; with_reducible rfl))
     refine on 13 (some 23) 16383 (fun K hK => ?_)
     have hcall := spec_IsTime.calls _ _ W6  hm.out
     refine goes_ Tryz.func76 (by kernel_rfl) rfl #[.int .i64 ((rd_T121 l0 x3_1).f1)] (by rfl) rfl rfl (by (try simp only [List.map_toArray, List.map_cons, List.map_nil]); first | done | rfl) ?_
     refine hcall.mono ?_
     rintro e W9 ⟨rfl, hb⟩
     refine ⟨_, rfl, ?_⟩
     clear hcall hm
     replace hHeld := below_step hHeld hb
     replace HB := bH HB hb; clear hb
     refine hK.out _ _ hHeld (fun hHeld => ?_)
     clear hK K
     refine nr 23 ?_
     replace H := H.out
     replace H := ifD H; rcases H with ⟨c10, H⟩ | ⟨c10, H⟩
     ·subst c10
      replace H := ifD H; rcases H with ⟨c11, H⟩ | ⟨c11, H⟩
      ·replace c11 : 0 < x3_1 := c11
       have c11_0 := decT c11
       replace c11 := Aside0.mk c11
       first | rw [c11_0] | skip
       replace H := ifN H; obtain ⟨c12, H⟩ := H
       have c12_0 := decT c12
       replace c12 := Aside0.mk c12
       first | rw [c12_0] | skip
       replace H := ifN H; obtain ⟨c13, H⟩ := H
       have c13_0 := decT c13
       replace c13 := Aside0.mk c13
       first | rw [c13_0] | skip
       have p285 : 0 ≤ ((wrap64 (x3_1 - 1)) : Int) := (of_decide_eq_true (by assumption))
       have q285 : (wrap64 (x3_1 - 1)) < (l0.length : Int) := (of_decide_eq_true (by assumption))
       obtain ⟨ad285, e285, hx285_0, hx285_1⟩ := at_T121 HR0.out (wrap64 (x3_1 - 1)) p285 q285
       obtain rfl : ad281 = ad285 := by injection e285
       replace hx285_0 := Aside0.mk hx285_0
       replace hx285_1 := Aside0.mk hx285_1
       have r285 := eq_true p285; have s285 := eq_true q285
       replace p285 := Aside0.mk p285; replace q285 := Aside0.mk q285
       replace H := Aside0.mk H
       refine pu 14 (some 24) 32767 ?_; refine pu 15 (some 25) 65535 ?_; refine pu 16 (some 26) 131071 ?_; refine pu 17 (some 27) 262143 ?_; refine pu 18 (some 28) 524287 ?_; refine pu 19 (some 29) 1048575 ?_; refine pu 20 (some 30) 2097151 ?_; refine pu 21 (some 31) 4194303 ?_; refine pu 22 (some 32) 8388607 ?_; refine pu 23 (some 33) 16777215 ?_; refine pu 24 (some 34) 33554431 ?_; refine pu 26 (some 36) 100663295 ?_; refine pu 27 (some 37) 234881023 ?_; refine pu 28 (some 38) 503316479 ?_; refine pu 29 (some 39) 1040187391 ?_; refine ld 25 (some 35) 1073741823 hHeld ?_ (hr := by (intro w' h_; have y0_ := xD HBr h_ hx285_0; have y1_ := xD HBr h_ hx285_1; go_simp; with_reducible rfl)); refine ld 30 (some 40) 2147483647 hHeld ?_ (hr := by (intro w' h_; have y0_ := xD HBr h_ hx281_0; have y1_ := xD HBr h_ hx281_1; go_simp; with_reducible rfl)); refine pu 31 (some 41) 4294967295 ?_; refine pu 32 (some 42) 8589934591 ?_; refine pu 33 (some 43) 17179869183 ?_
       refine dn (by kernel_rfl) ?_
       clear hHeld HBr
       replace H := H.out
       replace H := ifD H; rcases H with ⟨c14, H⟩ | ⟨c14, H⟩
       ·replace c14 : ((rd_T121 l0 x3_1).f0) ≤ ((rd_T121 l0 (wrap64 (x3_1 - 1))).f0) := c14
        have c14_0 := decT c14
        replace c14 := Aside0.mk c14
        first | rw [c14_0] | skip
        obtain rfl := Option.some.inj H
        clear H
        go_wp2
        go_ret
        exact ⟨rfl, HB.out⟩
       ·replace c14 : ¬ (((rd_T121 l0 x3_1).f0) ≤ ((rd_T121 l0 (wrap64 (x3_1 - 1))).f0)) := c14
        have c14_0 := decF c14
        replace c14 := Aside0.mk c14
        first | rw [c14_0] | skip
        replace H := Aside0.mk H
        go_wp2
        go_roundg k1
        case measure => have := Hk1.out; omega
        case rel => exact ⟨(wrap64 (x3_1 + 1)), (by first | rfl | (simp; done) | (simp [*]; done)), H, ⟨by have := Hk1.out; omega⟩, HB⟩
      ·replace c11 : ¬ (0 < x3_1) := c11
       have c11_0 := decF c11
       replace c11 := Aside0.mk c11
       first | rw [c11_0] | skip
       replace H := Aside0.mk H
       refine pu 14 (some 24) 32767 ?_; refine pu 15 (some 25) 65535 ?_; refine pu 16 (some 26) 131071 ?_; refine pu 17 (some 27) 262143 ?_; refine pu 18 (some 28) 524287 ?_; refine pu 19 (some 29) 1048575 ?_; refine sk 20 (some 30) 2097151 ?_; refine sk 21 (some 31) 4194303 ?_; refine sk 22 (some 32) 8388607 ?_; refine sk 23 (some 33) 16777215 ?_; refine sk 24 (some 34) 33554431 ?_; refine sk 25 (some 35) 67108863 ?_; refine sk 26 (some 36) 134217727 ?_; refine sk 27 (some 37) 268435455 ?_; refine sk 28 (some 38) 536870911 ?_; refine sk 29 (some 39) 1073741823 ?_; refine sk 30 (some 40) 2147483647 ?_; refine sk 31 (some 41) 4294967295 ?_; refine pu 32 (some 42) 8589934591 ?_; refine pu 33 (some 43) 17179869183 ?_
       refine dn (by kernel_rfl) ?_
       clear hHeld HBr
       go_wp2
       go_roundg k1
       case measure => have := Hk1.out; omega
       case rel => exact ⟨(wrap64 (x3_1 + 1)), (by first | rfl | (simp; done) | (simp [*]; done)), H, ⟨by have := Hk1.out; omega⟩, HB⟩
     ·replace c10 := (Bool.not_eq_true _).mp c10
      subst c10
      replace H := Aside0.mk H
      refine pu 14 (some 24) 32767 ?_; refine pu 15 (some 25) 65535 ?_; refine pu 16 (some 26) 131071 ?_; refine sk 17 (some 27) 262143 ?_; refine sk 18 (some 28) 524287 ?_; refine sk 19 (some 29) 1048575 ?_; refine sk 20 (some 30) 2097151 ?_; refine sk 21 (some 31) 4194303 ?_; refine sk 22 (some 32) 8388607 ?_; refine sk 23 (some 33) 16777215 ?_; refine sk 24 (some 34) 33554431 ?_; refine sk 25 (some 35) 67108863 ?_; refine sk 26 (some 36) 134217727 ?_; refine sk 27 (some 37) 268435455 ?_; refine sk 28 (some 38) 536870911 ?_; refine sk 29 (some 39) 1073741823 ?_; refine sk 30 (some 40) 2147483647 ?_; refine sk 31 (some 41) 4294967295 ?_; refine sk 32 (some 42) 8589934591 ?_; refine pu 33 (some 43) 17179869183 ?_
      refine dn (by kernel_rfl) ?_
      clear hHeld HBr
      replace H := H.out
      obtain rfl := Option.some.inj H
      clear H
      go_wp2
      go_ret
      exact ⟨rfl, HB.out⟩
    ·replace c7 := (Bool.not_eq_true _).mp c7
     subst c7
     replace H := Aside0.mk H
     refine pu 6 (some 16) 127 ?_; refine pu 7 (some 17) 255 ?_; refine sk 8 (some 18) 511 ?_; refine sk 9 (some 19) 1023 ?_; refine sk 10 (some 20) 2047 ?_; refine sk 11 (some 21) 4095 ?_; refine sk 12 (some 22) 8191 ?_; refine sk 13 (some 23) 16383 ?_; refine sk 14 (some 24) 32767 ?_; refine pu 15 (some 25) 65535 ?_; refine pu 16 (some 26) 131071 ?_; refine sk 17 (some 27) 262143 ?_; refine sk 18 (some 28) 524287 ?_; refine sk 19 (some 29) 1048575 ?_; refine sk 20 (some 30) 2097151 ?_; refine sk 21 (some 31) 4194303 ?_; refine sk 22 (some 32) 8388607 ?_; refine sk 23 (some 33) 16777215 ?_; refine sk 24 (some 34) 33554431 ?_; refine sk 25 (some 35) 67108863 ?_; refine sk 26 (some 36) 134217727 ?_; refine sk 27 (some 37) 268435455 ?_; refine sk 28 (some 38) 536870911 ?_; refine sk 29 (some 39) 1073741823 ?_; refine sk 30 (some 40) 2147483647 ?_; refine sk 31 (some 41) 4294967295 ?_; refine sk 32 (some 42) 8589934591 ?_; refine pu 33 (some 43) 17179869183 ?_
     refine dn (by kernel_rfl) ?_
     clear hHeld HBr
     replace H := H.out
     obtain rfl := Option.some.inj H
     clear H
     go_wp2
     go_ret
     exact ⟨rfl, HB.out⟩
   ·have c2_0 := decF c2
    replace c2 := Aside0.mk c2
    first | rw [c2_0] | skip
    obtain rfl := Option.some.inj H
    clear H
    go_wp2
    go_ret
    exact ⟨rfl, HB.out⟩

end Go.Proofs.YtineejdlpcgnkaaGreat.QFnExactIsCenter
