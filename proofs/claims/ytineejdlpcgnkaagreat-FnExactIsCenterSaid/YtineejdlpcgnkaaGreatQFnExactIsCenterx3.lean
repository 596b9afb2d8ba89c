/- The machine side of FnExactIsCenter: what each function that it reaches computes, and that the machine's call gives just that. -/
import Derived.Test.YtineejdlpcgnkaaGreatQFnExactIsCenterx0
import Derived.Test.YtineejdlpcgnkaaGreatQFnExactIsCenterx2
namespace Go.Proofs.YtineejdlpcgnkaaGreat.QFnExactIsCenter
open Go.RowKit Go.Proofs.YtineejdlpcgnkaaGreatW.PrintWords Go.Proofs.YtineejdlpcgnkaaGreatW.PrintLast Go.Proofs.YtineejdlpcgnkaaGreatW.PrintMore
attribute [local go_sem] max2_int min2_int max_two min_two max_three min_three max_four min_four   -- for this text's walks alone
set_option linter.unusedVariables false
set_option linter.unusedSimpArgs false

/-! ### laws_szCenter: function 7 -/
def laws_szCenter.f (k : Nat) (l0_0 : List (S100)) (l0_1 : List (S107)) (l0_2 : List (S49)) (l0_3 : List (S125)) (a0_4 : Int) (l0_5 : List (S127)) (a1 : Int) : Option (Int) := (laws_szIssuerS.f k l0_0 a1).bind fun t121 => (if t121 < 0 then (some (-1)) else ((laws_szEpochS.f k l0_1 t121).bind fun t122 => (if t122 < 0 then (some (-1)) else ((laws_szFactS.f l0_2 t122).bind fun t123 => (if t123 < 0 then (some (-1)) else ((laws_szRevokedS.f l0_3 t123).bind fun t124 => (if t124 < 0 then (some (-1)) else ((laws_szCertS.f l0_5 t124).bind fun t125 => (if t125 < 0 then (some (-1)) else (some t125))))))))))
open Go.Proofs.YtineejdlpcgnkaaGreatM in
set_option maxHeartbeats 8000000 in
set_option maxRecDepth 100000 in
theorem laws_szCenter.calls (k : Nat) (A0_0 : Option Addr) (c0_0 : Nat) (l0_0 : List (S100)) (A0_1 : Option Addr) (c0_1 : Nat) (l0_1 : List (S107)) (A0_2 : Option Addr) (c0_2 : Nat) (l0_2 : List (S49)) (A0_3 : Option Addr) (c0_3 : Nat) (l0_3 : List (S125)) (a0_4 : Int) (A0_5 : Option Addr) (c0_5 : Nat) (l0_5 : List (S127)) (a1 : Int) (r : Int) (w : World) (hr0_0 : Kd.C k100 w A0_0 l0_0.length l0_0) (hc0_0 : l0_0.length ≤ c0_0) (hr0_1 : Kd.C k107 w A0_1 l0_1.length l0_1) (hc0_1 : l0_1.length ≤ c0_1) (hr0_2 : Kd.C k49 w A0_2 l0_2.length l0_2) (hc0_2 : l0_2.length ≤ c0_2) (hr0_3 : Kd.C k125 w A0_3 l0_3.length l0_3) (hc0_3 : l0_3.length ≤ c0_3) (hr0_5 : Kd.C k127 w A0_5 l0_5.length l0_5) (hc0_5 : l0_5.length ≤ c0_5) (h : laws_szCenter.f k l0_0 l0_1 l0_2 l0_3 a0_4 l0_5 a1 = some r) :
  Calls Tryz.prog 7 #[.agg #[.slice A0_0 l0_0.length c0_0, .slice A0_1 l0_1.length c0_1, .slice A0_2 l0_2.length c0_2, .slice A0_3 l0_3.length c0_3, .int .i64 a0_4, .slice A0_5 l0_5.length c0_5], .int .i64 a1] w fun e w' => e = .returned (.int .i64 r) ∧ Below w.heap.size w w' := by
 have HR0_0 := Aside0.mk hr0_0
 have HC0_0 := Aside0.mk hc0_0
 clear hr0_0 hc0_0
 have HR0_1 := Aside0.mk hr0_1
 have HC0_1 := Aside0.mk hc0_1
 clear hr0_1 hc0_1
 have HR0_2 := Aside0.mk hr0_2
 have HC0_2 := Aside0.mk hc0_2
 clear hr0_2 hc0_2
 have HR0_3 := Aside0.mk hr0_3
 have HC0_3 := Aside0.mk hc0_3
 clear hr0_3 hc0_3
 have HR0_5 := Aside0.mk hr0_5
 have HC0_5 := Aside0.mk hc0_5
 clear hr0_5 hc0_5
 have HB := Aside0.mk (Below.refl w.heap.size w)
 have H := h
 clear h
 unfold laws_szCenter.f at H
 have hu28 := Tryz.underlying28
 go_enter Tryz.func7, Tryz.ntmps7
 replace H := Aside0.mk H
 go_upto_region 1 with (first | ((with_reducible refine gate_dst (N := 2) rfl ?_); refine box_event ?hg (N := 2) ?hd (cs := #[.slice A0_0 l0_0.length c0_0, .slice A0_1 l0_1.length c0_1, .slice A0_2 l0_2.length c0_2, .slice A0_3 l0_3.length c0_3, .int .i64 a0_4, .slice A0_5 l0_5.length c0_5]) (t := 28) ?hr ?_; (case hd => rfl); (case hg => rfl); (case hr => first | (go_simp; done) | (go_simp; rfl)); intro gb1 hg W1 hbox hb; replace HB := bH HB hb; clear hb; have BK1 := Aside0.mk hbox; have c_BK1 := blk_cell hbox; have z_BK1 := blk_frozen hbox; clear hg hbox))
 replace H := H.out
 replace H := Option.bind_eq_some_iff.mp H
 obtain ⟨t121, hm, H⟩ := H
 try dsimp only at H
 replace H := Aside0.mk H
 have hcall := laws_szIssuerS.calls k _ _ _ _ _ W1 (Kd.C_below HR0_0.out HB.out) HC0_0.out hm
 clear hm
 go_wp2_with fail
 refine hcall.mono ?_
 rintro e W2 ⟨rfl, hb⟩
 clear hcall
 replace BK1 := bK BK1 hb; replace c_BK1 := blk_cell BK1.out; replace z_BK1 := blk_frozen BK1.out
 replace HB := bH HB hb; clear hb
 replace H := H.out
 replace H := ifD H; rcases H with ⟨c3, H⟩ | ⟨c3, H⟩
 ·have c3_0 := decT c3
  replace c3 := Aside0.mk c3
  first | rw [c3_0] | skip
  obtain rfl := Option.some.inj H
  clear H
  go_wp2
  go_ret
  exact ⟨rfl, HB.out⟩
 ·have c3_0 := decF c3
  replace c3 := Aside0.mk c3
  first | rw [c3_0] | skip
  replace H := Option.bind_eq_some_iff.mp H
  obtain ⟨t122, hm, H⟩ := H
  try dsimp only at H
  replace H := Aside0.mk H
  have hcall := laws_szEpochS.calls k _ _ _ _ _ W2 (Kd.C_below HR0_1.out HB.out) HC0_1.out hm
  clear hm
  go_wp2_with fail
  refine hcall.mono ?_
  rintro e W4 ⟨rfl, hb⟩
  clear hcall
  replace BK1 := bK BK1 hb; replace c_BK1 := blk_cell BK1.out; replace z_BK1 := blk_frozen BK1.out
  replace HB := bH HB hb; clear hb
  replace H := H.out
  replace H := ifD H; rcases H with ⟨c5, H⟩ | ⟨c5, H⟩
  ·have c5_0 := decT c5
   replace c5 := Aside0.mk c5
   first | rw [c5_0] | skip
   obtain rfl := Option.some.inj H
   clear H
   go_wp2
   go_ret
   exact ⟨rfl, HB.out⟩
  ·have c5_0 := decF c5
   replace c5 := Aside0.mk c5
   first | rw [c5_0] | skip
   replace H := Option.bind_eq_some_iff.mp H
   obtain ⟨t123, hm, H⟩ := H
   try dsimp only at H
   replace H := Aside0.mk H
   have hcall := laws_szFactS.calls _ _ _ _ _ W4 (Kd.C_below HR0_2.out HB.out) HC0_2.out hm
   clear hm
   go_wp2_with fail
   refine hcall.mono ?_
   rintro e W6 ⟨rfl, hb⟩
   clear hcall
   replace BK1 := bK BK1 hb; replace c_BK1 := blk_cell BK1.out; replace z_BK1 := blk_frozen BK1.out
   replace HB := bH HB hb; clear hb
   replace H := H.out
   replace H := ifD H; rcases H with ⟨c7, H⟩ | ⟨c7, H⟩
   ·have c7_0 := decT c7
    replace c7 := Aside0.mk c7
    first | rw [c7_0] | skip
    obtain rfl := Option.some.inj H
    clear H
    go_wp2
    go_ret
    exact ⟨rfl, HB.out⟩
   ·have c7_0 := decF c7
    replace c7 := Aside0.mk c7
    first | rw [c7_0] | skip
    replace H := Option.bind_eq_some_iff.mp H
    obtain ⟨t124, hm, H⟩ := H
    try dsimp only at H
    replace H := Aside0.mk H
    have hcall := laws_szRevokedS.calls _ _ _ _ _ W6 (Kd.C_below HR0_3.out HB.out) HC0_3.out hm
    clear hm
    go_wp2_with fail
    refine hcall.mono ?_
    rintro e W8 ⟨rfl, hb⟩
    clear hcall
    replace BK1 := bK BK1 hb; replace c_BK1 := blk_cell BK1.out; replace z_BK1 := blk_frozen BK1.out
    replace HB := bH HB hb; clear hb
    replace H := H.out
    replace H := ifD H; rcases H with ⟨c9, H⟩ | ⟨c9, H⟩
    ·have c9_0 := decT c9
     replace c9 := Aside0.mk c9
     first | rw [c9_0] | skip
     obtain rfl := Option.some.inj H
     clear H
     go_wp2
     go_ret
     exact ⟨rfl, HB.out⟩
    ·have c9_0 := decF c9
     replace c9 := Aside0.mk c9
     first | rw [c9_0] | skip
     replace H := Option.bind_eq_some_iff.mp H
     obtain ⟨t125, hm, H⟩ := H
     try dsimp only at H
     replace H := Aside0.mk H
     have hcall := laws_szCertS.calls _ _ _ _ _ W8 (Kd.C_below HR0_5.out HB.out) HC0_5.out hm
     clear hm
     go_wp2_with fail
     refine hcall.mono ?_
     rintro e W10 ⟨rfl, hb⟩
     clear hcall
     replace BK1 := bK BK1 hb; replace c_BK1 := blk_cell BK1.out; replace z_BK1 := blk_frozen BK1.out
     replace HB := bH HB hb; clear hb
     replace H := H.out
     replace H := ifD H; rcases H with ⟨c11, H⟩ | ⟨c11, H⟩
     ·have c11_0 := decT c11
      replace c11 := Aside0.mk c11
      first | rw [c11_0] | skip
      obtain rfl := Option.some.inj H
      clear H
      go_wp2
      go_ret
      exact ⟨rfl, HB.out⟩
     ·have c11_0 := decF c11
      replace c11 := Aside0.mk c11
      first | rw [c11_0] | skip
      obtain rfl := Option.some.inj H
      clear H
      go_wp2
      go_ret
      exact ⟨rfl, HB.out⟩

/-! ### spec_l1In: function 64 -/
def spec_l1In.f (a0 : Int) (a1 : Int) (a2 : Int) : Option (Bool) := if a0 ≥ a1 then (some (decide (a0 ≤ a2))) else (some false)
open Go.Proofs.YtineejdlpcgnkaaGreatM in
set_option maxHeartbeats 8000000 in
set_option maxRecDepth 100000 in
theorem spec_l1In.calls (a0 : Int) (a1 : Int) (a2 : Int) (r : Bool) (w : World) (h : spec_l1In.f a0 a1 a2 = some r) :
  Calls Tryz.prog 64 #[.int .i64 a0, .int .i64 a1, .int .i64 a2] w fun e w' => e = .returned (.bool r) ∧ Below w.heap.size w w' := by
 have HB := Aside0.mk (Below.refl w.heap.size w)
 have H := h
 clear h
 unfold spec_l1In.f at H
 go_enter Tryz.func64, Tryz.ntmps64
 replace H := ifD H; rcases H with ⟨c1, H⟩ | ⟨c1, H⟩
 ·replace c1 : a1 ≤ a0 := c1
  have c1_0 := decT c1
  replace c1 := Aside0.mk c1
  first | rw [c1_0] | skip
  obtain rfl := Option.some.inj H
  clear H
  go_wp2
  go_ret
  exact ⟨rfl, HB.out⟩
 ·replace c1 : ¬ (a1 ≤ a0) := c1
  have c1_0 := decF c1
  replace c1 := Aside0.mk c1
  first | rw [c1_0] | skip
  obtain rfl := Option.some.inj H
  clear H
  go_wp2
  go_ret
  exact ⟨rfl, HB.out⟩

/-! ### spec_IsValidKey: function 32 -/
def spec_IsValidKey.f (a0 : Int) : Option (Bool) := (spec_l1In.f a0 1 2147483646).bind fun t126 => (some t126)
open Go.Proofs.YtineejdlpcgnkaaGreatM in
set_option maxHeartbeats 8000000 in
set_option maxRecDepth 100000 in
theorem spec_IsValidKey.calls (a0 : Int) (r : Bool) (w : World) (h : spec_IsValidKey.f a0 = some r) :
  Calls Tryz.prog 32 #[.int .i64 a0] w fun e w' => e = .returned (.bool r) ∧ Below w.heap.size w w' := by
 have HB := Aside0.mk (Below.refl w.heap.size w)
 have H := h
 clear h
 unfold spec_IsValidKey.f at H
 go_enter Tryz.func32, Tryz.ntmps32
 replace H := Option.bind_eq_some_iff.mp H
 obtain ⟨t126, hm, H⟩ := H
 try dsimp only at H
 replace H := Aside0.mk H
 have hcall := spec_l1In.calls _ _ _ _ w  hm
 clear hm
 go_wp2_with fail
 refine hcall.mono ?_
 rintro e W1 ⟨rfl, hb⟩
 clear hcall
 replace HB := bH HB hb; clear hb
 replace H := H.out
 obtain rfl := Option.some.inj H
 clear H
 go_wp2
 go_ret
 exact ⟨rfl, HB.out⟩

/-! ### spec_IsName: function 75 -/
def spec_IsName.f (a0 : Int) : Option (Bool) := (spec_l1In.f a0 10 49).bind fun t127 => (some t127)
open Go.Proofs.YtineejdlpcgnkaaGreatM in
set_option maxHeartbeats 8000000 in
set_option maxRecDepth 100000 in
theorem spec_IsName.calls (a0 : Int) (r : Bool) (w : World) (h : spec_IsName.f a0 = some r) :
  Calls Tryz.prog 75 #[.int .i64 a0] w fun e w' => e = .returned (.bool r) ∧ Below w.heap.size w w' := by
 have HB := Aside0.mk (Below.refl w.heap.size w)
 have H := h
 clear h
 unfold spec_IsName.f at H
 go_enter Tryz.func75, Tryz.ntmps75
 replace H := Option.bind_eq_some_iff.mp H
 obtain ⟨t127, hm, H⟩ := H
 try dsimp only at H
 replace H := Aside0.mk H
 have hcall := spec_l1In.calls _ _ _ _ w  hm
 clear hm
 go_wp2_with fail
 refine hcall.mono ?_
 rintro e W1 ⟨rfl, hb⟩
 clear hcall
 replace HB := bH HB hb; clear hb
 replace H := H.out
 obtain rfl := Option.some.inj H
 clear H
 go_wp2
 go_ret
 exact ⟨rfl, HB.out⟩

/-! ### spec_IsTime: function 76 -/
def spec_IsTime.f (a0 : Int) : Option (Bool) := (spec_l1In.f a0 0 10000).bind fun t128 => (some t128)
open Go.Proofs.YtineejdlpcgnkaaGreatM in
set_option maxHeartbeats 8000000 in
set_option maxRecDepth 100000 in
theorem spec_IsTime.calls (a0 : Int) (r : Bool) (w : World) (h : spec_IsTime.f a0 = some r) :
  Calls Tryz.prog 76 #[.int .i64 a0] w fun e w' => e = .returned (.bool r) ∧ Below w.heap.size w w' := by
 have HB := Aside0.mk (Below.refl w.heap.size w)
 have H := h
 clear h
 unfold spec_IsTime.f at H
 go_enter Tryz.func76, Tryz.ntmps76
 replace H := Option.bind_eq_some_iff.mp H
 obtain ⟨t128, hm, H⟩ := H
 try dsimp only at H
 replace H := Aside0.mk H
 have hcall := spec_l1In.calls _ _ _ _ w  hm
 clear hm
 go_wp2_with fail
 refine hcall.mono ?_
 rintro e W1 ⟨rfl, hb⟩
 clear hcall
 replace HB := bH HB hb; clear hb
 replace H := H.out
 obtain rfl := Option.some.inj H
 clear H
 go_wp2
 go_ret
 exact ⟨rfl, HB.out⟩

/-! ### spec_IsCert: function 26 -/
def spec_IsCert.f (a0_0 : Int) (a0_1 : Int) (a0_2 : Int) (a0_3 : Int) (a0_4 : Int) (a0_5 : Int) : Option (Bool) := (spec_l1In.f a0_0 1 9999).bind fun t130 => (if t130 = true then ((spec_IsName.f a0_1).bind fun t131 => (if t131 = true then ((spec_IsValidKey.f a0_2).bind fun t132 => (if t132 = true then ((spec_IsTime.f a0_3).bind fun t133 => (if t133 = true then ((spec_IsTime.f a0_4).bind fun t134 => (if t134 = true then (if a0_3 ≤ a0_4 then (some (decide ((wrap64 (a0_4 - a0_3)) ≤ 50))) else (some false)) else (some false))) else (some false))) else (some false))) else (some false))) else (some false))
open Go.Proofs.YtineejdlpcgnkaaGreatM in
set_option maxHeartbeats 8000000 in
set_option maxRecDepth 100000 in
theorem spec_IsCert.calls (a0_0 : Int) (a0_1 : Int) (a0_2 : Int) (a0_3 : Int) (a0_4 : Int) (a0_5 : Int) (r : Bool) (w : World) (h : spec_IsCert.f a0_0 a0_1 a0_2 a0_3 a0_4 a0_5 = some r) :
  Calls Tryz.prog 26 #[.agg #[.int .i64 a0_0, .int .i64 a0_1, .int .i64 a0_2, .int .i64 a0_3, .int .i64 a0_4, .int .i64 a0_5]] w fun e w' => e = .returned (.bool r) ∧ Below w.heap.size w w' := by
 have HB := Aside0.mk (Below.refl w.heap.size w)
 have H := h
 clear h
 unfold spec_IsCert.f at H
 have hu64 := Tryz.underlying64
 go_enter Tryz.func26, Tryz.ntmps26
 replace H := Aside0.mk H
 go_upto_region 1 with (first | ((with_reducible refine gate_dst (N := 1) rfl ?_); refine box_event ?hg (N := 1) ?hd (cs := #[.int .i64 a0_0, .int .i64 a0_1, .int .i64 a0_2, .int .i64 a0_3, .int .i64 a0_4, .int .i64 a0_5]) (t := 64) ?hr ?_; (case hd => rfl); (case hg => rfl); (case hr => first | (go_simp; done) | (go_simp; rfl)); intro gb1 hg W1 hbox hb; replace HB := bH HB hb; clear hb; have BK1 := Aside0.mk hbox; have c_BK1 := blk_cell hbox; have z_BK1 := blk_frozen hbox; clear hg hbox))
 replace H := H.out
 replace H := Option.bind_eq_some_iff.mp H
 obtain ⟨t130, hm, H⟩ := H
 try dsimp only at H
 replace H := Aside0.mk H
 have hcall := spec_l1In.calls _ _ _ _ W1  hm
 clear hm
 go_wp2_with fail
 refine hcall.mono ?_
 rintro e W2 ⟨rfl, hb⟩
 clear hcall
 replace BK1 := bK BK1 hb; replace c_BK1 := blk_cell BK1.out; replace z_BK1 := blk_frozen BK1.out
 replace HB := bH HB hb; clear hb
 replace H := H.out
 replace H := ifD H; rcases H with ⟨c3, H⟩ | ⟨c3, H⟩
 ·subst c3
  replace H := Option.bind_eq_some_iff.mp H
  obtain ⟨t131, hm, H⟩ := H
  try dsimp only at H
  replace H := Aside0.mk H
  have hcall := spec_IsName.calls _ _ W2  hm
  clear hm
  go_wp2_with fail
  refine hcall.mono ?_
  rintro e W4 ⟨rfl, hb⟩
  clear hcall
  replace BK1 := bK BK1 hb; replace c_BK1 := blk_cell BK1.out; replace z_BK1 := blk_frozen BK1.out
  replace HB := bH HB hb; clear hb
  replace H := H.out
  replace H := ifD H; rcases H with ⟨c5, H⟩ | ⟨c5, H⟩
  ·subst c5
   replace H := Option.bind_eq_some_iff.mp H
   obtain ⟨t132, hm, H⟩ := H
   try dsimp only at H
   replace H := Aside0.mk H
   have hcall := spec_IsValidKey.calls _ _ W4  hm
   clear hm
   go_wp2_with fail
   refine hcall.mono ?_
   rintro e W6 ⟨rfl, hb⟩
   clear hcall
   replace BK1 := bK BK1 hb; replace c_BK1 := blk_cell BK1.out; replace z_BK1 := blk_frozen BK1.out
   replace HB := bH HB hb; clear hb
   replace H := H.out
   replace H := ifD H; rcases H with ⟨c7, H⟩ | ⟨c7, H⟩
   ·subst c7
    replace H := Option.bind_eq_some_iff.mp H
    obtain ⟨t133, hm, H⟩ := H
    try dsimp only at H
    replace H := Aside0.mk H
    have hcall := spec_IsTime.calls _ _ W6  hm
    clear hm
    go_wp2_with fail
    refine hcall.mono ?_
    rintro e W8 ⟨rfl, hb⟩
    clear hcall
    replace BK1 := bK BK1 hb; replace c_BK1 := blk_cell BK1.out; replace z_BK1 := blk_frozen BK1.out
    replace HB := bH HB hb; clear hb
    replace H := H.out
    replace H := ifD H; rcases H with ⟨c9, H⟩ | ⟨c9, H⟩
    ·subst c9
     replace H := Option.bind_eq_some_iff.mp H
     obtain ⟨t134, hm, H⟩ := H
     try dsimp only at H
     replace H := Aside0.mk H
     have hcall := spec_IsTime.calls _ _ W8  hm
     clear hm
     go_wp2_with fail
     refine hcall.mono ?_
     rintro e W10 ⟨rfl, hb⟩
     clear hcall
     replace BK1 := bK BK1 hb; replace c_BK1 := blk_cell BK1.out; replace z_BK1 := blk_frozen BK1.out
     replace HB := bH HB hb; clear hb
     replace H := H.out
     replace H := ifD H; rcases H with ⟨c11, H⟩ | ⟨c11, H⟩
     ·subst c11
      replace H := ifD H; rcases H with ⟨c12, H⟩ | ⟨c12, H⟩
      ·have c12_0 := decT c12
       replace c12 := Aside0.mk c12
       first | rw [c12_0] | skip
       obtain rfl := Option.some.inj H
       clear H
       go_wp2
       go_ret
       exact ⟨rfl, HB.out⟩
      ·have c12_0 := decF c12
       replace c12 := Aside0.mk c12
       first | rw [c12_0] | skip
       obtain rfl := Option.some.inj H
       clear H
       go_wp2
       go_ret
       exact ⟨rfl, HB.out⟩
     ·replace c11 := (Bool.not_eq_true _).mp c11
      subst c11
      obtain rfl := Option.some.inj H
      clear H
      go_wp2
      go_ret
      exact ⟨rfl, HB.out⟩
    ·replace c9 := (Bool.not_eq_true _).mp c9
     subst c9
     obtain rfl := Option.some.inj H
     clear H
     go_wp2
     go_ret
     exact ⟨rfl, HB.out⟩
   ·replace c7 := (Bool.not_eq_true _).mp c7
    subst c7
    obtain rfl := Option.some.inj H
    clear H
    go_wp2
    go_ret
    exact ⟨rfl, HB.out⟩
  ·replace c5 := (Bool.not_eq_true _).mp c5
   subst c5
   obtain rfl := Option.some.inj H
   clear H
   go_wp2
   go_ret
   exact ⟨rfl, HB.out⟩
 ·replace c3 := (Bool.not_eq_true _).mp c3
  subst c3
  obtain rfl := Option.some.inj H
  clear H
  go_wp2
  go_ret
  exact ⟨rfl, HB.out⟩

/-! ### spec_Mod: function 156 -/
def spec_Mod.f (a0 : Int) (a1 : Int) : Option (Int) := (spec_l1In.f a1 1 1000000000000).bind fun t135 => (if t135 = true then (if a1 = 0 then (none) else (some (Int.tmod (wrap64 ((Int.tmod a0 a1) + a1)) a1))) else (some 0))
set_option maxHeartbeats 8000000 in
set_option maxRecDepth 100000 in
theorem spec_Mod.calls (a0 : Int) (a1 : Int) (r : Int) (w : World) (h : spec_Mod.f a0 a1 = some r) :
  Calls Tryz.prog 156 #[.int .i64 a0, .int .i64 a1] w fun e w' => e = .returned (.int .i64 r) ∧ Below w.heap.size w w' := by
 have HB := Aside0.mk (Below.refl w.heap.size w)
 have H : ((spec_l1In.f a1 1 1000000000000).bind fun t135 => (if t135 = true then (if a1 = 0 then (none) else (some (Int.tmod (wrap64 ((Int.tmod a0 a1) + a1)) a1))) else (some 0))) = some r := h
 clear h
 replace H := Option.bind_eq_some_iff.mp H
 obtain ⟨t135, A30, H⟩ := H
 replace H : (if t135 = true then (if a1 = 0 then (none) else (some (Int.tmod (wrap64 ((Int.tmod a0 a1) + a1)) a1))) else (some 0)) = some r := H
 have A3 := Aside0.mk A30
 clear A30
 by_cases c4 : t135 = true
 ·subst c4
  have H1 : (if a1 = 0 then (none) else (some (Int.tmod (wrap64 ((Int.tmod a0 a1) + a1)) a1))) = some r := by rw [if_pos rfl] at H; exact H
  clear H
  have H := H1
  clear H1
  replace H := ifD H; rcases H with ⟨c5, H⟩ | ⟨c5, H⟩
  ·exact absurd H (by simp)
  ·have c5b0 : (a1 == 0) = false := beq_eq_false_iff_ne.mpr c5
   have c5b1 : (a1 != 0) = true := bne_iff_ne.mpr c5
   obtain rfl := Option.some.inj H
   go_enter Tryz.func156, Tryz.ntmps156
   go_wp2_with (first | ((with_reducible refine gate_callee (f := 64) rfl ?_); refine goesL_ (some 6) rfl rfl Tryz.func64 (by kernel_rfl) rfl #[.int .i64 a1, .int .i64 1, .int .i64 1000000000000] rfl (by (try simp only [List.map_toArray, List.map_cons, List.map_nil]); first | done | rfl | (simp only [List.length_drop, List.length_take]; rfl)) ?_; (with_reducible refine (spec_l1In.calls a1 1 1000000000000 true _ A3.out).mono ?_); rintro e w6 ⟨rfl, hb⟩; refine ⟨_, rfl, ?_⟩; have n0_ := Aside0.mk (below_step (by repeat (first | (with_reducible first | exact HB.out | apply below_alloc | apply pw_below_drewN | apply below_drew1) | exact HB.out)) hb); clear HB; have HB := n0_; clear n0_; (try clear hb); (try clear hb2); (try clear hk); (try clear hi)))
   go_ret
   exact ⟨by first | rfl | (simp [errW_none, errW_some] <;> rfl) | (simp [*, errW_none, errW_some] <;> rfl), by repeat (first | (with_reducible first | exact HB.out | apply below_alloc | apply pw_below_drewN | apply below_drew1) | exact HB.out)⟩
 ·replace c4 := Bool.eq_false_iff.mpr c4
  subst c4
  have H1 : (some 0) = some r := by rw [if_neg (show ¬ (false = true) by decide)] at H; exact H
  clear H
  have H := H1
  clear H1
  obtain rfl := Option.some.inj H
  go_enter Tryz.func156, Tryz.ntmps156
  go_wp2_with (first | ((with_reducible refine gate_callee (f := 64) rfl ?_); refine goesL_ (some 6) rfl rfl Tryz.func64 (by kernel_rfl) rfl #[.int .i64 a1, .int .i64 1, .int .i64 1000000000000] rfl (by (try simp only [List.map_toArray, List.map_cons, List.map_nil]); first | done | rfl | (simp only [List.length_drop, List.length_take]; rfl)) ?_; (with_reducible refine (spec_l1In.calls a1 1 1000000000000 false _ A3.out).mono ?_); rintro e w7 ⟨rfl, hb⟩; refine ⟨_, rfl, ?_⟩; have n0_ := Aside0.mk (below_step (by repeat (first | (with_reducible first | exact HB.out | apply below_alloc | apply pw_below_drewN | apply below_drew1) | exact HB.out)) hb); clear HB; have HB := n0_; clear n0_; (try clear hb); (try clear hb2); (try clear hk); (try clear hi)))
  go_ret
  exact ⟨by first | rfl | (simp [errW_none, errW_some] <;> rfl) | (simp [*, errW_none, errW_some] <;> rfl), by repeat (first | (with_reducible first | exact HB.out | apply below_alloc | apply pw_below_drewN | apply below_drew1) | exact HB.out)⟩

/-! ### spec_Hash: function 125 -/
def spec_Hash.l0 : Nat → List Int → Int → Int → Option (Int)
 | 0, _, _, _ => none
 | k + 1, x0, x3, x4 => if x4 < (x0.length : Int) then (if 0 ≤ x4 then ((spec_Mod.f (rd x0 x4) 2147483647).bind fun t137 => (spec_Hash.l0 k x0 (Int.tmod (wrap64 ((wrap64 ((wrap64 (x3 * 1000003)) + t137)) + 13)) 2147483647) (wrap64 (x4 + 1)))) else (none)) else (some x3)
def spec_Hash.f (k : Nat) (l0 : List Int) : Option (Int) := spec_Hash.l0 k l0 11 0
open Go.Proofs.YtineejdlpcgnkaaGreatM in
set_option maxHeartbeats 8000000 in
set_option maxRecDepth 100000 in
theorem spec_Hash.calls (k : Nat) (A0 : Option Addr) (c0 : Nat) (l0 : List Int) (r : Int) (w : World) (hr0 : Kd.C (Kd.int .i64) w A0 l0.length l0) (hc0 : l0.length ≤ c0) (h : spec_Hash.f k l0 = some r) :
  Calls Tryz.prog 125 #[.slice A0 l0.length c0] w fun e w' => e = .returned (.int .i64 r) ∧ Below w.heap.size w w' := by
 have HR0 := Aside0.mk hr0
 have HC0 := Aside0.mk hc0
 clear hr0 hc0
 have HB := Aside0.mk (Below.refl w.heap.size w)
 have H := h
 clear h
 unfold spec_Hash.f at H
 go_enter Tryz.func125, Tryz.ntmps125
 replace H := Aside0.mk H
 go_wp2
 go_loopg [3, 4] k (fun kq v3 v4 w' => ∃ (x3_1 : Int) (x4_1 : Int), v3 = .int .i64 x3_1 ∧ v4 = .int .i64 x4_1 ∧ Aside0 (spec_Hash.l0 kq l0 x3_1 x4_1 = some r) ∧ Aside0 (kq ≤ k) ∧ Aside0 (Below w.heap.size w w'))
 case atStart => exact ⟨(11), (0), (by first | rfl | (simp; done) | (simp [*]; done)), (by first | rfl | (simp; done) | (simp [*]; done)), H, ⟨Nat.le_refl _⟩, HB⟩
 case round =>
  clear H HB 
  obtain ⟨x3_1, x4_1, rfl, rfl, HA, Hk1, HB⟩ := hrel
  cases gk with
  | zero => exact absurd HA.out (by simp [spec_Hash.l0])
  | succ k1 =>
   have H := HA.out
   clear HA
   simp only [spec_Hash.l0] at H
   replace H := ifD H; rcases H with ⟨c2, H⟩ | ⟨c2, H⟩
   ·have c2_0 := decT c2
    replace c2 := Aside0.mk c2
    first | rw [c2_0] | skip
    replace H := ifN H; obtain ⟨c3, H⟩ := H
    have c3_0 := decT c3
    replace c3 := Aside0.mk c3
    first | rw [c3_0] | skip
    have p136 : 0 ≤ (x4_1 : Int) := (of_decide_eq_true (by assumption))
    have q136 : x4_1 < (l0.length : Int) := (of_decide_eq_true (by assumption))
    obtain ⟨ad136, e136, hx136_0⟩ := Kd.at_int HR0.out x4_1 p136 q136
    cases e136
    replace hx136_0 := Aside0.mk hx136_0
    have y136_0 := xC HB hx136_0
    have r136 := eq_true p136; have s136 := eq_true q136
    replace p136 := Aside0.mk p136; replace q136 := Aside0.mk q136
    replace H := Option.bind_eq_some_iff.mp H
    obtain ⟨t137, hm, H⟩ := H
    try dsimp only at H
    replace H := Aside0.mk H
    have hcall := spec_Mod.calls _ _ _ wr  hm
    clear hm
    go_wp2_with fail
    refine hcall.mono ?_
    rintro e W4 ⟨rfl, hb⟩
    clear hcall
    try clear y136_0
    replace HB := bH HB hb; clear hb
    go_wp2
    go_roundg k1
    case measure => have := Hk1.out; omega
    case rel => exact ⟨(Int.tmod (wrap64 ((wrap64 ((wrap64 (x3_1 * 1000003)) + t137)) + 13)) 2147483647), (wrap64 (x4_1 + 1)), (by first | rfl | (simp; done) | (simp [*]; done)), (by first | rfl | (simp; done) | (simp [*]; done)), H, ⟨by have := Hk1.out; omega⟩, HB⟩
   ·have c2_0 := decF c2
    replace c2 := Aside0.mk c2
    first | rw [c2_0] | skip
    obtain rfl := Option.some.inj H
    clear H
    go_wp2
    go_ret
    exact ⟨rfl, HB.out⟩

/-! ### spec_KeyedHash: function 77 -/
def spec_KeyedHash.f (k : Nat) (a0 : Int) (l1 : List Int) : Option (Int) := (some (([a0] : List Int) : List Int)).bind fun y138 => (if y138.length + l1.length < 17592186044416 then ((some (y138 ++ l1 : List Int)).bind fun y141 => (if y141.length < 17592186044416 then ((spec_Hash.f k (y141 ++ [a0])).bind fun t147 => (some t147)) else (none))) else (none))
set_option maxHeartbeats 8000000 in
set_option maxRecDepth 100000 in
theorem spec_KeyedHash.calls (k : Nat) (a0 : Int) (A1 : Option Addr) (c1 : Nat) (l1 : List Int) (r : Int) (w : World) (hr1 : Kd.C (Kd.int .i64) w A1 l1.length l1) (hc1 : l1.length ≤ c1) (h : spec_KeyedHash.f k a0 l1 = some r) :
  Calls Tryz.prog 77 #[.int .i64 a0, .slice A1 l1.length c1] w fun e w' => e = .returned (.int .i64 r) ∧ Below w.heap.size w w' := by
 have HR1 := Aside0.mk hr1
 have HC1 := Aside0.mk hc1
 clear hr1 hc1
 have HB := Aside0.mk (Below.refl w.heap.size w)
 have H : ((some (([a0] : List Int) : List Int)).bind fun y138 => (if y138.length + l1.length < 17592186044416 then ((some (y138 ++ l1 : List Int)).bind fun y141 => (if y141.length < 17592186044416 then ((spec_Hash.f k (y141 ++ [a0])).bind fun t147 => (some t147)) else (none))) else (none))) = some r := h
 clear h
 obtain ⟨y138, hy138⟩ : ∃ y_ : List Int, y_ = (([a0] : List Int)) := ⟨_, rfl⟩
 replace H : (if y138.length + l1.length < 17592186044416 then ((some (y138 ++ l1 : List Int)).bind fun y141 => (if y141.length < 17592186044416 then ((spec_Hash.f k (y141 ++ [a0])).bind fun t147 => (some t147)) else (none))) else (none)) = some r := by first | (rw [hy138]; with_reducible exact H) | (have H2_ := (Option.bind_some _ _).symm.trans H; rw [hy138]; with_reducible exact H2_) | (have H2_ := (Option.bind_some _ _).symm.trans H; with_reducible exact H2_) | with_reducible exact H | (rw [hy138]; exact H) | exact H
 have Ny138 := Aside0.mk hy138
 clear hy138
 replace H := ifN H; obtain ⟨c3, H⟩ := H
 have LMc3 := Aside0.mk c3
 clear c3
 obtain ⟨y141, hy141⟩ : ∃ y_ : List Int, y_ = (y138 ++ l1) := ⟨_, rfl⟩
 replace H : (if y141.length < 17592186044416 then ((spec_Hash.f k (y141 ++ [a0])).bind fun t147 => (some t147)) else (none)) = some r := by first | (rw [hy141]; with_reducible exact H) | (have H2_ := (Option.bind_some _ _).symm.trans H; rw [hy141]; with_reducible exact H2_) | (have H2_ := (Option.bind_some _ _).symm.trans H; with_reducible exact H2_) | with_reducible exact H | (rw [hy141]; exact H) | exact H
 have Ny141 := Aside0.mk hy141
 clear hy141
 replace H := ifN H; obtain ⟨c4, H⟩ := H
 have LMc4 := Aside0.mk c4
 clear c4
 obtain ⟨y144, hy144⟩ : ∃ y_ : List Int, y_ = (y141 ++ [a0]) := ⟨_, rfl⟩
 replace H : ((spec_Hash.f k y144).bind fun t147 => (some t147)) = some r := by first | (rw [hy144]; with_reducible exact H) | (have H2_ := (Option.bind_some _ _).symm.trans H; rw [hy144]; with_reducible exact H2_) | (have H2_ := (Option.bind_some _ _).symm.trans H; with_reducible exact H2_) | with_reducible exact H | (rw [hy144]; exact H) | exact H
 have Ny144 := Aside0.mk hy144
 clear hy144
 replace H := Option.bind_eq_some_iff.mp H
 obtain ⟨t147, A50, H⟩ := H
 replace H : (some t147) = some r := H
 have A5 := Aside0.mk A50
 clear A50
 obtain rfl := Option.some.inj H
 go_enter Tryz.func77, Tryz.ntmps77
 go_wp2_with (first | ((with_reducible refine gate_dst (N := 6) rfl ?_); refine Kd.R_lit (Kd.int .i64) _ 3 ?hg (N := 6) ?hd (xs := ([a0] : List Int)) (inner := [.int .i64 a0]) (ok := fun _ => True) (okp := fun _ => True) ?hr ?hp (fun _ hk => hk) trivial (Below.refl _ _) (Nat.le_refl _) (by simp) ?_; (case hd => rfl); (case hg => rfl); (case hr => first | (go_simp; done) | (go_simp; rfl)); (case hp => exact (Reps.one (show Kd.M (Kd.int .i64) _ _ _ a0 [.int .i64 a0] from rfl) (Reps.none _ _))); intro v139 w6 ho7 hb hg_ hnew_; clear hg_ hnew_; (first | rw [← Ny138.out] at ho7 | (simp only [Int.reduceToNat] at ho7; rw [← Ny138.out] at ho7)); have n0_ := Aside0.mk (Kd.R_lower ho7 (below_size (by repeat (first | (with_reducible first | exact HB.out | apply below_alloc | apply pw_below_drewN | apply below_drew1) | exact HB.out)))); have n1_ := Aside0.mk (below_step (by repeat (first | (with_reducible first | exact HB.out | apply below_alloc | apply pw_below_drewN | apply below_drew1) | exact HB.out)) hb); clear HB; have HO140 := n0_; have HB := n1_; clear n0_ n1_; clear hb ho7) | ((with_reducible refine gate_builtin (b := .append) (xs := #[.tmp 6, .tmp 7]) rfl ?_); at_builtin; refine Kd.R_append_rows (Kd.int .i64) (w0 := w) w.heap.size rfl (.tmp 6) (.tmp 7) 98 3 (.int .i64 0) 8 rfl Tryz.underlying98 info3 rfl (by decide) (by omega) v139 y138 l1 _ _ _ (fun _ => True) (fun _ => False) rfl rfl ?aO ?aR (fun _ _ h => h) (fun _ h => h.elim) ?aF ?aB ?aS ?aL ?_; (case aR => repeat (first | exact (Kd.C_below HR1.out HB.out) | (with_reducible refine Kd.C_alloc ?_ _) | (with_reducible refine Kd.C_drewN ?_ _) | (with_reducible refine Kd.C_drew ?_))); (case aB => exact (by repeat (first | (with_reducible first | exact HB.out | apply below_alloc | apply pw_below_drewN | apply below_drew1) | exact HB.out))); (case aF => exact (fun _ _ => trivial)); (case aO => exact (by (with_reducible repeat (first | apply Kd.R_alloc | apply Kd.R_drewN | apply Kd.R_drew)); exact HO140.out)); (case aS => exact (below_size (by repeat (first | (with_reducible first | exact HB.out | apply below_alloc | apply pw_below_drewN | apply below_drew1) | exact HB.out)))); (case aL => have := LMc3.out; omega); intro v142 w8 ho hb hg hat; rw [← Ny141.out] at ho; have n0_ := Aside0.mk (hb); have n1_ := Aside0.mk (ho); clear HB; clear HO140; have HB := n0_; have HO143 := n1_; clear n0_ n1_; clear ho hb hg hat) | ((with_reducible refine gate_builtin (b := .append) (xs := #[.tmp 8, .tmp 10]) rfl ?_); at_builtin; refine Kd.R_append (Kd.int .i64) (w0 := w) w.heap.size rfl (.tmp 8) (.tmp 10) 98 3 (.int .i64 0) 8 rfl Tryz.underlying98 info3 rfl (by decide) (by omega) v142 y141 a0 [.int .i64 a0] (fun _ => True) (fun _ => False) rfl rfl ?aP (fun _ hk => hk.elim) ?aF ?aO ?aB ?aS ?aL ?_; (case aP => exact rfl); (case aB => exact (by repeat (first | (with_reducible first | exact HB.out | apply below_alloc | apply pw_below_drewN | apply below_drew1) | exact HB.out))); (case aF => exact (fun _ _ => trivial)); (case aO => exact (by (with_reducible repeat (first | apply Kd.R_alloc | apply Kd.R_drewN | apply Kd.R_drew)); exact HO143.out)); (case aS => exact (below_size (by repeat (first | (with_reducible first | exact HB.out | apply below_alloc | apply pw_below_drewN | apply below_drew1) | exact HB.out)))); (case aL => have := LMc4.out; omega); intro v145 w9 ho hb hg hat; rw [← Ny144.out] at ho; have n0_ := Aside0.mk (hb); have n1_ := Aside0.mk (ho); clear HB; clear HO143; have HB := n0_; have HO146 := n1_; clear n0_ n1_; clear ho hb hg hat; obtain ⟨Ao10, co10, eo10⟩ := Kd.R_slice HO146.out; subst eo10) | ((with_reducible refine gate_callee (f := 125) rfl ?_); refine goesL_ (some 12) rfl rfl Tryz.func125 (by kernel_rfl) rfl #[.slice Ao10 y144.length co10] rfl (by (try simp only [List.map_toArray, List.map_cons, List.map_nil]); first | done | rfl | (simp only [List.length_drop, List.length_take]; rfl)) ?_; (with_reducible refine (spec_Hash.calls k _ _ y144 t147 _ ?side1 ?side2 A5.out).mono ?_); (case side1 => repeat (first | exact (Kd.R_reads' HO146.out).2.2 | (with_reducible refine Kd.C_alloc ?_ _) | (with_reducible refine Kd.C_drewN ?_ _) | (with_reducible refine Kd.C_drew ?_))); (case side2 => exact (Kd.R_reads' HO146.out).2.1); rintro e w11 ⟨rfl, hb⟩; refine ⟨_, rfl, ?_⟩; have n0_ := Aside0.mk (Kd.R_below (by (with_reducible repeat (first | apply Kd.R_alloc | apply Kd.R_drewN | apply Kd.R_drew)); exact HO146.out) hb); have n1_ := Aside0.mk (below_step (by repeat (first | (with_reducible first | exact HB.out | apply below_alloc | apply pw_below_drewN | apply below_drew1) | exact HB.out)) hb); clear HO146; clear HB; have HO146 := n0_; have HB := n1_; clear n0_ n1_; (try clear hb); (try clear hb2); (try clear hk); (try clear hi)))
 go_ret
 exact ⟨by first | rfl | (simp [errW_none, errW_some] <;> rfl) | (simp [*, errW_none, errW_some] <;> rfl), by repeat (first | (with_reducible first | exact HB.out | apply below_alloc | apply pw_below_drewN | apply below_drew1) | exact HB.out)⟩
/-! ### spec_MarkCert: function 27 -/
def spec_MarkCert.f (k : Nat) (a0 : Int) (a1_0 : Int) (a1_1 : Int) (a1_2 : Int) (a1_3 : Int) (a1_4 : Int) (a1_5 : Int) : Option (Int × Int × Int × Int × Int × Int) := (spec_KeyedHash.f k a0 (([a1_0, a1_1, a1_2, a1_3, a1_4] : List Int))).bind fun t153 => (some (a1_0, a1_1, a1_2, a1_3, a1_4, t153))
set_option maxHeartbeats 8000000 in
set_option maxRecDepth 100000 in
theorem spec_MarkCert.calls (k : Nat) (a0 : Int) (a1_0 : Int) (a1_1 : Int) (a1_2 : Int) (a1_3 : Int) (a1_4 : Int) (a1_5 : Int) (r1 : Int) (r2 : Int) (r3 : Int) (r4 : Int) (r5 : Int) (r6 : Int) (w : World) (h : spec_MarkCert.f k a0 a1_0 a1_1 a1_2 a1_3 a1_4 a1_5 = some (r1, r2, r3, r4, r5, r6)) :
  Calls Tryz.prog 27 #[.int .i64 a0, .agg #[.int .i64 a1_0, .int .i64 a1_1, .int .i64 a1_2, .int .i64 a1_3, .int .i64 a1_4, .int .i64 a1_5]] w fun e w' => e = .returned (.agg #[.int .i64 r1, .int .i64 r2, .int .i64 r3, .int .i64 r4, .int .i64 r5, .int .i64 r6]) ∧ Below w.heap.size w w' := by
 have hu64 := Tryz.underlying64
 have HB := Aside0.mk (Below.refl w.heap.size w)
 have H : ((spec_KeyedHash.f k a0 (([a1_0, a1_1, a1_2, a1_3, a1_4] : List Int))).bind fun t153 => (some (a1_0, a1_1, a1_2, a1_3, a1_4, t153))) = some (r1, r2, r3, r4, r5, r6) := h
 clear h
 obtain ⟨y150, hy150⟩ : ∃ y_ : List Int, y_ = (([a1_0, a1_1, a1_2, a1_3, a1_4] : List Int)) := ⟨_, rfl⟩
 replace H : ((spec_KeyedHash.f k a0 y150).bind fun t153 => (some (a1_0, a1_1, a1_2, a1_3, a1_4, t153))) = some (r1, r2, r3, r4, r5, r6) := by first | (rw [hy150]; with_reducible exact H) | (have H2_ := (Option.bind_some _ _).symm.trans H; rw [hy150]; with_reducible exact H2_) | (have H2_ := (Option.bind_some _ _).symm.trans H; with_reducible exact H2_) | with_reducible exact H | (rw [hy150]; exact H) | exact H
 have Ny150 := Aside0.mk hy150
 clear hy150
 replace H := Option.bind_eq_some_iff.mp H
 obtain ⟨t153, A30, H⟩ := H
 replace H : (some (a1_0, a1_1, a1_2, a1_3, a1_4, t153)) = some (r1, r2, r3, r4, r5, r6) := H
 have A3 := Aside0.mk A30
 clear A30
 simp only [Option.some.injEq, Prod.mk.injEq] at H
 obtain ⟨rfl, rfl, rfl, rfl, rfl, rfl⟩ := H
 go_enter Tryz.func27, Tryz.ntmps27
 go_wp2_with (first | ((with_reducible refine gate_dst (N := 3) rfl ?_); refine box_event ?hg (N := 3) ?hd (cs := #[.int .i64 a1_0, .int .i64 a1_1, .int .i64 a1_2, .int .i64 a1_3, .int .i64 a1_4, .int .i64 a1_5]) (t := 64) ?hr ?_; (case hd => rfl); (case hg => rfl); (case hr => first | (go_simp; done) | (go_simp; rfl)); intro gb148 hg w4 hbox hb; have n0_ := Aside0.mk (below_step (by repeat (first | (with_reducible first | exact HB.out | apply below_alloc | apply pw_below_drewN | apply below_drew1) | exact HB.out)) hb); have n1_ := Aside0.mk (hbox); have n2_ := Aside0.mk ((by rw [hg]; exact (below_size (by repeat (first | (with_reducible first | exact HB.out | apply below_alloc | apply pw_below_drewN | apply below_drew1) | exact HB.out))) : w.heap.size ≤ gb148)); have n3_ := Aside0.mk ((by rw [hg]; exact (below_size (by repeat (first | (with_reducible first | exact HB.out | apply below_alloc | apply pw_below_drewN | apply below_drew1) | exact HB.out))) : w.heap.size ≤ gb148)); clear HB; have HB := n0_; have BK148 := n1_; have GW148 := n2_; have GE148 := n3_; clear n0_ n1_ n2_ n3_; clear hb hbox hg) | ((with_reducible refine gate_dst (N := 4) rfl ?_); refine box_event ?hg (N := 4) ?hd (cs := #[.int .i64 0, .int .i64 0, .int .i64 0, .int .i64 0, .int .i64 0, .int .i64 0]) (t := 64) ?hr ?_; (case hd => rfl); (case hg => rfl); (case hr => first | (go_simp; done) | (go_simp; rfl)); intro gb149 hg w5 hbox hb; have n0_ := Aside0.mk (blk_below (g := gb148) (o := .cells #[.int .i64 a1_0, .int .i64 a1_1, .int .i64 a1_2, .int .i64 a1_3, .int .i64 a1_4, .int .i64 a1_5] 64 (0, 0)) (by (with_reducible repeat (first | refine blk_drewN ?_ _ | refine blk_drew ?_ | refine blk_alloc ?_ _)); exact BK148.out) hb); have n1_ := Aside0.mk (below_step (by repeat (first | (with_reducible first | exact HB.out | apply below_alloc | apply pw_below_drewN | apply below_drew1 | refine below_set ?_ GE148.out) | exact HB.out)) hb); have n2_ := Aside0.mk (hbox); have n3_ := Aside0.mk ((by rw [hg]; exact (below_size (by repeat (first | (with_reducible first | exact HB.out | apply below_alloc | apply pw_below_drewN | apply below_drew1 | refine below_set ?_ GE148.out) | exact HB.out))) : w.heap.size ≤ gb149)); have n4_ := Aside0.mk ((by rw [hg]; exact (below_size (by repeat (first | (with_reducible first | exact HB.out | apply below_alloc | apply pw_below_drewN | apply below_drew1 | refine below_set ?_ GE148.out) | exact HB.out))) : w.heap.size ≤ gb149)); have n5_ := Aside0.mk ((by rw [hg]; exact Nat.ne_of_lt (blk_lt (g := gb148) (o := .cells #[.int .i64 a1_0, .int .i64 a1_1, .int .i64 a1_2, .int .i64 a1_3, .int .i64 a1_4, .int .i64 a1_5] 64 (0, 0)) (by (with_reducible repeat (first | refine blk_drewN ?_ _ | refine blk_drew ?_ | refine blk_alloc ?_ _)); exact BK148.out)) : gb148 ≠ gb149)); have n6_ := Aside0.mk ((by rw [hg]; exact Nat.ne_of_gt (blk_lt (g := gb148) (o := .cells #[.int .i64 a1_0, .int .i64 a1_1, .int .i64 a1_2, .int .i64 a1_3, .int .i64 a1_4, .int .i64 a1_5] 64 (0, 0)) (by (with_reducible repeat (first | refine blk_drewN ?_ _ | refine blk_drew ?_ | refine blk_alloc ?_ _)); exact BK148.out)) : gb149 ≠ gb148)); clear BK148; clear HB; have BK148 := n0_; have HB := n1_; have BK149 := n2_; have GW149 := n3_; have GE149 := n4_; have NB148_149 := n5_; have NB149_148 := n6_; clear n0_ n1_ n2_ n3_ n4_ n5_ n6_; clear hb hbox hg; have hnb6 := NB148_149.out; have hnc6 := NB149_148.out; have hcz7_0 : w5.cell? ⟨gb148, 0, none⟩ = some (.int .i64 a1_0) := (blk_cell BK148.out 0).trans rfl; have hcz7_1 : w5.cell? ⟨gb148, 1, none⟩ = some (.int .i64 a1_1) := (blk_cell BK148.out 1).trans rfl; have hcz7_2 : w5.cell? ⟨gb148, 2, none⟩ = some (.int .i64 a1_2) := (blk_cell BK148.out 2).trans rfl; have hcz7_3 : w5.cell? ⟨gb148, 3, none⟩ = some (.int .i64 a1_3) := (blk_cell BK148.out 3).trans rfl; have hcz7_4 : w5.cell? ⟨gb148, 4, none⟩ = some (.int .i64 a1_4) := (blk_cell BK148.out 4).trans rfl; have hcz7_5 : w5.cell? ⟨gb148, 5, none⟩ = some (.int .i64 a1_5) := (blk_cell BK148.out 5).trans rfl; have hfz7_0 := blk_frozen BK148.out 0; have hfz7_1 := blk_frozen BK148.out 1; have hfz7_2 := blk_frozen BK148.out 2; have hfz7_3 := blk_frozen BK148.out 3; have hfz7_4 := blk_frozen BK148.out 4; have hfz7_5 := blk_frozen BK148.out 5) | ((with_reducible refine gate_dst (N := 16) rfl ?_); refine Kd.R_lit (Kd.int .i64) _ 3 ?hg (N := 16) ?hd (xs := ([a1_0, a1_1, a1_2, a1_3, a1_4] : List Int)) (inner := [.int .i64 a1_0, .int .i64 a1_1, .int .i64 a1_2, .int .i64 a1_3, .int .i64 a1_4]) (ok := fun _ => True) (okp := fun _ => True) ?hr ?hp (fun _ hk => hk) trivial (Below.refl _ _) (Nat.le_refl _) (by simp) ?_; (case hd => rfl); (case hg => rfl); (case hr => first | (go_simp; done) | (go_simp; rfl)); (case hp => exact (Reps.one (show Kd.M (Kd.int .i64) _ _ _ a1_0 [.int .i64 a1_0] from rfl) (Reps.one (show Kd.M (Kd.int .i64) _ _ _ a1_1 [.int .i64 a1_1] from rfl) (Reps.one (show Kd.M (Kd.int .i64) _ _ _ a1_2 [.int .i64 a1_2] from rfl) (Reps.one (show Kd.M (Kd.int .i64) _ _ _ a1_3 [.int .i64 a1_3] from rfl) (Reps.one (show Kd.M (Kd.int .i64) _ _ _ a1_4 [.int .i64 a1_4] from rfl) (Reps.none _ _))))))); intro v151 w8 ho9 hb hg_ hnew_; clear hg_ hnew_; (first | rw [← Ny150.out] at ho9 | (simp only [Int.reduceToNat] at ho9; rw [← Ny150.out] at ho9)); have n0_ := Aside0.mk (Kd.R_lower ho9 (below_size (by repeat (first | (with_reducible first | exact HB.out | apply below_alloc | apply pw_below_drewN | apply below_drew1 | refine below_set ?_ GE148.out | refine below_set ?_ GE149.out) | exact HB.out)))); have n1_ := Aside0.mk (blk_below (g := gb148) (o := .cells #[.int .i64 a1_0, .int .i64 a1_1, .int .i64 a1_2, .int .i64 a1_3, .int .i64 a1_4, .int .i64 a1_5] 64 (0, 0)) (by (with_reducible repeat (first | refine blk_drewN ?_ _ | refine blk_drew ?_ | refine blk_alloc ?_ _)); exact BK148.out) hb); have n2_ := Aside0.mk (blk_below (g := gb149) (o := .cells #[.int .i64 0, .int .i64 0, .int .i64 0, .int .i64 0, .int .i64 0, .int .i64 0] 64 (0, 0)) (by (with_reducible repeat (first | refine blk_drewN ?_ _ | refine blk_drew ?_ | refine blk_alloc ?_ _)); exact BK149.out) hb); have n3_ := Aside0.mk (below_step (by repeat (first | (with_reducible first | exact HB.out | apply below_alloc | apply pw_below_drewN | apply below_drew1 | refine below_set ?_ GE148.out | refine below_set ?_ GE149.out) | exact HB.out)) hb); clear BK148; clear BK149; clear HB; have HO152 := n0_; have BK148 := n1_; have BK149 := n2_; have HB := n3_; clear n0_ n1_ n2_ n3_; clear hb ho9; obtain ⟨Ao10, co10, eo10⟩ := Kd.R_slice HO152.out; subst eo10) | ((with_reducible refine gate_callee (f := 77) rfl ?_); refine goesL_ (some 17) rfl rfl Tryz.func77 (by kernel_rfl) rfl #[.int .i64 a0, .slice Ao10 y150.length co10] rfl (by (try simp only [List.map_toArray, List.map_cons, List.map_nil]); first | done | rfl | (simp only [List.length_drop, List.length_take]; rfl)) ?_; (with_reducible refine (spec_KeyedHash.calls k a0 _ _ y150 t153 _ ?side1 ?side2 A3.out).mono ?_); (case side1 => repeat (first | exact (Kd.R_reads' HO152.out).2.2 | (with_reducible refine Kd.C_alloc ?_ _) | (with_reducible refine Kd.C_drewN ?_ _) | (with_reducible refine Kd.C_drew ?_))); (case side2 => exact (Kd.R_reads' HO152.out).2.1); rintro e w11 ⟨rfl, hb⟩; refine ⟨_, rfl, ?_⟩; have n0_ := Aside0.mk (Kd.R_below (by (with_reducible repeat (first | apply Kd.R_alloc | apply Kd.R_drewN | apply Kd.R_drew)); exact HO152.out) hb); have n1_ := Aside0.mk (blk_below (g := gb148) (o := .cells #[.int .i64 a1_0, .int .i64 a1_1, .int .i64 a1_2, .int .i64 a1_3, .int .i64 a1_4, .int .i64 a1_5] 64 (0, 0)) (by (with_reducible repeat (first | refine blk_drewN ?_ _ | refine blk_drew ?_ | refine blk_alloc ?_ _)); exact BK148.out) hb); have n2_ := Aside0.mk (blk_below (g := gb149) (o := .cells #[.int .i64 0, .int .i64 0, .int .i64 0, .int .i64 0, .int .i64 0, .int .i64 0] 64 (0, 0)) (by (with_reducible repeat (first | refine blk_drewN ?_ _ | refine blk_drew ?_ | refine blk_alloc ?_ _)); exact BK149.out) hb); have n3_ := Aside0.mk (below_step (by repeat (first | (with_reducible first | exact HB.out | apply below_alloc | apply pw_below_drewN | apply below_drew1 | refine below_set ?_ GE148.out | refine below_set ?_ GE149.out) | exact HB.out)) hb); clear HO152; clear BK148; clear BK149; clear HB; have HO152 := n0_; have BK148 := n1_; have BK149 := n2_; have HB := n3_; clear n0_ n1_ n2_ n3_; (try clear hb); (try clear hb2); (try clear hk); (try clear hi); have hcz12_0 : w11.cell? ⟨gb148, 0, none⟩ = some (.int .i64 a1_0) := (blk_cell BK148.out 0).trans rfl; have hcz12_1 : w11.cell? ⟨gb148, 1, none⟩ = some (.int .i64 a1_1) := (blk_cell BK148.out 1).trans rfl; have hcz12_2 : w11.cell? ⟨gb148, 2, none⟩ = some (.int .i64 a1_2) := (blk_cell BK148.out 2).trans rfl; have hcz12_3 : w11.cell? ⟨gb148, 3, none⟩ = some (.int .i64 a1_3) := (blk_cell BK148.out 3).trans rfl; have hcz12_4 : w11.cell? ⟨gb148, 4, none⟩ = some (.int .i64 a1_4) := (blk_cell BK148.out 4).trans rfl; have hcz12_5 : w11.cell? ⟨gb148, 5, none⟩ = some (.int .i64 a1_5) := (blk_cell BK148.out 5).trans rfl; have hfz12_0 := blk_frozen BK148.out 0; have hfz12_1 := blk_frozen BK148.out 1; have hfz12_2 := blk_frozen BK148.out 2; have hfz12_3 := blk_frozen BK148.out 3; have hfz12_4 := blk_frozen BK148.out 4; have hfz12_5 := blk_frozen BK148.out 5; have hcz13_0 : w11.cell? ⟨gb149, 0, none⟩ = some (.int .i64 0) := (blk_cell BK149.out 0).trans rfl; have hcz13_1 : w11.cell? ⟨gb149, 1, none⟩ = some (.int .i64 0) := (blk_cell BK149.out 1).trans rfl; have hcz13_2 : w11.cell? ⟨gb149, 2, none⟩ = some (.int .i64 0) := (blk_cell BK149.out 2).trans rfl; have hcz13_3 : w11.cell? ⟨gb149, 3, none⟩ = some (.int .i64 0) := (blk_cell BK149.out 3).trans rfl; have hcz13_4 : w11.cell? ⟨gb149, 4, none⟩ = some (.int .i64 0) := (blk_cell BK149.out 4).trans rfl; have hcz13_5 : w11.cell? ⟨gb149, 5, none⟩ = some (.int .i64 0) := (blk_cell BK149.out 5).trans rfl; have hfz13_0 := blk_frozen BK149.out 0; have hfz13_1 := blk_frozen BK149.out 1; have hfz13_2 := blk_frozen BK149.out 2; have hfz13_3 := blk_frozen BK149.out 3; have hfz13_4 := blk_frozen BK149.out 4; have hfz13_5 := blk_frozen BK149.out 5))
 refine bodyPost_ret (results_cell_row rfl _ _ gb149 64 #[.int .i64 a1_0, .int .i64 a1_1, .int .i64 a1_2, .int .i64 a1_3, .int .i64 a1_4, .int .i64 t153] (0, 0) _ rfl (by (with_reducible repeat (first | refine blk_drewN ?_ _ | refine blk_drew ?_ | refine blk_alloc ?_ _)); refine blk_put (cs := #[.int .i64 a1_0, .int .i64 a1_1, .int .i64 a1_2, .int .i64 a1_3, .int .i64 a1_4, .int .i64 0]) ?_ 5 _ rfl; (with_reducible repeat (first | refine blk_drewN ?_ _ | refine blk_drew ?_ | refine blk_alloc ?_ _)); refine blk_put (cs := #[.int .i64 a1_0, .int .i64 a1_1, .int .i64 a1_2, .int .i64 a1_3, .int .i64 0, .int .i64 0]) ?_ 4 _ rfl; (with_reducible repeat (first | refine blk_drewN ?_ _ | refine blk_drew ?_ | refine blk_alloc ?_ _)); refine blk_put (cs := #[.int .i64 a1_0, .int .i64 a1_1, .int .i64 a1_2, .int .i64 0, .int .i64 0, .int .i64 0]) ?_ 3 _ rfl; (with_reducible repeat (first | refine blk_drewN ?_ _ | refine blk_drew ?_ | refine blk_alloc ?_ _)); refine blk_put (cs := #[.int .i64 a1_0, .int .i64 a1_1, .int .i64 0, .int .i64 0, .int .i64 0, .int .i64 0]) ?_ 2 _ rfl; (with_reducible repeat (first | refine blk_drewN ?_ _ | refine blk_drew ?_ | refine blk_alloc ?_ _)); refine blk_put (cs := #[.int .i64 a1_0, .int .i64 0, .int .i64 0, .int .i64 0, .int .i64 0, .int .i64 0]) ?_ 1 _ rfl; (with_reducible repeat (first | refine blk_drewN ?_ _ | refine blk_drew ?_ | refine blk_alloc ?_ _)); refine blk_put (cs := #[.int .i64 0, .int .i64 0, .int .i64 0, .int .i64 0, .int .i64 0, .int .i64 0]) ?_ 0 _ rfl; (with_reducible repeat (first | refine blk_drewN ?_ _ | refine blk_drew ?_ | refine blk_alloc ?_ _)); refine blk_far ?_ NB149_148.out _; (with_reducible repeat (first | refine blk_drewN ?_ _ | refine blk_drew ?_ | refine blk_alloc ?_ _)); exact BK149.out) Tryz.underlying64 rfl (by kernel_rfl)) rfl ?_
 exact ⟨by first | rfl | (simp [errW_none, errW_some] <;> rfl) | (simp [*, errW_none, errW_some] <;> rfl), by repeat (first | (with_reducible first | exact HB.out | apply below_alloc | apply pw_below_drewN | apply below_drew1 | refine below_set ?_ GE148.out | refine below_set ?_ GE149.out) | exact HB.out)⟩

/-! ### spec_IsIssuer: function 78 -/
def spec_IsIssuer.l0 : Nat → Int → Int → List Int → Int → Option (Bool)
 | 0, _, _, _, _ => none
 | k + 1, x3, x155000, x155001, x155002 => if x3 < (x155001.length : Int) then (if 0 ≤ x3 then ((spec_l1In.f (rd x155001 x3) 1 4).bind fun t156 => (if t156 = true then (if x3 > 0 then (if 0 ≤ (wrap64 (x3 - 1)) then (if (wrap64 (x3 - 1)) < (x155001.length : Int) then (if (rd x155001 (wrap64 (x3 - 1))) ≥ (rd x155001 x3) then (some false) else (spec_IsIssuer.l0 k (wrap64 (x3 + 1)) x155000 x155001 x155002)) else (none)) else (none)) else (spec_IsIssuer.l0 k (wrap64 (x3 + 1)) x155000 x155001 x155002)) else (some false))) else (none)) else ((spec_l1In.f x155000 0 9).bind fun t159 => (if t159 = true then ((spec_IsValidKey.f x155002).bind fun t160 => (some t160)) else (some false)))
def spec_IsIssuer.f (k : Nat) (a0_0 : Int) (l0_1 : List Int) (a0_2 : Int) : Option (Bool) := spec_IsIssuer.l0 k 0 a0_0 l0_1 a0_2
open Go.Proofs.YtineejdlpcgnkaaGreatM in
set_option maxHeartbeats 8000000 in
set_option maxRecDepth 100000 in
theorem spec_IsIssuer.calls (k : Nat) (a0_0 : Int) (A0_1 : Option Addr) (c0_1 : Nat) (l0_1 : List Int) (a0_2 : Int) (r : Bool) (w : World) (hr0_1 : Kd.C (Kd.int .i64) w A0_1 l0_1.length l0_1) (hc0_1 : l0_1.length ≤ c0_1) (h : spec_IsIssuer.f k a0_0 l0_1 a0_2 = some r) :
  Calls Tryz.prog 78 #[.agg #[.int .i64 a0_0, .slice A0_1 l0_1.length c0_1, .int .i64 a0_2]] w fun e w' => e = .returned (.bool r) ∧ Below w.heap.size w w' := by
 have HR0_1 := Aside0.mk hr0_1
 have HC0_1 := Aside0.mk hc0_1
 clear hr0_1 hc0_1
 have HB := Aside0.mk (Below.refl w.heap.size w)
 have H := h
 clear h
 unfold spec_IsIssuer.f at H
 have hu110 := Tryz.underlying110
 go_enter Tryz.func78, Tryz.ntmps78
 replace H := Aside0.mk H
 go_upto_region 1 with (first | ((with_reducible refine gate_dst (N := 1) rfl ?_); refine box_event ?hg (N := 1) ?hd (cs := #[.int .i64 a0_0, .slice A0_1 l0_1.length c0_1, .int .i64 a0_2]) (t := 110) ?hr ?_; (case hd => rfl); (case hg => rfl); (case hr => first | (go_simp; done) | (go_simp; rfl)); intro gb1 hg W1 hbox hb; replace HB := bH HB hb; clear hb; have BK1 := Aside0.mk hbox; have c_BK1 := blk_cell hbox; have z_BK1 := blk_frozen hbox; clear hg hbox))
 go_wp2
 go_loopg [3] k (fun kq v3 w' => ∃ (x3_2 : Int), v3 = .int .i64 x3_2 ∧ Aside0 (spec_IsIssuer.l0 kq x3_2 a0_0 l0_1 a0_2 = some r) ∧ Aside0 (kq ≤ k) ∧ Aside0 (w'.heap[gb1]? = some (.cells #[.int .i64 a0_0, .slice A0_1 l0_1.length c0_1, .int .i64 a0_2] 110 (0, 0))) ∧ Aside0 (Below w.heap.size w w'))
 case atStart => exact ⟨(0), (by first | rfl | (simp; done) | (simp [*]; done)), H, ⟨Nat.le_refl _⟩, BK1, HB⟩
 case round =>
  clear H HB BK1 c_BK1 z_BK1
  obtain ⟨x3_2, rfl, HA, Hk2, BK1, HB⟩ := hrel
  have c_BK1 := blk_cell BK1.out; have z_BK1 := blk_frozen BK1.out
  cases gk with
  | zero => exact absurd HA.out (by simp [spec_IsIssuer.l0])
  | succ k2 =>
   have H := HA.out
   clear HA
   simp only [spec_IsIssuer.l0] at H
   replace H := ifD H; rcases H with ⟨c3, H⟩ | ⟨c3, H⟩
   ·have c3_0 := decT c3
    replace c3 := Aside0.mk c3
    first | rw [c3_0] | skip
    replace H := Aside0.mk H
    try go_wp2
    clear c_BK1 z_BK1; have rBK1 := BK1; replace BK1 := dK BK1
    have HBr := HB; replace HB := dH HB
    refine stA (n := 25) (S := fun w' => Below wr.heap.size wr w') (by kernel_rfl) rfl (below_drew1 (Below.refl _ wr)) (by kernel_rfl) (fun hHeld => ?_)
    generalize wr.drew = W4 at HB BK1 hHeld ⊢
    refine pu 0 (some 11) 1 ?_; refine pu 2 (some 13) 5 ?_; refine ld 1 (some 12) 7 hHeld ?_ (hr := by (intro w' h_; have y_ := kD rBK1 h_; go_simp; with_reducible rfl))
    replace H := H.out
    replace H := ifN H; obtain ⟨c5, H⟩ := H
    have c5_0 := decT c5
    replace c5 := Aside0.mk c5
    first | rw [c5_0] | skip
    have p155 : 0 ≤ (x3_2 : Int) := (of_decide_eq_true (by assumption))
    have q155 : x3_2 < (l0_1.length : Int) := (of_decide_eq_true (by assumption))
    obtain ⟨ad155, e155, hx155_0⟩ := Kd.at_int HR0_1.out x3_2 p155 q155
    cases e155
    replace hx155_0 := Aside0.mk hx155_0
    have r155 := eq_true p155; have s155 := eq_true q155
    replace p155 := Aside0.mk p155; replace q155 := Aside0.mk q155
    replace H := Option.bind_eq_some_iff.mp H
    obtain ⟨t156, hm, H⟩ := H
    try dsimp only at H
    replace hm := Aside0.mk hm
    replace H := Aside0.mk H
    refine pu 3 (some 14) 15 ?_; refine ld 4 (some 15) 31 hHeld ?_ (hr := by (intro w' h_; have y0_ := xD HBr h_ hx155_0; go_simp; with_reducible rfl))
    refine on 5 (some 16) 63 (fun K hK => ?_)
    have hcall := spec_l1In.calls _ _ _ _ W4  hm.out
    refine goes_ Tryz.func64 (by kernel_rfl) rfl #[.int .i64 (rd l0_1 x3_2), .int .i64 1, .int .i64 4] (by rfl) rfl rfl (by (try simp only [List.map_toArray, List.map_cons, List.map_nil]); first | done | rfl) ?_
    refine hcall.mono ?_
    rintro e W7 ⟨rfl, hb⟩
    refine ⟨_, rfl, ?_⟩
    clear hcall hm
    replace hHeld := below_step hHeld hb
    replace BK1 := bK BK1 hb
    replace HB := bH HB hb; clear hb
    refine hK.out _ _ hHeld (fun hHeld => ?_)
    clear hK K
    refine nr 16 ?_
    replace H := H.out
    replace H := ifD H; rcases H with ⟨c8, H⟩ | ⟨c8, H⟩
    ·subst c8
     replace H := ifD H; rcases H with ⟨c9, H⟩ | ⟨c9, H⟩
     ·replace c9 : 0 < x3_2 := c9
      have c9_0 := decT c9
      replace c9 := Aside0.mk c9
      first | rw [c9_0] | skip
      replace H := ifN H; obtain ⟨c10, H⟩ := H
      have c10_0 := decT c10
      replace c10 := Aside0.mk c10
      first | rw [c10_0] | skip
      replace H := ifN H; obtain ⟨c11, H⟩ := H
      have c11_0 := decT c11
      replace c11 := Aside0.mk c11
      first | rw [c11_0] | skip
      have p157 : 0 ≤ ((wrap64 (x3_2 - 1)) : Int) := (of_decide_eq_true (by assumption))
      have q157 : (wrap64 (x3_2 - 1)) < (l0_1.length : Int) := (of_decide_eq_true (by assumption))
      obtain ⟨ad157, e157, hx157_0⟩ := Kd.at_int HR0_1.out (wrap64 (x3_2 - 1)) p157 q157
      obtain rfl : ad155 = ad157 := by injection e157
      replace hx157_0 := Aside0.mk hx157_0
      have r157 := eq_true p157; have s157 := eq_true q157
      replace p157 := Aside0.mk p157; replace q157 := Aside0.mk q157
      replace H := Aside0.mk H
      refine pu 6 (some 17) 127 ?_; refine pu 7 (some 18) 255 ?_; refine pu 8 (some 19) 511 ?_; refine pu 9 (some 20) 1023 ?_; refine pu 10 (some 21) 2047 ?_; refine pu 11 (some 22) 4095 ?_; refine pu 13 (some 24) 12287 ?_; refine pu 14 (some 25) 28671 ?_; refine pu 17 (some 28) 159743 ?_; refine pu 19 (some 30) 684031 ?_; refine ld 12 (some 23) 688127 hHeld ?_ (hr := by (intro w' h_; have y_ := kD rBK1 h_; go_simp; with_reducible rfl)); refine pu 15 (some 26) 720895 ?_; refine ld 16 (some 27) 786431 hHeld ?_ (hr := by (intro w' h_; have y0_ := xD HBr h_ hx157_0; go_simp; with_reducible rfl)); refine ld 18 (some 29) 1048575 hHeld ?_ (hr := by (intro w' h_; have y_ := kD rBK1 h_; go_simp; with_reducible rfl)); refine pu 20 (some 31) 2097151 ?_; refine ld 21 (some 32) 4194303 hHeld ?_ (hr := by (intro w' h_; have y0_ := xD HBr h_ hx155_0; go_simp; with_reducible rfl)); refine pu 22 (some 33) 8388607 ?_; refine pu 23 (some 34) 16777215 ?_; refine pu 24 (some 35) 33554431 ?_
      refine dn (by kernel_rfl) ?_
      clear hHeld HBr rBK1
      have c_BK1 := blk_cell BK1.out; have z_BK1 := blk_frozen BK1.out
      replace H := H.out
      replace H := ifD H; rcases H with ⟨c12, H⟩ | ⟨c12, H⟩
      ·replace c12 : (rd l0_1 x3_2) ≤ (rd l0_1 (wrap64 (x3_2 - 1))) := c12
       have c12_0 := decT c12
       replace c12 := Aside0.mk c12
       first | rw [c12_0] | skip
       obtain rfl := Option.some.inj H
       clear H
       go_wp2
       go_ret
       exact ⟨rfl, HB.out⟩
      ·replace c12 : ¬ ((rd l0_1 x3_2) ≤ (rd l0_1 (wrap64 (x3_2 - 1)))) := c12
       have c12_0 := decF c12
       replace c12 := Aside0.mk c12
       first | rw [c12_0] | skip
       replace H := Aside0.mk H
       go_wp2
       go_roundg k2
       case measure => have := Hk2.out; omega
       case rel => exact ⟨(wrap64 (x3_2 + 1)), (by first | rfl | (simp; done) | (simp [*]; done)), H, ⟨by have := Hk2.out; omega⟩, BK1, HB⟩
     ·replace c9 : ¬ (0 < x3_2) := c9
      have c9_0 := decF c9
      replace c9 := Aside0.mk c9
      first | rw [c9_0] | skip
      replace H := Aside0.mk H
      refine pu 6 (some 17) 127 ?_; refine pu 7 (some 18) 255 ?_; refine pu 8 (some 19) 511 ?_; refine pu 9 (some 20) 1023 ?_; refine pu 10 (some 21) 2047 ?_; refine sk 11 (some 22) 4095 ?_; refine sk 12 (some 23) 8191 ?_; refine sk 13 (some 24) 16383 ?_; refine sk 14 (some 25) 32767 ?_; refine sk 15 (some 26) 65535 ?_; refine sk 16 (some 27) 131071 ?_; refine sk 17 (some 28) 262143 ?_; refine sk 18 (some 29) 524287 ?_; refine sk 19 (some 30) 1048575 ?_; refine sk 20 (some 31) 2097151 ?_; refine sk 21 (some 32) 4194303 ?_; refine sk 22 (some 33) 8388607 ?_; refine pu 23 (some 34) 16777215 ?_; refine pu 24 (some 35) 33554431 ?_
      refine dn (by kernel_rfl) ?_
      clear hHeld HBr rBK1
      have c_BK1 := blk_cell BK1.out; have z_BK1 := blk_frozen BK1.out
      go_wp2
      go_roundg k2
      case measure => have := Hk2.out; omega
      case rel => exact ⟨(wrap64 (x3_2 + 1)), (by first | rfl | (simp; done) | (simp [*]; done)), H, ⟨by have := Hk2.out; omega⟩, BK1, HB⟩
    ·replace c8 := (Bool.not_eq_true _).mp c8
     subst c8
     replace H := Aside0.mk H
     refine pu 6 (some 17) 127 ?_; refine pu 7 (some 18) 255 ?_; refine sk 8 (some 19) 511 ?_; refine sk 9 (some 20) 1023 ?_; refine sk 10 (some 21) 2047 ?_; refine sk 11 (some 22) 4095 ?_; refine sk 12 (some 23) 8191 ?_; refine sk 13 (some 24) 16383 ?_; refine sk 14 (some 25) 32767 ?_; refine sk 15 (some 26) 65535 ?_; refine sk 16 (some 27) 131071 ?_; refine sk 17 (some 28) 262143 ?_; refine sk 18 (some 29) 524287 ?_; refine sk 19 (some 30) 1048575 ?_; refine sk 20 (some 31) 2097151 ?_; refine sk 21 (some 32) 4194303 ?_; refine sk 22 (some 33) 8388607 ?_; refine sk 23 (some 34) 16777215 ?_; refine pu 24 (some 35) 33554431 ?_
     refine dn (by kernel_rfl) ?_
     clear hHeld HBr rBK1
     have c_BK1 := blk_cell BK1.out; have z_BK1 := blk_frozen BK1.out
     replace H := H.out
     obtain rfl := Option.some.inj H
     clear H
     go_wp2
     go_ret
     exact ⟨rfl, HB.out⟩
   ·have c3_0 := decF c3
    replace c3 := Aside0.mk c3
    first | rw [c3_0] | skip
    replace H := Option.bind_eq_some_iff.mp H
    obtain ⟨t159, hm, H⟩ := H
    try dsimp only at H
    replace H := Aside0.mk H
    have hcall := spec_l1In.calls _ _ _ _ wr  hm
    clear hm
    go_wp2_with fail
    refine hcall.mono ?_
    rintro e W13 ⟨rfl, hb⟩
    clear hcall
    replace BK1 := bK BK1 hb; replace c_BK1 := blk_cell BK1.out; replace z_BK1 := blk_frozen BK1.out
    replace HB := bH HB hb; clear hb
    replace H := H.out
    replace H := ifD H; rcases H with ⟨c14, H⟩ | ⟨c14, H⟩
    ·subst c14
     replace H := Option.bind_eq_some_iff.mp H
     obtain ⟨t160, hm, H⟩ := H
     try dsimp only at H
     replace H := Aside0.mk H
     have hcall := spec_IsValidKey.calls _ _ W13  hm
     clear hm
     go_wp2_with fail
     refine hcall.mono ?_
     rintro e W15 ⟨rfl, hb⟩
     clear hcall
     replace BK1 := bK BK1 hb; replace c_BK1 := blk_cell BK1.out; replace z_BK1 := blk_frozen BK1.out
     replace HB := bH HB hb; clear hb
     replace H := H.out
     obtain rfl := Option.some.inj H
     clear H
     go_wp2
     go_ret
     exact ⟨rfl, HB.out⟩
    ·replace c14 := (Bool.not_eq_true _).mp c14
     subst c14
     obtain rfl := Option.some.inj H
     clear H
     go_wp2
     go_ret
     exact ⟨rfl, HB.out⟩

/-! ### spec_AreIssuers: function 28 -/
def spec_AreIssuers.l0 : Nat → List (S110) → Int → Option (Bool)
 | 0, _, _ => none
 | k + 1, x0, x3 => if x3 < (x0.length : Int) then (if 0 ≤ x3 then ((spec_IsIssuer.f k ((rd_T110 x0 x3).f0) ((rd_T110 x0 x3).f1) ((rd_T110 x0 x3).f2)).bind fun t162 => (if t162 = true then (if x3 > 0 then (if 0 ≤ (wrap64 (x3 - 1)) then (if (wrap64 (x3 - 1)) < (x0.length : Int) then (if ((rd_T110 x0 (wrap64 (x3 - 1))).f0) ≥ ((rd_T110 x0 x3).f0) then (some false) else (spec_AreIssuers.l0 k x0 (wrap64 (x3 + 1)))) else (none)) else (none)) else (spec_AreIssuers.l0 k x0 (wrap64 (x3 + 1)))) else (some false))) else (none)) else (some (decide ((x0.length : Int) ≤ 4)))
def spec_AreIssuers.f (k : Nat) (l0 : List (S110)) : Option (Bool) := spec_AreIssuers.l0 k l0 0
open Go.Proofs.YtineejdlpcgnkaaGreatM in
set_option maxHeartbeats 8000000 in
set_option maxRecDepth 100000 in
theorem spec_AreIssuers.calls (k : Nat) (A0 : Option Addr) (c0 : Nat) (l0 : List (S110)) (r : Bool) (w : World) (hr0 : Kd.C k110 w A0 l0.length l0) (hc0 : l0.length ≤ c0) (h : spec_AreIssuers.f k l0 = some r) :
  Calls Tryz.prog 28 #[.slice A0 l0.length c0] w fun e w' => e = .returned (.bool r) ∧ Below w.heap.size w w' := by
 have HR0 := Aside0.mk hr0
 have HC0 := Aside0.mk hc0
 clear hr0 hc0
 have HB := Aside0.mk (Below.refl w.heap.size w)
 have H := h
 clear h
 unfold spec_AreIssuers.f at H
 have hu110 := Tryz.underlying110
 go_enter Tryz.func28, Tryz.ntmps28
 replace H := Aside0.mk H
 go_wp2
 go_loopg [3] k (fun kq v3 w' => ∃ (x3_1 : Int), v3 = .int .i64 x3_1 ∧ Aside0 (spec_AreIssuers.l0 kq l0 x3_1 = some r) ∧ Aside0 (kq ≤ k) ∧ Aside0 (Below w.heap.size w w'))
 case atStart => exact ⟨(0), (by first | rfl | (simp; done) | (simp [*]; done)), H, ⟨Nat.le_refl _⟩, HB⟩
 case round =>
  clear H HB 
  obtain ⟨x3_1, rfl, HA, Hk1, HB⟩ := hrel
  cases gk with
  | zero => exact absurd HA.out (by simp [spec_AreIssuers.l0])
  | succ k1 =>
   have H := HA.out
   clear HA
   simp only [spec_AreIssuers.l0] at H
   replace H := ifD H; rcases H with ⟨c2, H⟩ | ⟨c2, H⟩
   ·have c2_0 := decT c2
    replace c2 := Aside0.mk c2
    first | rw [c2_0] | skip
    replace H := Aside0.mk H
    try go_wp2
    have HBr := HB; replace HB := dH HB
    refine stA (n := 24) (S := fun w' => Below wr.heap.size wr w') (by kernel_rfl) rfl (below_drew1 (Below.refl _ wr)) (by kernel_rfl) (fun hHeld => ?_)
    generalize wr.drew = W3 at HB hHeld ⊢
    refine pu 0 (some 10) 1 ?_; refine pu 1 (some 11) 3 ?_
    replace H := H.out
    replace H := ifN H; obtain ⟨c4, H⟩ := H
    have c4_0 := decT c4
    replace c4 := Aside0.mk c4
    first | rw [c4_0] | skip
    have p161 : 0 ≤ (x3_1 : Int) := (of_decide_eq_true (by assumption))
    have q161 : x3_1 < (l0.length : Int) := (of_decide_eq_true (by assumption))
    obtain ⟨ad161, A161_1, c161_1, e161, hx161_0, hx161_1, hx161_2, hl161_1, hi161_1⟩ := at_T110 HR0.out x3_1 p161 q161
    cases e161
    have HR161_1 := Aside0.mk hi161_1; have HC161_1 := Aside0.mk hl161_1; clear hi161_1 hl161_1
    replace hx161_0 := Aside0.mk hx161_0
    replace hx161_1 := Aside0.mk hx161_1
    replace hx161_2 := Aside0.mk hx161_2
    have r161 := eq_true p161; have s161 := eq_true q161
    replace p161 := Aside0.mk p161; replace q161 := Aside0.mk q161
    replace H := Option.bind_eq_some_iff.mp H
    obtain ⟨t162, hm, H⟩ := H
    try dsimp only at H
    replace hm := Aside0.mk hm
    replace H := Aside0.mk H
    refine pu 2 (some 12) 7 ?_; refine ld 3 (some 13) 15 hHeld ?_ (hr := by (intro w' h_; have y0_ := xD HBr h_ hx161_0; have y1_ := xD HBr h_ hx161_1; have y2_ := xD HBr h_ hx161_2; go_simp; with_reducible rfl))
    refine on 4 (some 14) 31 (fun K hK => ?_)
    have hcall := spec_IsIssuer.calls k1 _ _ _ _ _ _ W3 (Kd.C_below HR161_1.out HB.out) HC161_1.out hm.out
    refine goes_ Tryz.func78 (by kernel_rfl) rfl #[.agg #[.int .i64 ((rd_T110 l0 x3_1).f0), .slice A161_1 ((rd_T110 l0 x3_1).f1).length c161_1, .int .i64 ((rd_T110 l0 x3_1).f2)]] (by rfl) rfl rfl (by (try simp only [List.map_toArray, List.map_cons, List.map_nil]); first | done | rfl) ?_
    refine hcall.mono ?_
    rintro e W6 ⟨rfl, hb⟩
    refine ⟨_, rfl, ?_⟩
    clear hcall hm
    replace hHeld := below_step hHeld hb
    replace HB := bH HB hb; clear hb
    refine hK.out _ _ hHeld (fun hHeld => ?_)
    clear hK K
    refine nr 14 ?_
    replace H := H.out
    replace H := ifD H; rcases H with ⟨c7, H⟩ | ⟨c7, H⟩
    ·subst c7
     replace H := ifD H; rcases H with ⟨c8, H⟩ | ⟨c8, H⟩
     ·replace c8 : 0 < x3_1 := c8
      have c8_0 := decT c8
      replace c8 := Aside0.mk c8
      first | rw [c8_0] | skip
      replace H := ifN H; obtain ⟨c9, H⟩ := H
      have c9_0 := decT c9
      replace c9 := Aside0.mk c9
      first | rw [c9_0] | skip
      replace H := ifN H; obtain ⟨c10, H⟩ := H
      have c10_0 := decT c10
      replace c10 := Aside0.mk c10
      first | rw [c10_0] | skip
      have p163 : 0 ≤ ((wrap64 (x3_1 - 1)) : Int) := (of_decide_eq_true (by assumption))
      have q163 : (wrap64 (x3_1 - 1)) < (l0.length : Int) := (of_decide_eq_true (by assumption))
      obtain ⟨ad163, A163_1, c163_1, e163, hx163_0, hx163_1, hx163_2, hl163_1, hi163_1⟩ := at_T110 HR0.out (wrap64 (x3_1 - 1)) p163 q163
      obtain rfl : ad161 = ad163 := by injection e163
      have HR163_1 := Aside0.mk hi163_1; have HC163_1 := Aside0.mk hl163_1; clear hi163_1 hl163_1
      replace hx163_0 := Aside0.mk hx163_0
      replace hx163_1 := Aside0.mk hx163_1
      replace hx163_2 := Aside0.mk hx163_2
      have r163 := eq_true p163; have s163 := eq_true q163
      replace p163 := Aside0.mk p163; replace q163 := Aside0.mk q163
      replace H := Aside0.mk H
      refine pu 5 (some 15) 63 ?_; refine pu 6 (some 16) 127 ?_; refine pu 7 (some 17) 255 ?_; refine pu 8 (some 18) 511 ?_; refine pu 9 (some 19) 1023 ?_; refine pu 10 (some 20) 2047 ?_; refine pu 11 (some 21) 4095 ?_; refine pu 12 (some 22) 8191 ?_; refine pu 13 (some 23) 16383 ?_; refine pu 14 (some 24) 32767 ?_; refine pu 16 (some 26) 98303 ?_; refine pu 17 (some 27) 229375 ?_; refine pu 18 (some 28) 491519 ?_; refine pu 19 (some 29) 1015807 ?_; refine ld 15 (some 25) 1048575 hHeld ?_ (hr := by (intro w' h_; have y0_ := xD HBr h_ hx163_0; have y1_ := xD HBr h_ hx163_1; have y2_ := xD HBr h_ hx163_2; go_simp; with_reducible rfl)); refine ld 20 (some 30) 2097151 hHeld ?_ (hr := by (intro w' h_; have y0_ := xD HBr h_ hx161_0; have y1_ := xD HBr h_ hx161_1; have y2_ := xD HBr h_ hx161_2; go_simp; with_reducible rfl)); refine pu 21 (some 31) 4194303 ?_; refine pu 22 (some 32) 8388607 ?_; refine pu 23 (some 33) 16777215 ?_
      refine dn (by kernel_rfl) ?_
      clear hHeld HBr
      replace H := H.out
      replace H := ifD H; rcases H with ⟨c11, H⟩ | ⟨c11, H⟩
      ·replace c11 : ((rd_T110 l0 x3_1).f0) ≤ ((rd_T110 l0 (wrap64 (x3_1 - 1))).f0) := c11
       have c11_0 := decT c11
       replace c11 := Aside0.mk c11
       first | rw [c11_0] | skip
       obtain rfl := Option.some.inj H
       clear H
       go_wp2
       go_ret
       exact ⟨rfl, HB.out⟩
      ·replace c11 : ¬ (((rd_T110 l0 x3_1).f0) ≤ ((rd_T110 l0 (wrap64 (x3_1 - 1))).f0)) := c11
       have c11_0 := decF c11
       replace c11 := Aside0.mk c11
       first | rw [c11_0] | skip
       replace H := Aside0.mk H
       go_wp2
       go_roundg k1
       case measure => have := Hk1.out; omega
       case rel => exact ⟨(wrap64 (x3_1 + 1)), (by first | rfl | (simp; done) | (simp [*]; done)), H, ⟨by have := Hk1.out; omega⟩, HB⟩
     ·replace c8 : ¬ (0 < x3_1) := c8
      have c8_0 := decF c8
      replace c8 := Aside0.mk c8
      first | rw [c8_0] | skip
      replace H := Aside0.mk H
      refine pu 5 (some 15) 63 ?_; refine pu 6 (some 16) 127 ?_; refine pu 7 (some 17) 255 ?_; refine pu 8 (some 18) 511 ?_; refine pu 9 (some 19) 1023 ?_; refine sk 10 (some 20) 2047 ?_; refine sk 11 (some 21) 4095 ?_; refine sk 12 (some 22) 8191 ?_; refine sk 13 (some 23) 16383 ?_; refine sk 14 (some 24) 32767 ?_; refine sk 15 (some 25) 65535 ?_; refine sk 16 (some 26) 131071 ?_; refine sk 17 (some 27) 262143 ?_; refine sk 18 (some 28) 524287 ?_; refine sk 19 (some 29) 1048575 ?_; refine sk 20 (some 30) 2097151 ?_; refine sk 21 (some 31) 4194303 ?_; refine pu 22 (some 32) 8388607 ?_; refine pu 23 (some 33) 16777215 ?_
      refine dn (by kernel_rfl) ?_
      clear hHeld HBr
      go_wp2
      go_roundg k1
      case measure => have := Hk1.out; omega
      case rel => exact ⟨(wrap64 (x3_1 + 1)), (by first | rfl | (simp; done) | (simp [*]; done)), H, ⟨by have := Hk1.out; omega⟩, HB⟩
    ·replace c7 := (Bool.not_eq_true _).mp c7
     subst c7
     replace H := Aside0.mk H
     refine pu 5 (some 15) 63 ?_; refine pu 6 (some 16) 127 ?_; refine sk 7 (some 17) 255 ?_; refine sk 8 (some 18) 511 ?_; refine sk 9 (some 19) 1023 ?_; refine sk 10 (some 20) 2047 ?_; refine sk 11 (some 21) 4095 ?_; refine sk 12 (some 22) 8191 ?_; refine sk 13 (some 23) 16383 ?_; refine sk 14 (some 24) 32767 ?_; refine sk 15 (some 25) 65535 ?_; refine sk 16 (some 26) 131071 ?_; refine sk 17 (some 27) 262143 ?_; refine sk 18 (some 28) 524287 ?_; refine sk 19 (some 29) 1048575 ?_; refine sk 20 (some 30) 2097151 ?_; refine sk 21 (some 31) 4194303 ?_; refine sk 22 (some 32) 8388607 ?_; refine pu 23 (some 33) 16777215 ?_
     refine dn (by kernel_rfl) ?_
     clear hHeld HBr
     replace H := H.out
     obtain rfl := Option.some.inj H
     clear H
     go_wp2
     go_ret
     exact ⟨rfl, HB.out⟩
   ·have c2_0 := decF c2
    replace c2 := Aside0.mk c2
    first | rw [c2_0] | skip
    obtain rfl := Option.some.inj H
    clear H
    go_wp2
    go_ret
    exact ⟨rfl, HB.out⟩

end Go.Proofs.YtineejdlpcgnkaaGreat.QFnExactIsCenter
