/- The machine side of FnExactIsCenter: what each function that it reaches computes, and that the machine's call gives just that. -/
import Derived.Test.YtineejdlpcgnkaaGreatQFnExactIsCenterx0
import Derived.Test.YtineejdlpcgnkaaGreatQFnExactIsCenterx3
import Derived.Test.YtineejdlpcgnkaaGreatQFnExactIsCenterx4
import Derived.Test.YtineejdlpcgnkaaGreatQFnExactIsCenterx5
namespace Go.Proofs.YtineejdlpcgnkaaGreat.QFnExactIsCenter
open Go.RowKit Go.Proofs.YtineejdlpcgnkaaGreatW.PrintWords Go.Proofs.YtineejdlpcgnkaaGreatW.PrintLast Go.Proofs.YtineejdlpcgnkaaGreatW.PrintMore
attribute [local go_sem] max2_int min2_int max_two min_two max_three min_three max_four min_four   -- for this text's walks alone
set_option linter.unusedVariables false
set_option linter.unusedSimpArgs false

/-! ### spec_l15Valid: function 190 -/
mutual
def spec_l15Valid.l0 : Nat → Int → Int → Int → Int → List (S164) → Option (Bool)
 | 0, _, _, _, _, _ => none
 | k + 1, x3, x226000, x226001, x226002, x226003 => if x3 < (x226003.length : Int) then (if 0 ≤ x3 then ((spec_l15Valid.f k ((rd_T164 x226003 x3).f0) ((rd_T164 x226003 x3).f1) ((rd_T164 x226003 x3).f2) ((rd_T164 x226003 x3).f3)).bind fun t228 => (if t228 = true then (spec_l15Valid.l0 k (wrap64 (x3 + 1)) x226000 x226001 x226002 x226003) else (some false))) else (none)) else (some true)
def spec_l15Valid.f : Nat → Int → Int → Int → List (S164) → Option (Bool)
 | 0, _, _, _, _ => none
 | k + 1, a0_0, a0_1, a0_2, l0_3 => (spec_l15Node.f a0_0 a0_1 a0_2 l0_3).bind fun t226 => (if t226 = true then (spec_l15Valid.l0 k 0 a0_0 a0_1 a0_2 l0_3) else (some false))
end
open Go.Proofs.YtineejdlpcgnkaaGreatM in
set_option maxHeartbeats 8000000 in
set_option maxRecDepth 100000 in
theorem spec_l15Valid.calls (k : Nat) : ∀ (a0_0 : Int) (a0_1 : Int) (a0_2 : Int) (A0_3 : Option Addr) (c0_3 : Nat) (l0_3 : List (S164)) (r : Bool) (w : World) (hr0_3 : Kd.C k164 w A0_3 l0_3.length l0_3) (hc0_3 : l0_3.length ≤ c0_3) (h : spec_l15Valid.f k a0_0 a0_1 a0_2 l0_3 = some r),
  Calls Tryz.prog 190 #[.agg #[.int .i64 a0_0, .int .i64 a0_1, .int .i64 a0_2, .slice A0_3 l0_3.length c0_3]] w fun e w' => e = .returned (.bool r) ∧ Below w.heap.size w w' := by
 induction k using Nat.strongRecOn with
 | _ k ih =>
 intro a0_0 a0_1 a0_2 A0_3 c0_3 l0_3 r w hr0_3 hc0_3 h
 cases k with
 | zero => exact absurd h (by simp [spec_l15Valid.f])
 | succ k =>
 simp only [spec_l15Valid.f] at h
 have HR0_3 := Aside0.mk hr0_3
 have HC0_3 := Aside0.mk hc0_3
 clear hr0_3 hc0_3
 have HB := Aside0.mk (Below.refl w.heap.size w)
 have H := h
 clear h
 have hu164 := Tryz.underlying164
 go_enter Tryz.func190, Tryz.ntmps190
 replace H := Aside0.mk H
 go_upto_region 1 with (first | ((with_reducible refine gate_dst (N := 1) rfl ?_); refine box_event ?hg (N := 1) ?hd (cs := #[.int .i64 a0_0, .int .i64 a0_1, .int .i64 a0_2, .slice A0_3 l0_3.length c0_3]) (t := 164) ?hr ?_; (case hd => rfl); (case hg => rfl); (case hr => first | (go_simp; done) | (go_simp; rfl)); intro gb1 hg W1 hbox hb; replace HB := bH HB hb; clear hb; have BK1 := Aside0.mk hbox; have c_BK1 := blk_cell hbox; have z_BK1 := blk_frozen hbox; clear hg hbox))
 replace H := H.out
 replace H := Option.bind_eq_some_iff.mp H
 obtain ⟨t226, hm, H⟩ := H
 try dsimp only at H
 replace H := Aside0.mk H
 have hcall := spec_l15Node.calls _ _ _ _ _ _ _ W1 (Kd.C_below HR0_3.out HB.out) HC0_3.out hm
 clear hm
 go_wp2_with fail
 refine hcall.mono ?_
 rintro e W2 ⟨rfl, hb⟩
 clear hcall
 replace BK1 := bK BK1 hb; replace c_BK1 := blk_cell BK1.out; replace z_BK1 := blk_frozen BK1.out
 replace HB := bH HB hb; clear hb
 replace H := H.out
 replace H := ifD H; rcases H with ⟨c3, H⟩ | ⟨c3, H⟩
 ·subst c3
  replace H := Aside0.mk H
  go_wp2
  go_loopg [3] k (fun kq v3 w' => ∃ (x3_4 : Int), v3 = .int .i64 x3_4 ∧ Aside0 (spec_l15Valid.l0 kq x3_4 a0_0 a0_1 a0_2 l0_3 = some r) ∧ Aside0 (kq ≤ k) ∧ Aside0 (w'.heap[gb1]? = some (.cells #[.int .i64 a0_0, .int .i64 a0_1, .int .i64 a0_2, .slice A0_3 l0_3.length c0_3] 164 (0, 0))) ∧ Aside0 (Below w.heap.size w w'))
  case atStart => exact ⟨(0), (by first | rfl | (simp; done) | (simp [*]; done)), H, ⟨Nat.le_refl _⟩, BK1, HB⟩
  case round =>
   clear H HB BK1 c_BK1 z_BK1
   obtain ⟨x3_4, rfl, HA, Hk4, BK1, HB⟩ := hrel
   have c_BK1 := blk_cell BK1.out; have z_BK1 := blk_frozen BK1.out
   cases gk with
   | zero => exact absurd HA.out (by simp [spec_l15Valid.l0])
   | succ k4 =>
    have H := HA.out
    clear HA
    simp only [spec_l15Valid.l0] at H
    replace H := ifD H; rcases H with ⟨c5, H⟩ | ⟨c5, H⟩
    ·have c5_0 := decT c5
     replace c5 := Aside0.mk c5
     first | rw [c5_0] | skip
     replace H := ifN H; obtain ⟨c6, H⟩ := H
     have c6_0 := decT c6
     replace c6 := Aside0.mk c6
     first | rw [c6_0] | skip
     have p227 : 0 ≤ (x3_4 : Int) := (of_decide_eq_true (by assumption))
     have q227 : x3_4 < (l0_3.length : Int) := (of_decide_eq_true (by assumption))
     obtain ⟨ad227, A227_3, c227_3, e227, hx227_0, hx227_1, hx227_2, hx227_3, hl227_3, hi227_3⟩ := at_T164 HR0_3.out x3_4 p227 q227
     cases e227
     have HR227_3 := Aside0.mk hi227_3; have HC227_3 := Aside0.mk hl227_3; clear hi227_3 hl227_3
     replace hx227_0 := Aside0.mk hx227_0
     have y227_0 := xC HB hx227_0
     replace hx227_1 := Aside0.mk hx227_1
     have y227_1 := xC HB hx227_1
     replace hx227_2 := Aside0.mk hx227_2
     have y227_2 := xC HB hx227_2
     replace hx227_3 := Aside0.mk hx227_3
     have y227_3 := xC HB hx227_3
     have r227 := eq_true p227; have s227 := eq_true q227
     replace p227 := Aside0.mk p227; replace q227 := Aside0.mk q227
     replace H := Option.bind_eq_some_iff.mp H
     obtain ⟨t228, hm, H⟩ := H
     try dsimp only at H
     replace H := Aside0.mk H
     have hcall := ih k4 (by have := Hk4.out; omega) _ _ _ _ _ _ _ wr (Kd.C_below HR227_3.out HB.out) HC227_3.out hm
     clear hm
     go_wp2_with fail
     refine hcall.mono ?_
     rintro e W7 ⟨rfl, hb⟩
     clear hcall
     try clear y227_0 y227_1 y227_2 y227_3
     replace BK1 := bK BK1 hb; replace c_BK1 := blk_cell BK1.out; replace z_BK1 := blk_frozen BK1.out
     replace HB := bH HB hb; clear hb
     replace H := H.out
     replace H := ifD H; rcases H with ⟨c8, H⟩ | ⟨c8, H⟩
     ·subst c8
      replace H := Aside0.mk H
      go_wp2
      go_roundg k4
      case measure => have := Hk4.out; omega
      case rel => exact ⟨(wrap64 (x3_4 + 1)), (by first | rfl | (simp; done) | (simp [*]; done)), H, ⟨by have := Hk4.out; omega⟩, BK1, HB⟩
     ·replace c8 := (Bool.not_eq_true _).mp c8
      subst c8
      obtain rfl := Option.some.inj H
      clear H
      go_wp2
      go_ret
      exact ⟨rfl, HB.out⟩
    ·have c5_0 := decF c5
     replace c5 := Aside0.mk c5
     first | rw [c5_0] | skip
     obtain rfl := Option.some.inj H
     clear H
     go_wp2
     go_ret
     exact ⟨rfl, HB.out⟩
 ·replace c3 := (Bool.not_eq_true _).mp c3
  subst c3
  obtain rfl := Option.some.inj H
  clear H
  go_wp2
  go_ret
  exact ⟨rfl, HB.out⟩

/-! ### spec_IsCond: function 178 -/
def spec_IsCond.f (k : Nat) (a0_0 : Int) (a0_1 : Int) (a0_2 : Int) (l0_3 : List (S164)) : Option (Bool) := (spec_l15Left.f k a0_0 a0_1 a0_2 l0_3 15).bind fun t230 => (if t230 ≥ 0 then ((spec_l15Valid.f k a0_0 a0_1 a0_2 l0_3).bind fun t231 => (some t231)) else (some false))
open Go.Proofs.YtineejdlpcgnkaaGreatM in
set_option maxHeartbeats 8000000 in
set_option maxRecDepth 100000 in
theorem spec_IsCond.calls (k : Nat) (a0_0 : Int) (a0_1 : Int) (a0_2 : Int) (A0_3 : Option Addr) (c0_3 : Nat) (l0_3 : List (S164)) (r : Bool) (w : World) (hr0_3 : Kd.C k164 w A0_3 l0_3.length l0_3) (hc0_3 : l0_3.length ≤ c0_3) (h : spec_IsCond.f k a0_0 a0_1 a0_2 l0_3 = some r) :
  Calls Tryz.prog 178 #[.agg #[.int .i64 a0_0, .int .i64 a0_1, .int .i64 a0_2, .slice A0_3 l0_3.length c0_3]] w fun e w' => e = .returned (.bool r) ∧ Below w.heap.size w w' := by
 have HR0_3 := Aside0.mk hr0_3
 have HC0_3 := Aside0.mk hc0_3
 clear hr0_3 hc0_3
 have HB := Aside0.mk (Below.refl w.heap.size w)
 have H := h
 clear h
 unfold spec_IsCond.f at H
 have hu164 := Tryz.underlying164
 go_enter Tryz.func178, Tryz.ntmps178
 replace H := Aside0.mk H
 go_upto_region 1 with (first | ((with_reducible refine gate_dst (N := 1) rfl ?_); refine box_event ?hg (N := 1) ?hd (cs := #[.int .i64 a0_0, .int .i64 a0_1, .int .i64 a0_2, .slice A0_3 l0_3.length c0_3]) (t := 164) ?hr ?_; (case hd => rfl); (case hg => rfl); (case hr => first | (go_simp; done) | (go_simp; rfl)); intro gb1 hg W1 hbox hb; replace HB := bH HB hb; clear hb; have BK1 := Aside0.mk hbox; have c_BK1 := blk_cell hbox; have z_BK1 := blk_frozen hbox; clear hg hbox))
 replace H := H.out
 replace H := Option.bind_eq_some_iff.mp H
 obtain ⟨t230, hm, H⟩ := H
 try dsimp only at H
 replace H := Aside0.mk H
 have hcall := spec_l15Left.calls k _ _ _ _ _ _ _ _ W1 (Kd.C_below HR0_3.out HB.out) HC0_3.out hm
 clear hm
 go_wp2_with fail
 refine hcall.mono ?_
 rintro e W2 ⟨rfl, hb⟩
 clear hcall
 replace BK1 := bK BK1 hb; replace c_BK1 := blk_cell BK1.out; replace z_BK1 := blk_frozen BK1.out
 replace HB := bH HB hb; clear hb
 replace H := H.out
 replace H := ifD H; rcases H with ⟨c3, H⟩ | ⟨c3, H⟩
 ·replace c3 : 0 ≤ t230 := c3
  have c3_0 := decT c3
  replace c3 := Aside0.mk c3
  first | rw [c3_0] | skip
  replace H := Option.bind_eq_some_iff.mp H
  obtain ⟨t231, hm, H⟩ := H
  try dsimp only at H
  replace H := Aside0.mk H
  have hcall := spec_l15Valid.calls k _ _ _ _ _ _ _ W2 (Kd.C_below HR0_3.out HB.out) HC0_3.out hm
  clear hm
  go_wp2_with fail
  refine hcall.mono ?_
  rintro e W4 ⟨rfl, hb⟩
  clear hcall
  replace BK1 := bK BK1 hb; replace c_BK1 := blk_cell BK1.out; replace z_BK1 := blk_frozen BK1.out
  replace HB := bH HB hb; clear hb
  replace H := H.out
  obtain rfl := Option.some.inj H
  clear H
  go_wp2
  go_ret
  exact ⟨rfl, HB.out⟩
 ·replace c3 : ¬ (0 ≤ t230) := c3
  have c3_0 := decF c3
  replace c3 := Aside0.mk c3
  first | rw [c3_0] | skip
  obtain rfl := Option.some.inj H
  clear H
  go_wp2
  go_ret
  exact ⟨rfl, HB.out⟩

/-! ### spec_IsRule: function 159 -/
def spec_IsRule.f (k : Nat) (a0_0 : Int) (a0_1 : Int) (a0_2 : Int) (a0_3 : Int) (a0_4 : Int) (a0_5 : Int) (l0_6 : List (S164)) : Option (Bool) := (spec_l1In.f a0_0 0 1).bind fun t233 => (if t233 = true then ((spec_l1In.f a0_1 (-1) 5).bind fun t234 => (if t234 = true then (if a0_2 = (-1) then ((spec_IsCond.f k a0_3 a0_4 a0_5 l0_6).bind fun t235 => (some t235)) else ((spec_HasKind.f a0_2 4).bind fun t236 => (if t236 = true then ((spec_IsCond.f k a0_3 a0_4 a0_5 l0_6).bind fun t237 => (some t237)) else (some false)))) else (some false))) else (some false))
open Go.Proofs.YtineejdlpcgnkaaGreatM in
set_option maxHeartbeats 8000000 in
set_option maxRecDepth 100000 in
theorem spec_IsRule.calls (k : Nat) (a0_0 : Int) (a0_1 : Int) (a0_2 : Int) (a0_3 : Int) (a0_4 : Int) (a0_5 : Int) (A0_6 : Option Addr) (c0_6 : Nat) (l0_6 : List (S164)) (r : Bool) (w : World) (hr0_6 : Kd.C k164 w A0_6 l0_6.length l0_6) (hc0_6 : l0_6.length ≤ c0_6) (h : spec_IsRule.f k a0_0 a0_1 a0_2 a0_3 a0_4 a0_5 l0_6 = some r) :
  Calls Tryz.prog 159 #[.agg #[.int .i64 a0_0, .int .i64 a0_1, .int .i64 a0_2, .int .i64 a0_3, .int .i64 a0_4, .int .i64 a0_5, .slice A0_6 l0_6.length c0_6]] w fun e w' => e = .returned (.bool r) ∧ Below w.heap.size w w' := by
 have HR0_6 := Aside0.mk hr0_6
 have HC0_6 := Aside0.mk hc0_6
 clear hr0_6 hc0_6
 have HB := Aside0.mk (Below.refl w.heap.size w)
 have H := h
 clear h
 unfold spec_IsRule.f at H
 have hu164 := Tryz.underlying164
 have hu166 := Tryz.underlying166
 go_enter Tryz.func159, Tryz.ntmps159
 replace H := Aside0.mk H
 go_upto_region 1 with (first | ((with_reducible refine gate_dst (N := 1) rfl ?_); refine box_event ?hg (N := 1) ?hd (cs := #[.int .i64 a0_0, .int .i64 a0_1, .int .i64 a0_2, .int .i64 a0_3, .int .i64 a0_4, .int .i64 a0_5, .slice A0_6 l0_6.length c0_6]) (t := 166) ?hr ?_; (case hd => rfl); (case hg => rfl); (case hr => first | (go_simp; done) | (go_simp; rfl)); intro gb1 hg W1 hbox hb; replace HB := bH HB hb; clear hb; have BK1 := Aside0.mk hbox; have c_BK1 := blk_cell hbox; have z_BK1 := blk_frozen hbox; clear hg hbox))
 replace H := H.out
 replace H := Option.bind_eq_some_iff.mp H
 obtain ⟨t233, hm, H⟩ := H
 try dsimp only at H
 replace H := Aside0.mk H
 have hcall := spec_l1In.calls _ _ _ _ W1  hm
 clear hm
 go_wp2_with fail
 refine hcall.mono ?_
 rintro e W2 ⟨rfl, hb⟩
 clear hcall
 replace BK1 := bK BK1 hb; replace c_BK1 := blk_cell BK1.out; replace z_BK1 := blk_frozen BK1.out
 replace HB := bH HB hb; clear hb
 replace H := H.out
 replace H := ifD H; rcases H with ⟨c3, H⟩ | ⟨c3, H⟩
 ·subst c3
  replace H := Option.bind_eq_some_iff.mp H
  obtain ⟨t234, hm, H⟩ := H
  try dsimp only at H
  replace H := Aside0.mk H
  have hcall := spec_l1In.calls _ _ _ _ W2  hm
  clear hm
  go_wp2_with fail
  refine hcall.mono ?_
  rintro e W4 ⟨rfl, hb⟩
  clear hcall
  replace BK1 := bK BK1 hb; replace c_BK1 := blk_cell BK1.out; replace z_BK1 := blk_frozen BK1.out
  replace HB := bH HB hb; clear hb
  replace H := H.out
  replace H := ifD H; rcases H with ⟨c5, H⟩ | ⟨c5, H⟩
  ·subst c5
   replace H := ifD H; rcases H with ⟨c6, H⟩ | ⟨c6, H⟩
   ·have c6_0 := decT c6; have c6_1 := eqT c6; have c6_2 := neT c6
    clear c6
    first | rw [c6_1] | rw [c6_2] | skip
    replace H := Option.bind_eq_some_iff.mp H
    obtain ⟨t235, hm, H⟩ := H
    try dsimp only at H
    replace H := Aside0.mk H
    have hcall := spec_IsCond.calls k _ _ _ _ _ _ _ W4 (Kd.C_below HR0_6.out HB.out) HC0_6.out hm
    clear hm
    go_wp2_with fail
    refine hcall.mono ?_
    rintro e W7 ⟨rfl, hb⟩
    clear hcall
    replace BK1 := bK BK1 hb; replace c_BK1 := blk_cell BK1.out; replace z_BK1 := blk_frozen BK1.out
    replace HB := bH HB hb; clear hb
    replace H := H.out
    obtain rfl := Option.some.inj H
    clear H
    go_wp2
    go_ret
    exact ⟨rfl, HB.out⟩
   ·have c6_0 := decF c6; have c6_1 := eqF c6; have c6_2 := neF c6
    clear c6
    first | rw [c6_1] | rw [c6_2] | skip
    replace H := Option.bind_eq_some_iff.mp H
    obtain ⟨t236, hm, H⟩ := H
    try dsimp only at H
    replace H := Aside0.mk H
    have hcall := spec_HasKind.calls _ _ _ W4  hm
    clear hm
    go_wp2_with fail
    refine hcall.mono ?_
    rintro e W8 ⟨rfl, hb⟩
    clear hcall
    replace BK1 := bK BK1 hb; replace c_BK1 := blk_cell BK1.out; replace z_BK1 := blk_frozen BK1.out
    replace HB := bH HB hb; clear hb
    replace H := H.out
    replace H := ifD H; rcases H with ⟨c9, H⟩ | ⟨c9, H⟩
    ·subst c9
     replace H := Option.bind_eq_some_iff.mp H
     obtain ⟨t237, hm, H⟩ := H
     try dsimp only at H
     replace H := Aside0.mk H
     have hcall := spec_IsCond.calls k _ _ _ _ _ _ _ W8 (Kd.C_below HR0_6.out HB.out) HC0_6.out hm
     clear hm
     go_wp2_with fail
     refine hcall.mono ?_
     rintro e W10 ⟨rfl, hb⟩
     clear hcall
     replace BK1 := bK BK1 hb; replace c_BK1 := blk_cell BK1.out; replace z_BK1 := blk_frozen BK1.out
     replace HB := bH HB hb; clear hb
     replace H := H.out
     obtain rfl := Option.some.inj H
     clear H
     go_wp2
     go_ret
     exact ⟨rfl, HB.out⟩
    ·replace c9 := (Bool.not_eq_true _).mp c9
     subst c9
     obtain rfl := Option.some.inj H
     clear H
     go_wp2
     go_ret
     exact ⟨rfl, HB.out⟩
  ·replace c5 := (Bool.not_eq_true _).mp c5
   subst c5
   obtain rfl := Option.some.inj H
   clear H
   go_wp2
   go_ret
   exact ⟨rfl, HB.out⟩
 ·replace c3 := (Bool.not_eq_true _).mp c3
  subst c3
  obtain rfl := Option.some.inj H
  clear H
  go_wp2
  go_ret
  exact ⟨rfl, HB.out⟩

/-! ### spec_IsPolicy: function 127 -/
def spec_IsPolicy.l0 : Nat → Int → Int → List (S166) → Option (Bool)
 | 0, _, _, _ => none
 | k + 1, x3, x239000, x239001 => if x3 < (x239001.length : Int) then (if 0 ≤ x3 then ((spec_IsRule.f k ((rd_T166 x239001 x3).f0) ((rd_T166 x239001 x3).f1) ((rd_T166 x239001 x3).f2) ((rd_T166 x239001 x3).f3.f0) ((rd_T166 x239001 x3).f3.f1) ((rd_T166 x239001 x3).f3.f2) ((rd_T166 x239001 x3).f3.f3)).bind fun t240 => (if t240 = true then (spec_IsPolicy.l0 k (wrap64 (x3 + 1)) x239000 x239001) else (some false))) else (none)) else ((spec_l1In.f x239000 0 999).bind fun t241 => (if t241 = true then (some (decide ((x239001.length : Int) ≤ 8))) else (some false)))
def spec_IsPolicy.f (k : Nat) (a0_0 : Int) (l0_1 : List (S166)) : Option (Bool) := spec_IsPolicy.l0 k 0 a0_0 l0_1
open Go.Proofs.YtineejdlpcgnkaaGreatM in
set_option maxHeartbeats 8000000 in
set_option maxRecDepth 100000 in
theorem spec_IsPolicy.calls (k : Nat) (a0_0 : Int) (A0_1 : Option Addr) (c0_1 : Nat) (l0_1 : List (S166)) (r : Bool) (w : World) (hr0_1 : Kd.C k166 w A0_1 l0_1.length l0_1) (hc0_1 : l0_1.length ≤ c0_1) (h : spec_IsPolicy.f k a0_0 l0_1 = some r) :
  Calls Tryz.prog 127 #[.agg #[.int .i64 a0_0, .slice A0_1 l0_1.length c0_1]] w fun e w' => e = .returned (.bool r) ∧ Below w.heap.size w w' := by
 have HR0_1 := Aside0.mk hr0_1
 have HC0_1 := Aside0.mk hc0_1
 clear hr0_1 hc0_1
 have HB := Aside0.mk (Below.refl w.heap.size w)
 have H := h
 clear h
 unfold spec_IsPolicy.f at H
 have hu115 := Tryz.underlying115
 have hu166 := Tryz.underlying166
 go_enter Tryz.func127, Tryz.ntmps127
 replace H := Aside0.mk H
 go_upto_region 1 with (first | ((with_reducible refine gate_dst (N := 1) rfl ?_); refine box_event ?hg (N := 1) ?hd (cs := #[.int .i64 a0_0, .slice A0_1 l0_1.length c0_1]) (t := 115) ?hr ?_; (case hd => rfl); (case hg => rfl); (case hr => first | (go_simp; done) | (go_simp; rfl)); intro gb1 hg W1 hbox hb; replace HB := bH HB hb; clear hb; have BK1 := Aside0.mk hbox; have c_BK1 := blk_cell hbox; have z_BK1 := blk_frozen hbox; clear hg hbox))
 go_wp2
 go_loopg [3] k (fun kq v3 w' => ∃ (x3_2 : Int), v3 = .int .i64 x3_2 ∧ Aside0 (spec_IsPolicy.l0 kq x3_2 a0_0 l0_1 = some r) ∧ Aside0 (kq ≤ k) ∧ Aside0 (w'.heap[gb1]? = some (.cells #[.int .i64 a0_0, .slice A0_1 l0_1.length c0_1] 115 (0, 0))) ∧ Aside0 (Below w.heap.size w w'))
 case atStart => exact ⟨(0), (by first | rfl | (simp; done) | (simp [*]; done)), H, ⟨Nat.le_refl _⟩, BK1, HB⟩
 case round =>
  clear H HB BK1 c_BK1 z_BK1
  obtain ⟨x3_2, rfl, HA, Hk2, BK1, HB⟩ := hrel
  have c_BK1 := blk_cell BK1.out; have z_BK1 := blk_frozen BK1.out
  cases gk with
  | zero => exact absurd HA.out (by simp [spec_IsPolicy.l0])
  | succ k2 =>
   have H := HA.out
   clear HA
   simp only [spec_IsPolicy.l0] at H
   replace H := ifD H; rcases H with ⟨c3, H⟩ | ⟨c3, H⟩
   ·have c3_0 := decT c3
    replace c3 := Aside0.mk c3
    first | rw [c3_0] | skip
    replace H := ifN H; obtain ⟨c4, H⟩ := H
    have c4_0 := decT c4
    replace c4 := Aside0.mk c4
    first | rw [c4_0] | skip
    have p239 : 0 ≤ (x3_2 : Int) := (of_decide_eq_true (by assumption))
    have q239 : x3_2 < (l0_1.length : Int) := (of_decide_eq_true (by assumption))
    obtain ⟨ad239, A239_6, c239_6, e239, hx239_0, hx239_1, hx239_2, hx239_3, hx239_4, hx239_5, hx239_6, hl239_6, hi239_6⟩ := at_T166 HR0_1.out x3_2 p239 q239
    cases e239
    have HR239_6 := Aside0.mk hi239_6; have HC239_6 := Aside0.mk hl239_6; clear hi239_6 hl239_6
    replace hx239_0 := Aside0.mk hx239_0
    have y239_0 := xC HB hx239_0
    replace hx239_1 := Aside0.mk hx239_1
    have y239_1 := xC HB hx239_1
    replace hx239_2 := Aside0.mk hx239_2
    have y239_2 := xC HB hx239_2
    replace hx239_3 := Aside0.mk hx239_3
    have y239_3 := xC HB hx239_3
    replace hx239_4 := Aside0.mk hx239_4
    have y239_4 := xC HB hx239_4
    replace hx239_5 := Aside0.mk hx239_5
    have y239_5 := xC HB hx239_5
    replace hx239_6 := Aside0.mk hx239_6
    have y239_6 := xC HB hx239_6
    have r239 := eq_true p239; have s239 := eq_true q239
    replace p239 := Aside0.mk p239; replace q239 := Aside0.mk q239
    replace H := Option.bind_eq_some_iff.mp H
    obtain ⟨t240, hm, H⟩ := H
    try dsimp only at H
    replace H := Aside0.mk H
    have hcall := spec_IsRule.calls k2 _ _ _ _ _ _ _ _ _ _ wr (Kd.C_below HR239_6.out HB.out) HC239_6.out hm
    clear hm
    go_wp2_with fail
    refine hcall.mono ?_
    rintro e W5 ⟨rfl, hb⟩
    clear hcall
    try clear y239_0 y239_1 y239_2 y239_3 y239_4 y239_5 y239_6
    replace BK1 := bK BK1 hb; replace c_BK1 := blk_cell BK1.out; replace z_BK1 := blk_frozen BK1.out
    replace HB := bH HB hb; clear hb
    replace H := H.out
    replace H := ifD H; rcases H with ⟨c6, H⟩ | ⟨c6, H⟩
    ·subst c6
     replace H := Aside0.mk H
     go_wp2
     go_roundg k2
     case measure => have := Hk2.out; omega
     case rel => exact ⟨(wrap64 (x3_2 + 1)), (by first | rfl | (simp; done) | (simp [*]; done)), H, ⟨by have := Hk2.out; omega⟩, BK1, HB⟩
    ·replace c6 := (Bool.not_eq_true _).mp c6
     subst c6
     obtain rfl := Option.some.inj H
     clear H
     go_wp2
     go_ret
     exact ⟨rfl, HB.out⟩
   ·have c3_0 := decF c3
    replace c3 := Aside0.mk c3
    first | rw [c3_0] | skip
    replace H := Option.bind_eq_some_iff.mp H
    obtain ⟨t241, hm, H⟩ := H
    try dsimp only at H
    replace H := Aside0.mk H
    have hcall := spec_l1In.calls _ _ _ _ wr  hm
    clear hm
    go_wp2_with fail
    refine hcall.mono ?_
    rintro e W7 ⟨rfl, hb⟩
    clear hcall
    replace BK1 := bK BK1 hb; replace c_BK1 := blk_cell BK1.out; replace z_BK1 := blk_frozen BK1.out
    replace HB := bH HB hb; clear hb
    replace H := H.out
    replace H := ifD H; rcases H with ⟨c8, H⟩ | ⟨c8, H⟩
    ·subst c8
     obtain rfl := Option.some.inj H
     clear H
     go_wp2
     go_ret
     exact ⟨rfl, HB.out⟩
    ·replace c8 := (Bool.not_eq_true _).mp c8
     subst c8
     obtain rfl := Option.some.inj H
     clear H
     go_wp2
     go_ret
     exact ⟨rfl, HB.out⟩

/-! ### spec_IsEpoch: function 79 -/
def spec_IsEpoch.f (k : Nat) (a0_0 : Int) (a0_1 : Int) (l0_2 : List (S161)) (a0_3 : Int) (l0_4 : List (S166)) : Option (Bool) := (spec_l1In.f a0_0 0 999).bind fun t243 => (if t243 = true then ((spec_IsTime.f a0_1).bind fun t244 => (if t244 = true then ((spec_ArePairs.f k l0_2).bind fun t245 => (if t245 = true then ((spec_IsPolicy.f k a0_3 l0_4).bind fun t246 => (if t246 = true then (some (a0_3 == a0_0)) else (some false))) else (some false))) else (some false))) else (some false))
open Go.Proofs.YtineejdlpcgnkaaGreatM in
set_option maxHeartbeats 8000000 in
set_option maxRecDepth 100000 in
theorem spec_IsEpoch.calls (k : Nat) (a0_0 : Int) (a0_1 : Int) (A0_2 : Option Addr) (c0_2 : Nat) (l0_2 : List (S161)) (a0_3 : Int) (A0_4 : Option Addr) (c0_4 : Nat) (l0_4 : List (S166)) (r : Bool) (w : World) (hr0_2 : Kd.C k161 w A0_2 l0_2.length l0_2) (hc0_2 : l0_2.length ≤ c0_2) (hr0_4 : Kd.C k166 w A0_4 l0_4.length l0_4) (hc0_4 : l0_4.length ≤ c0_4) (h : spec_IsEpoch.f k a0_0 a0_1 l0_2 a0_3 l0_4 = some r) :
  Calls Tryz.prog 79 #[.agg #[.int .i64 a0_0, .int .i64 a0_1, .slice A0_2 l0_2.length c0_2, .int .i64 a0_3, .slice A0_4 l0_4.length c0_4]] w fun e w' => e = .returned (.bool r) ∧ Below w.heap.size w w' := by
 have HR0_2 := Aside0.mk hr0_2
 have HC0_2 := Aside0.mk hc0_2
 clear hr0_2 hc0_2
 have HR0_4 := Aside0.mk hr0_4
 have HC0_4 := Aside0.mk hc0_4
 clear hr0_4 hc0_4
 have HB := Aside0.mk (Below.refl w.heap.size w)
 have H := h
 clear h
 unfold spec_IsEpoch.f at H
 have hu115 := Tryz.underlying115
 have hu117 := Tryz.underlying117
 go_enter Tryz.func79, Tryz.ntmps79
 replace H := Aside0.mk H
 go_upto_region 1 with (first | ((with_reducible refine gate_dst (N := 1) rfl ?_); refine box_event ?hg (N := 1) ?hd (cs := #[.int .i64 a0_0, .int .i64 a0_1, .slice A0_2 l0_2.length c0_2, .int .i64 a0_3, .slice A0_4 l0_4.length c0_4]) (t := 117) ?hr ?_; (case hd => rfl); (case hg => rfl); (case hr => first | (go_simp; done) | (go_simp; rfl)); intro gb1 hg W1 hbox hb; replace HB := bH HB hb; clear hb; have BK1 := Aside0.mk hbox; have c_BK1 := blk_cell hbox; have z_BK1 := blk_frozen hbox; clear hg hbox))
 replace H := H.out
 replace H := Option.bind_eq_some_iff.mp H
 obtain ⟨t243, hm, H⟩ := H
 try dsimp only at H
 replace H := Aside0.mk H
 have hcall := spec_l1In.calls _ _ _ _ W1  hm
 clear hm
 go_wp2_with fail
 refine hcall.mono ?_
 rintro e W2 ⟨rfl, hb⟩
 clear hcall
 replace BK1 := bK BK1 hb; replace c_BK1 := blk_cell BK1.out; replace z_BK1 := blk_frozen BK1.out
 replace HB := bH HB hb; clear hb
 replace H := H.out
 replace H := ifD H; rcases H with ⟨c3, H⟩ | ⟨c3, H⟩
 ·subst c3
  replace H := Option.bind_eq_some_iff.mp H
  obtain ⟨t244, hm, H⟩ := H
  try dsimp only at H
  replace H := Aside0.mk H
  have hcall := spec_IsTime.calls _ _ W2  hm
  clear hm
  go_wp2_with fail
  refine hcall.mono ?_
  rintro e W4 ⟨rfl, hb⟩
  clear hcall
  replace BK1 := bK BK1 hb; replace c_BK1 := blk_cell BK1.out; replace z_BK1 := blk_frozen BK1.out
  replace HB := bH HB hb; clear hb
  replace H := H.out
  replace H := ifD H; rcases H with ⟨c5, H⟩ | ⟨c5, H⟩
  ·subst c5
   replace H := Option.bind_eq_some_iff.mp H
   obtain ⟨t245, hm, H⟩ := H
   try dsimp only at H
   replace H := Aside0.mk H
   have hcall := spec_ArePairs.calls k _ _ _ _ W4 (Kd.C_below HR0_2.out HB.out) HC0_2.out hm
   clear hm
   go_wp2_with fail
   refine hcall.mono ?_
   rintro e W6 ⟨rfl, hb⟩
   clear hcall
   replace BK1 := bK BK1 hb; replace c_BK1 := blk_cell BK1.out; replace z_BK1 := blk_frozen BK1.out
   replace HB := bH HB hb; clear hb
   replace H := H.out
   replace H := ifD H; rcases H with ⟨c7, H⟩ | ⟨c7, H⟩
   ·subst c7
    replace H := Option.bind_eq_some_iff.mp H
    obtain ⟨t246, hm, H⟩ := H
    try dsimp only at H
    replace H := Aside0.mk H
    have hcall := spec_IsPolicy.calls k _ _ _ _ _ W6 (Kd.C_below HR0_4.out HB.out) HC0_4.out hm
    clear hm
    go_wp2_with fail
    refine hcall.mono ?_
    rintro e W8 ⟨rfl, hb⟩
    clear hcall
    replace BK1 := bK BK1 hb; replace c_BK1 := blk_cell BK1.out; replace z_BK1 := blk_frozen BK1.out
    replace HB := bH HB hb; clear hb
    replace H := H.out
    replace H := ifD H; rcases H with ⟨c9, H⟩ | ⟨c9, H⟩
    ·subst c9
     obtain rfl := Option.some.inj H
     clear H
     go_wp2
     go_ret
     exact ⟨rfl, HB.out⟩
    ·replace c9 := (Bool.not_eq_true _).mp c9
     subst c9
     obtain rfl := Option.some.inj H
     clear H
     go_wp2
     go_ret
     exact ⟨rfl, HB.out⟩
   ·replace c7 := (Bool.not_eq_true _).mp c7
    subst c7
    obtain rfl := Option.some.inj H
    clear H
    go_wp2
    go_ret
    exact ⟨rfl, HB.out⟩
  ·replace c5 := (Bool.not_eq_true _).mp c5
   subst c5
   obtain rfl := Option.some.inj H
   clear H
   go_wp2
   go_ret
   exact ⟨rfl, HB.out⟩
 ·replace c3 := (Bool.not_eq_true _).mp c3
  subst c3
  obtain rfl := Option.some.inj H
  clear H
  go_wp2
  go_ret
  exact ⟨rfl, HB.out⟩

/-! ### spec_AreEpochs: function 29 -/
def spec_AreEpochs.l0 : Nat → List (S117) → Int → Option (Bool)
 | 0, _, _ => none
 | k + 1, x0, x3 => if x3 < (x0.length : Int) then (if 0 ≤ x3 then ((spec_IsEpoch.f k ((rd_T117 x0 x3).f0) ((rd_T117 x0 x3).f1) ((rd_T117 x0 x3).f2) ((rd_T117 x0 x3).f3.f0) ((rd_T117 x0 x3).f3.f1)).bind fun t248 => (if t248 = true then (if x3 > 0 then (if 0 ≤ (wrap64 (x3 - 1)) then (if (wrap64 (x3 - 1)) < (x0.length : Int) then (if ((rd_T117 x0 (wrap64 (x3 - 1))).f0) ≥ ((rd_T117 x0 x3).f0) then (some false) else (if ((rd_T117 x0 (wrap64 (x3 - 1))).f1) > ((rd_T117 x0 x3).f1) then (some false) else (spec_AreEpochs.l0 k x0 (wrap64 (x3 + 1))))) else (none)) else (none)) else (spec_AreEpochs.l0 k x0 (wrap64 (x3 + 1)))) else (some false))) else (none)) else (some (decide ((x0.length : Int) ≤ 6)))
def spec_AreEpochs.f (k : Nat) (l0 : List (S117)) : Option (Bool) := spec_AreEpochs.l0 k l0 0
open Go.Proofs.YtineejdlpcgnkaaGreatM in
set_option maxHeartbeats 8000000 in
set_option maxRecDepth 100000 in
theorem spec_AreEpochs.calls (k : Nat) (A0 : Option Addr) (c0 : Nat) (l0 : List (S117)) (r : Bool) (w : World) (hr0 : Kd.C k117 w A0 l0.length l0) (hc0 : l0.length ≤ c0) (h : spec_AreEpochs.f k l0 = some r) :
  Calls Tryz.prog 29 #[.slice A0 l0.length c0] w fun e w' => e = .returned (.bool r) ∧ Below w.heap.size w w' := by
 have HR0 := Aside0.mk hr0
 have HC0 := Aside0.mk hc0
 clear hr0 hc0
 have HB := Aside0.mk (Below.refl w.heap.size w)
 have H := h
 clear h
 unfold spec_AreEpochs.f at H
 have hu117 := Tryz.underlying117
 go_enter Tryz.func29, Tryz.ntmps29
 replace H := Aside0.mk H
 go_wp2
 go_loopg [3] k (fun kq v3 w' => ∃ (x3_1 : Int), v3 = .int .i64 x3_1 ∧ Aside0 (spec_AreEpochs.l0 kq l0 x3_1 = some r) ∧ Aside0 (kq ≤ k) ∧ Aside0 (Below w.heap.size w w'))
 case atStart => exact ⟨(0), (by first | rfl | (simp; done) | (simp [*]; done)), H, ⟨Nat.le_refl _⟩, HB⟩
 case round =>
  clear H HB 
  obtain ⟨x3_1, rfl, HA, Hk1, HB⟩ := hrel
  cases gk with
  | zero => exact absurd HA.out (by simp [spec_AreEpochs.l0])
  | succ k1 =>
   have H := HA.out
   clear HA
   simp only [spec_AreEpochs.l0] at H
   replace H := ifD H; rcases H with ⟨c2, H⟩ | ⟨c2, H⟩
   ·have c2_0 := decT c2
    replace c2 := Aside0.mk c2
    first | rw [c2_0] | skip
    replace H := Aside0.mk H
    try go_wp2
    have HBr := HB; replace HB := dH HB
    refine stA (n := 38) (S := fun w' => Below wr.heap.size wr w') (by kernel_rfl) rfl (below_drew1 (Below.refl _ wr)) (by kernel_rfl) (fun hHeld => ?_)
    generalize wr.drew = W3 at HB hHeld ⊢
    refine pu 0 (some 10) 1 ?_; refine pu 1 (some 11) 3 ?_
    replace H := H.out
    replace H := ifN H; obtain ⟨c4, H⟩ := H
    have c4_0 := decT c4
    replace c4 := Aside0.mk c4
    first | rw [c4_0] | skip
    have p247 : 0 ≤ (x3_1 : Int) := (of_decide_eq_true (by assumption))
    have q247 : x3_1 < (l0.length : Int) := (of_decide_eq_true (by assumption))
    obtain ⟨ad247, A247_2, c247_2, A247_4, c247_4, e247, hx247_0, hx247_1, hx247_2, hx247_3, hx247_4, hl247_2, hi247_2, hl247_4, hi247_4⟩ := at_T117 HR0.out x3_1 p247 q247
    cases e247
    have HR247_2 := Aside0.mk hi247_2; have HC247_2 := Aside0.mk hl247_2; clear hi247_2 hl247_2
    have HR247_4 := Aside0.mk hi247_4; have HC247_4 := Aside0.mk hl247_4; clear hi247_4 hl247_4
    replace hx247_0 := Aside0.mk hx247_0
    replace hx247_1 := Aside0.mk hx247_1
    replace hx247_2 := Aside0.mk hx247_2
    replace hx247_3 := Aside0.mk hx247_3
    replace hx247_4 := Aside0.mk hx247_4
    have r247 := eq_true p247; have s247 := eq_true q247
    replace p247 := Aside0.mk p247; replace q247 := Aside0.mk q247
    replace H := Option.bind_eq_some_iff.mp H
    obtain ⟨t248, hm, H⟩ := H
    try dsimp only at H
    replace hm := Aside0.mk hm
    replace H := Aside0.mk H
    refine pu 2 (some 12) 7 ?_; refine ld 3 (some 13) 15 hHeld ?_ (hr := by (intro w' h_; have y0_ := xD HBr h_ hx247_0; have y1_ := xD HBr h_ hx247_1; have y2_ := xD HBr h_ hx247_2; have y3_ := xD HBr h_ hx247_3; have y4_ := xD HBr h_ hx247_4; go_simp; with_reducible rfl))
    refine on 4 (some 14) 31 (fun K hK => ?_)
    have hcall := spec_IsEpoch.calls k1 _ _ _ _ _ _ _ _ _ _ W3 (Kd.C_below HR247_2.out HB.out) HC247_2.out (Kd.C_below HR247_4.out HB.out) HC247_4.out hm.out
    refine goes_ Tryz.func79 (by kernel_rfl) rfl #[.agg #[.int .i64 ((rd_T117 l0 x3_1).f0), .int .i64 ((rd_T117 l0 x3_1).f1), .slice A247_2 ((rd_T117 l0 x3_1).f2).length c247_2, .int .i64 ((rd_T117 l0 x3_1).f3.f0), .slice A247_4 ((rd_T117 l0 x3_1).f3.f1).length c247_4]] (by rfl) rfl rfl (by (try simp only [List.map_toArray, List.map_cons, List.map_nil]); first | done | rfl) ?_
    refine hcall.mono ?_
    rintro e W6 ⟨rfl, hb⟩
    refine ⟨_, rfl, ?_⟩
    clear hcall hm
    replace hHeld := below_step hHeld hb
    replace HB := bH HB hb; clear hb
    refine hK.out _ _ hHeld (fun hHeld => ?_)
    clear hK K
    refine nr 14 ?_
    replace H := H.out
    replace H := ifD H; rcases H with ⟨c7, H⟩ | ⟨c7, H⟩
    ·subst c7
     replace H := ifD H; rcases H with ⟨c8, H⟩ | ⟨c8, H⟩
     ·replace c8 : 0 < x3_1 := c8
      have c8_0 := decT c8
      replace c8 := Aside0.mk c8
      first | rw [c8_0] | skip
      replace H := ifN H; obtain ⟨c9, H⟩ := H
      have c9_0 := decT c9
      replace c9 := Aside0.mk c9
      first | rw [c9_0] | skip
      replace H := ifN H; obtain ⟨c10, H⟩ := H
      have c10_0 := decT c10
      replace c10 := Aside0.mk c10
      first | rw [c10_0] | skip
      have p249 : 0 ≤ ((wrap64 (x3_1 - 1)) : Int) := (of_decide_eq_true (by assumption))
      have q249 : (wrap64 (x3_1 - 1)) < (l0.length : Int) := (of_decide_eq_true (by assumption))
      obtain ⟨ad249, A249_2, c249_2, A249_4, c249_4, e249, hx249_0, hx249_1, hx249_2, hx249_3, hx249_4, hl249_2, hi249_2, hl249_4, hi249_4⟩ := at_T117 HR0.out (wrap64 (x3_1 - 1)) p249 q249
      obtain rfl : ad247 = ad249 := by injection e249
      have HR249_2 := Aside0.mk hi249_2; have HC249_2 := Aside0.mk hl249_2; clear hi249_2 hl249_2
      have HR249_4 := Aside0.mk hi249_4; have HC249_4 := Aside0.mk hl249_4; clear hi249_4 hl249_4
      replace hx249_0 := Aside0.mk hx249_0
      replace hx249_1 := Aside0.mk hx249_1
      replace hx249_2 := Aside0.mk hx249_2
      replace hx249_3 := Aside0.mk hx249_3
      replace hx249_4 := Aside0.mk hx249_4
      have r249 := eq_true p249; have s249 := eq_true q249
      replace p249 := Aside0.mk p249; replace q249 := Aside0.mk q249
      replace H := ifD H; rcases H with ⟨c11, H⟩ | ⟨c11, H⟩
      ·replace c11 : ((rd_T117 l0 x3_1).f0) ≤ ((rd_T117 l0 (wrap64 (x3_1 - 1))).f0) := c11
       have c11_0 := decT c11
       replace c11 := Aside0.mk c11
       first | rw [c11_0] | skip
       replace H := Aside0.mk H
       refine pu 5 (some 15) 63 ?_; refine pu 6 (some 16) 127 ?_; refine pu 7 (some 17) 255 ?_; refine pu 8 (some 18) 511 ?_; refine pu 9 (some 19) 1023 ?_; refine pu 10 (some 20) 2047 ?_; refine pu 11 (some 21) 4095 ?_; refine pu 12 (some 22) 8191 ?_; refine pu 13 (some 23) 16383 ?_; refine pu 14 (some 24) 32767 ?_; refine pu 16 (some 26) 98303 ?_; refine pu 17 (some 27) 229375 ?_; refine pu 18 (some 28) 491519 ?_; refine pu 19 (some 29) 1015807 ?_; refine ld 15 (some 25) 1048575 hHeld ?_ (hr := by (intro w' h_; have y0_ := xD HBr h_ hx249_0; have y1_ := xD HBr h_ hx249_1; have y2_ := xD HBr h_ hx249_2; have y3_ := xD HBr h_ hx249_3; have y4_ := xD HBr h_ hx249_4; go_simp; with_reducible rfl)); refine ld 20 (some 30) 2097151 hHeld ?_ (hr := by (intro w' h_; have y0_ := xD HBr h_ hx247_0; have y1_ := xD HBr h_ hx247_1; have y2_ := xD HBr h_ hx247_2; have y3_ := xD HBr h_ hx247_3; have y4_ := xD HBr h_ hx247_4; go_simp; with_reducible rfl)); refine pu 21 (some 31) 4194303 ?_; refine pu 22 (some 32) 8388607 ?_; refine sk 23 (some 33) 16777215 ?_; refine sk 24 (some 34) 33554431 ?_; refine sk 25 (some 35) 67108863 ?_; refine sk 26 (some 36) 134217727 ?_; refine sk 27 (some 37) 268435455 ?_; refine sk 28 (some 38) 536870911 ?_; refine sk 29 (some 39) 1073741823 ?_; refine sk 30 (some 40) 2147483647 ?_; refine sk 31 (some 41) 4294967295 ?_; refine sk 32 (some 42) 8589934591 ?_; refine sk 33 (some 43) 17179869183 ?_; refine sk 34 (some 44) 34359738367 ?_; refine pu 35 (some 45) 68719476735 ?_; refine pu 36 (some 46) 137438953471 ?_; refine pu 37 (some 47) 274877906943 ?_
       refine dn (by kernel_rfl) ?_
       clear hHeld HBr
       replace H := H.out
       obtain rfl := Option.some.inj H
       clear H
       go_wp2
       go_ret
       exact ⟨rfl, HB.out⟩
      ·replace c11 : ¬ (((rd_T117 l0 x3_1).f0) ≤ ((rd_T117 l0 (wrap64 (x3_1 - 1))).f0)) := c11
       have c11_0 := decF c11
       replace c11 := Aside0.mk c11
       first | rw [c11_0] | skip
       replace H := Aside0.mk H
       refine pu 5 (some 15) 63 ?_; refine pu 6 (some 16) 127 ?_; refine pu 7 (some 17) 255 ?_; refine pu 8 (some 18) 511 ?_; refine pu 9 (some 19) 1023 ?_; refine pu 10 (some 20) 2047 ?_; refine pu 11 (some 21) 4095 ?_; refine pu 12 (some 22) 8191 ?_; refine pu 13 (some 23) 16383 ?_; refine pu 14 (some 24) 32767 ?_; refine pu 16 (some 26) 98303 ?_; refine pu 17 (some 27) 229375 ?_; refine pu 18 (some 28) 491519 ?_; refine pu 19 (some 29) 1015807 ?_; refine ld 15 (some 25) 1048575 hHeld ?_ (hr := by (intro w' h_; have y0_ := xD HBr h_ hx249_0; have y1_ := xD HBr h_ hx249_1; have y2_ := xD HBr h_ hx249_2; have y3_ := xD HBr h_ hx249_3; have y4_ := xD HBr h_ hx249_4; go_simp; with_reducible rfl)); refine ld 20 (some 30) 2097151 hHeld ?_ (hr := by (intro w' h_; have y0_ := xD HBr h_ hx247_0; have y1_ := xD HBr h_ hx247_1; have y2_ := xD HBr h_ hx247_2; have y3_ := xD HBr h_ hx247_3; have y4_ := xD HBr h_ hx247_4; go_simp; with_reducible rfl)); refine pu 21 (some 31) 4194303 ?_; refine pu 22 (some 32) 8388607 ?_; refine pu 23 (some 33) 16777215 ?_; refine pu 24 (some 34) 33554431 ?_; refine pu 25 (some 35) 67108863 ?_; refine pu 26 (some 36) 134217727 ?_; refine pu 27 (some 37) 268435455 ?_; refine pu 29 (some 39) 805306367 ?_; refine pu 30 (some 40) 1879048191 ?_; refine pu 31 (some 41) 4026531839 ?_; refine pu 32 (some 42) 8321499135 ?_; refine ld 28 (some 38) 8589934591 hHeld ?_ (hr := by (intro w' h_; have y0_ := xD HBr h_ hx249_0; have y1_ := xD HBr h_ hx249_1; have y2_ := xD HBr h_ hx249_2; have y3_ := xD HBr h_ hx249_3; have y4_ := xD HBr h_ hx249_4; go_simp; with_reducible rfl)); refine ld 33 (some 43) 17179869183 hHeld ?_ (hr := by (intro w' h_; have y0_ := xD HBr h_ hx247_0; have y1_ := xD HBr h_ hx247_1; have y2_ := xD HBr h_ hx247_2; have y3_ := xD HBr h_ hx247_3; have y4_ := xD HBr h_ hx247_4; go_simp; with_reducible rfl)); refine pu 34 (some 44) 34359738367 ?_; refine pu 35 (some 45) 68719476735 ?_; refine pu 36 (some 46) 137438953471 ?_; refine pu 37 (some 47) 274877906943 ?_
       refine dn (by kernel_rfl) ?_
       clear hHeld HBr
       replace H := H.out
       replace H := ifD H; rcases H with ⟨c12, H⟩ | ⟨c12, H⟩
       ·replace c12 : ((rd_T117 l0 x3_1).f1) < ((rd_T117 l0 (wrap64 (x3_1 - 1))).f1) := c12
        have c12_0 := decT c12
        replace c12 := Aside0.mk c12
        first | rw [c12_0] | skip
        obtain rfl := Option.some.inj H
        clear H
        go_wp2
        go_ret
        exact ⟨rfl, HB.out⟩
       ·replace c12 : ¬ (((rd_T117 l0 x3_1).f1) < ((rd_T117 l0 (wrap64 (x3_1 - 1))).f1)) := c12
        have c12_0 := decF c12
        replace c12 := Aside0.mk c12
        first | rw [c12_0] | skip
        replace H := Aside0.mk H
        go_wp2
        go_roundg k1
        case measure => have := Hk1.out; omega
        case rel => exact ⟨(wrap64 (x3_1 + 1)), (by first | rfl | (simp; done) | (simp [*]; done)), H, ⟨by have := Hk1.out; omega⟩, HB⟩
     ·replace c8 : ¬ (0 < x3_1) := c8
      have c8_0 := decF c8
      replace c8 := Aside0.mk c8
      first | rw [c8_0] | skip
      replace H := Aside0.mk H
      refine pu 5 (some 15) 63 ?_; refine pu 6 (some 16) 127 ?_; refine pu 7 (some 17) 255 ?_; refine pu 8 (some 18) 511 ?_; refine pu 9 (some 19) 1023 ?_; refine sk 10 (some 20) 2047 ?_; refine sk 11 (some 21) 4095 ?_; refine sk 12 (some 22) 8191 ?_; refine sk 13 (some 23) 16383 ?_; refine sk 14 (some 24) 32767 ?_; refine sk 15 (some 25) 65535 ?_; refine sk 16 (some 26) 131071 ?_; refine sk 17 (some 27) 262143 ?_; refine sk 18 (some 28) 524287 ?_; refine sk 19 (some 29) 1048575 ?_; refine sk 20 (some 30) 2097151 ?_; refine sk 21 (some 31) 4194303 ?_; refine sk 22 (some 32) 8388607 ?_; refine sk 23 (some 33) 16777215 ?_; refine sk 24 (some 34) 33554431 ?_; refine sk 25 (some 35) 67108863 ?_; refine sk 26 (some 36) 134217727 ?_; refine sk 27 (some 37) 268435455 ?_; refine sk 28 (some 38) 536870911 ?_; refine sk 29 (some 39) 1073741823 ?_; refine sk 30 (some 40) 2147483647 ?_; refine sk 31 (some 41) 4294967295 ?_; refine sk 32 (some 42) 8589934591 ?_; refine sk 33 (some 43) 17179869183 ?_; refine sk 34 (some 44) 34359738367 ?_; refine sk 35 (some 45) 68719476735 ?_; refine pu 36 (some 46) 137438953471 ?_; refine pu 37 (some 47) 274877906943 ?_
      refine dn (by kernel_rfl) ?_
      clear hHeld HBr
      go_wp2
      go_roundg k1
      case measure => have := Hk1.out; omega
      case rel => exact ⟨(wrap64 (x3_1 + 1)), (by first | rfl | (simp; done) | (simp [*]; done)), H, ⟨by have := Hk1.out; omega⟩, HB⟩
    ·replace c7 := (Bool.not_eq_true _).mp c7
     subst c7
     replace H := Aside0.mk H
     refine pu 5 (some 15) 63 ?_; refine pu 6 (some 16) 127 ?_; refine sk 7 (some 17) 255 ?_; refine sk 8 (some 18) 511 ?_; refine sk 9 (some 19) 1023 ?_; refine sk 10 (some 20) 2047 ?_; refine sk 11 (some 21) 4095 ?_; refine sk 12 (some 22) 8191 ?_; refine sk 13 (some 23) 16383 ?_; refine sk 14 (some 24) 32767 ?_; refine sk 15 (some 25) 65535 ?_; refine sk 16 (some 26) 131071 ?_; refine sk 17 (some 27) 262143 ?_; refine sk 18 (some 28) 524287 ?_; refine sk 19 (some 29) 1048575 ?_; refine sk 20 (some 30) 2097151 ?_; refine sk 21 (some 31) 4194303 ?_; refine sk 22 (some 32) 8388607 ?_; refine sk 23 (some 33) 16777215 ?_; refine sk 24 (some 34) 33554431 ?_; refine sk 25 (some 35) 67108863 ?_; refine sk 26 (some 36) 134217727 ?_; refine sk 27 (some 37) 268435455 ?_; refine sk 28 (some 38) 536870911 ?_; refine sk 29 (some 39) 1073741823 ?_; refine sk 30 (some 40) 2147483647 ?_; refine sk 31 (some 41) 4294967295 ?_; refine sk 32 (some 42) 8589934591 ?_; refine sk 33 (some 43) 17179869183 ?_; refine sk 34 (some 44) 34359738367 ?_; refine sk 35 (some 45) 68719476735 ?_; refine sk 36 (some 46) 137438953471 ?_; refine pu 37 (some 47) 274877906943 ?_
     refine dn (by kernel_rfl) ?_
     clear hHeld HBr
     replace H := H.out
     obtain rfl := Option.some.inj H
     clear H
     go_wp2
     go_ret
     exact ⟨rfl, HB.out⟩
   ·have c2_0 := decF c2
    replace c2 := Aside0.mk c2
    first | rw [c2_0] | skip
    obtain rfl := Option.some.inj H
    clear H
    go_wp2
    go_ret
    exact ⟨rfl, HB.out⟩

end Go.Proofs.YtineejdlpcgnkaaGreat.QFnExactIsCenter
