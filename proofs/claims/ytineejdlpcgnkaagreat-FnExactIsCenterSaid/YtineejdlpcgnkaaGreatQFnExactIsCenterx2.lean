/- The machine side of FnExactIsCenter: what each function that it reaches computes, and that the machine's call gives just that. -/
import Derived.Test.YtineejdlpcgnkaaGreatQFnExactIsCenterx0
namespace Go.Proofs.YtineejdlpcgnkaaGreat.QFnExactIsCenter
open Go.RowKit Go.Proofs.YtineejdlpcgnkaaGreatW.PrintWords Go.Proofs.YtineejdlpcgnkaaGreatW.PrintLast Go.Proofs.YtineejdlpcgnkaaGreatW.PrintMore
attribute [local go_sem] max2_int min2_int max_two min_two max_three min_three max_four min_four   -- for this text's walks alone
set_option linter.unusedVariables false
set_option linter.unusedSimpArgs false

/-! ### laws_szIntS: function 122 -/
def laws_szIntS.f (l0 : List Int) (a1 : Int) : Option (Int) := if (wrap64 (a1 - (l0.length : Int))) < 0 then (some (-1)) else (some (wrap64 (a1 - (l0.length : Int))))
open Go.Proofs.YtineejdlpcgnkaaGreatM in
set_option maxHeartbeats 8000000 in
set_option maxRecDepth 100000 in
theorem laws_szIntS.calls (A0 : Option Addr) (c0 : Nat) (l0 : List Int) (a1 : Int) (r : Int) (w : World) (hr0 : Kd.C (Kd.int .i64) w A0 l0.length l0) (hc0 : l0.length ≤ c0) (h : laws_szIntS.f l0 a1 = some r) :
  Calls Tryz.prog 122 #[.slice A0 l0.length c0, .int .i64 a1] w fun e w' => e = .returned (.int .i64 r) ∧ Below w.heap.size w w' := by
 have HR0 := Aside0.mk hr0
 have HC0 := Aside0.mk hc0
 clear hr0 hc0
 have HB := Aside0.mk (Below.refl w.heap.size w)
 have H := h
 clear h
 unfold laws_szIntS.f at H
 go_enter Tryz.func122, Tryz.ntmps122
 replace H := ifD H; rcases H with ⟨c1, H⟩ | ⟨c1, H⟩
 ·have c1_0 := decT c1
  replace c1 := Aside0.mk c1
  first | rw [c1_0] | skip
  obtain rfl := Option.some.inj H
  clear H
  go_wp2
  go_ret
  exact ⟨rfl, HB.out⟩
 ·have c1_0 := decF c1
  replace c1 := Aside0.mk c1
  first | rw [c1_0] | skip
  obtain rfl := Option.some.inj H
  clear H
  go_wp2
  go_ret
  exact ⟨rfl, HB.out⟩

/-! ### laws_szIssuer: function 73 -/
def laws_szIssuer.f (a0_0 : Int) (l0_1 : List Int) (a0_2 : Int) (a1 : Int) : Option (Int) := (laws_szIntS.f l0_1 a1).bind fun t102 => (if t102 < 0 then (some (-1)) else (some t102))
open Go.Proofs.YtineejdlpcgnkaaGreatM in
set_option maxHeartbeats 8000000 in
set_option maxRecDepth 100000 in
theorem laws_szIssuer.calls (a0_0 : Int) (A0_1 : Option Addr) (c0_1 : Nat) (l0_1 : List Int) (a0_2 : Int) (a1 : Int) (r : Int) (w : World) (hr0_1 : Kd.C (Kd.int .i64) w A0_1 l0_1.length l0_1) (hc0_1 : l0_1.length ≤ c0_1) (h : laws_szIssuer.f a0_0 l0_1 a0_2 a1 = some r) :
  Calls Tryz.prog 73 #[.agg #[.int .i64 a0_0, .slice A0_1 l0_1.length c0_1, .int .i64 a0_2], .int .i64 a1] w fun e w' => e = .returned (.int .i64 r) ∧ Below w.heap.size w w' := by
 have HR0_1 := Aside0.mk hr0_1
 have HC0_1 := Aside0.mk hc0_1
 clear hr0_1 hc0_1
 have HB := Aside0.mk (Below.refl w.heap.size w)
 have H := h
 clear h
 unfold laws_szIssuer.f at H
 have hu100 := Tryz.underlying100
 go_enter Tryz.func73, Tryz.ntmps73
 replace H := Aside0.mk H
 go_upto_region 1 with (first | ((with_reducible refine gate_dst (N := 2) rfl ?_); refine box_event ?hg (N := 2) ?hd (cs := #[.int .i64 a0_0, .slice A0_1 l0_1.length c0_1, .int .i64 a0_2]) (t := 100) ?hr ?_; (case hd => rfl); (case hg => rfl); (case hr => first | (go_simp; done) | (go_simp; rfl)); intro gb1 hg W1 hbox hb; replace HB := bH HB hb; clear hb; have BK1 := Aside0.mk hbox; have c_BK1 := blk_cell hbox; have z_BK1 := blk_frozen hbox; clear hg hbox))
 replace H := H.out
 replace H := Option.bind_eq_some_iff.mp H
 obtain ⟨t102, hm, H⟩ := H
 try dsimp only at H
 replace H := Aside0.mk H
 have hcall := laws_szIntS.calls _ _ _ _ _ W1 (Kd.C_below HR0_1.out HB.out) HC0_1.out hm
 clear hm
 go_wp2_with fail
 refine hcall.mono ?_
 rintro e W2 ⟨rfl, hb⟩
 clear hcall
 replace BK1 := bK BK1 hb; replace c_BK1 := blk_cell BK1.out; replace z_BK1 := blk_frozen BK1.out
 replace HB := bH HB hb; clear hb
 replace H := H.out
 replace H := ifD H; rcases H with ⟨c3, H⟩ | ⟨c3, H⟩
 ·have c3_0 := decT c3
  replace c3 := Aside0.mk c3
  first | rw [c3_0] | skip
  obtain rfl := Option.some.inj H
  clear H
  go_wp2
  go_ret
  exact ⟨rfl, HB.out⟩
 ·have c3_0 := decF c3
  replace c3 := Aside0.mk c3
  first | rw [c3_0] | skip
  obtain rfl := Option.some.inj H
  clear H
  go_wp2
  go_ret
  exact ⟨rfl, HB.out⟩

/-! ### laws_szIssuerS: function 21 -/
def laws_szIssuerS.l0 : Nat → List (S100) → Int → Int → Option (Int)
 | 0, _, _, _ => none
 | k + 1, x0, x1, x5 => if x5 < (x0.length : Int) then (if 0 ≤ x5 then ((laws_szIssuer.f ((rd_T100 x0 x5).f0) ((rd_T100 x0 x5).f1) ((rd_T100 x0 x5).f2) x1).bind fun t104 => (if t104 < 0 then (some (-1)) else (laws_szIssuerS.l0 k x0 t104 (wrap64 (x5 + 1))))) else (none)) else (some x1)
def laws_szIssuerS.f (k : Nat) (l0 : List (S100)) (a1 : Int) : Option (Int) := if (wrap64 (a1 - (l0.length : Int))) < 0 then (some (-1)) else (laws_szIssuerS.l0 k l0 (wrap64 (a1 - (l0.length : Int))) 0)
open Go.Proofs.YtineejdlpcgnkaaGreatM in
set_option maxHeartbeats 8000000 in
set_option maxRecDepth 100000 in
theorem laws_szIssuerS.calls (k : Nat) (A0 : Option Addr) (c0 : Nat) (l0 : List (S100)) (a1 : Int) (r : Int) (w : World) (hr0 : Kd.C k100 w A0 l0.length l0) (hc0 : l0.length ≤ c0) (h : laws_szIssuerS.f k l0 a1 = some r) :
  Calls Tryz.prog 21 #[.slice A0 l0.length c0, .int .i64 a1] w fun e w' => e = .returned (.int .i64 r) ∧ Below w.heap.size w w' := by
 have HR0 := Aside0.mk hr0
 have HC0 := Aside0.mk hc0
 clear hr0 hc0
 have HB := Aside0.mk (Below.refl w.heap.size w)
 have H := h
 clear h
 unfold laws_szIssuerS.f at H
 have hu100 := Tryz.underlying100
 go_enter Tryz.func21, Tryz.ntmps21
 replace H := ifD H; rcases H with ⟨c1, H⟩ | ⟨c1, H⟩
 ·have c1_0 := decT c1
  replace c1 := Aside0.mk c1
  first | rw [c1_0] | skip
  obtain rfl := Option.some.inj H
  clear H
  go_wp2
  go_ret
  exact ⟨rfl, HB.out⟩
 ·have c1_0 := decF c1
  replace c1 := Aside0.mk c1
  first | rw [c1_0] | skip
  replace H := Aside0.mk H
  go_wp2
  go_loopg [1, 5] k (fun kq v1 v5 w' => ∃ (x1_2 : Int) (x5_2 : Int), v1 = .int .i64 x1_2 ∧ v5 = .int .i64 x5_2 ∧ Aside0 (laws_szIssuerS.l0 kq l0 x1_2 x5_2 = some r) ∧ Aside0 (kq ≤ k) ∧ Aside0 (Below w.heap.size w w'))
  case atStart => exact ⟨(wrap64 (a1 - (l0.length : Int))), (0), (by first | rfl | (simp; done) | (simp [*]; done)), (by first | rfl | (simp; done) | (simp [*]; done)), H, ⟨Nat.le_refl _⟩, HB⟩
  case round =>
   clear H HB 
   try clear c1_0
   obtain ⟨x1_2, x5_2, rfl, rfl, HA, Hk2, HB⟩ := hrel
   cases gk with
   | zero => exact absurd HA.out (by simp [laws_szIssuerS.l0])
   | succ k2 =>
    have H := HA.out
    clear HA
    simp only [laws_szIssuerS.l0] at H
    replace H := ifD H; rcases H with ⟨c3, H⟩ | ⟨c3, H⟩
    ·have c3_0 := decT c3
     replace c3 := Aside0.mk c3
     first | rw [c3_0] | skip
     replace H := ifN H; obtain ⟨c4, H⟩ := H
     have c4_0 := decT c4
     replace c4 := Aside0.mk c4
     first | rw [c4_0] | skip
     have p103 : 0 ≤ (x5_2 : Int) := (of_decide_eq_true (by assumption))
     have q103 : x5_2 < (l0.length : Int) := (of_decide_eq_true (by assumption))
     obtain ⟨ad103, A103_1, c103_1, e103, hx103_0, hx103_1, hx103_2, hl103_1, hi103_1⟩ := at_T100 HR0.out x5_2 p103 q103
     cases e103
     have HR103_1 := Aside0.mk hi103_1; have HC103_1 := Aside0.mk hl103_1; clear hi103_1 hl103_1
     replace hx103_0 := Aside0.mk hx103_0
     have y103_0 := xC HB hx103_0
     replace hx103_1 := Aside0.mk hx103_1
     have y103_1 := xC HB hx103_1
     replace hx103_2 := Aside0.mk hx103_2
     have y103_2 := xC HB hx103_2
     have r103 := eq_true p103; have s103 := eq_true q103
     replace p103 := Aside0.mk p103; replace q103 := Aside0.mk q103
     replace H := Option.bind_eq_some_iff.mp H
     obtain ⟨t104, hm, H⟩ := H
     try dsimp only at H
     replace H := Aside0.mk H
     have hcall := laws_szIssuer.calls _ _ _ _ _ _ _ wr (Kd.C_below HR103_1.out HB.out) HC103_1.out hm
     clear hm
     go_wp2_with fail
     refine hcall.mono ?_
     rintro e W5 ⟨rfl, hb⟩
     clear hcall
     try clear y103_0 y103_1 y103_2
     replace HB := bH HB hb; clear hb
     replace H := H.out
     replace H := ifD H; rcases H with ⟨c6, H⟩ | ⟨c6, H⟩
     ·have c6_0 := decT c6
      replace c6 := Aside0.mk c6
      first | rw [c6_0] | skip
      obtain rfl := Option.some.inj H
      clear H
      go_wp2
      go_ret
      exact ⟨rfl, HB.out⟩
     ·have c6_0 := decF c6
      replace c6 := Aside0.mk c6
      first | rw [c6_0] | skip
      replace H := Aside0.mk H
      go_wp2
      go_roundg k2
      case measure => have := Hk2.out; omega
      case rel => exact ⟨(t104), (wrap64 (x5_2 + 1)), (by first | rfl | (simp; done) | (simp [*]; done)), (by first | rfl | (simp; done) | (simp [*]; done)), H, ⟨by have := Hk2.out; omega⟩, HB⟩
    ·have c3_0 := decF c3
     replace c3 := Aside0.mk c3
     first | rw [c3_0] | skip
     obtain rfl := Option.some.inj H
     clear H
     go_wp2
     go_ret
     exact ⟨rfl, HB.out⟩

/-! ### laws_szIncludesS: function 123 -/
def laws_szIncludesS.f (l0 : List (S177)) (a1 : Int) : Option (Int) := if (wrap64 (a1 - (l0.length : Int))) < 0 then (some (-1)) else (some (wrap64 (a1 - (l0.length : Int))))
open Go.Proofs.YtineejdlpcgnkaaGreatM in
set_option maxHeartbeats 8000000 in
set_option maxRecDepth 100000 in
theorem laws_szIncludesS.calls (A0 : Option Addr) (c0 : Nat) (l0 : List (S177)) (a1 : Int) (r : Int) (w : World) (hr0 : Kd.C k177 w A0 l0.length l0) (hc0 : l0.length ≤ c0) (h : laws_szIncludesS.f l0 a1 = some r) :
  Calls Tryz.prog 123 #[.slice A0 l0.length c0, .int .i64 a1] w fun e w' => e = .returned (.int .i64 r) ∧ Below w.heap.size w w' := by
 have HR0 := Aside0.mk hr0
 have HC0 := Aside0.mk hc0
 clear hr0 hc0
 have HB := Aside0.mk (Below.refl w.heap.size w)
 have H := h
 clear h
 unfold laws_szIncludesS.f at H
 go_enter Tryz.func123, Tryz.ntmps123
 replace H := ifD H; rcases H with ⟨c1, H⟩ | ⟨c1, H⟩
 ·have c1_0 := decT c1
  replace c1 := Aside0.mk c1
  first | rw [c1_0] | skip
  obtain rfl := Option.some.inj H
  clear H
  go_wp2
  go_ret
  exact ⟨rfl, HB.out⟩
 ·have c1_0 := decF c1
  replace c1 := Aside0.mk c1
  first | rw [c1_0] | skip
  obtain rfl := Option.some.inj H
  clear H
  go_wp2
  go_ret
  exact ⟨rfl, HB.out⟩

/-! ### laws_szCondS: function 196 -/
/-! ### laws_szCond: function 188 -/
mutual
def laws_szCondS.l0 : Nat → List (S191) → Int → Int → Option (Int)
 | 0, _, _, _ => none
 | k + 1, x0, x1, x5 => if x5 < (x0.length : Int) then (if 0 ≤ x5 then ((laws_szCond.f k ((rd_T191 x0 x5).f0) ((rd_T191 x0 x5).f1) ((rd_T191 x0 x5).f2) ((rd_T191 x0 x5).f3) x1).bind fun t106 => (if t106 < 0 then (some (-1)) else (laws_szCondS.l0 k x0 t106 (wrap64 (x5 + 1))))) else (none)) else (some x1)
def laws_szCondS.f : Nat → List (S191) → Int → Option (Int)
 | 0, _, _ => none
 | k + 1, l0, a1 => if (wrap64 (a1 - (l0.length : Int))) < 0 then (some (-1)) else (laws_szCondS.l0 k l0 (wrap64 (a1 - (l0.length : Int))) 0)
def laws_szCond.f : Nat → Int → Int → Int → List (S191) → Int → Option (Int)
 | 0, _, _, _, _, _ => none
 | k + 1, a0_0, a0_1, a0_2, l0_3, a1 => (laws_szCondS.f k l0_3 a1).bind fun t108 => (if t108 < 0 then (some (-1)) else (some t108))
end
abbrev laws_szCondS.Stmt (k : Nat) : Prop := ∀ (A0 : Option Addr) (c0 : Nat) (l0 : List (S191)) (a1 : Int) (r : Int) (w : World) (hr0 : Kd.C k191 w A0 l0.length l0) (hc0 : l0.length ≤ c0) (h : laws_szCondS.f k l0 a1 = some r),
  Calls Tryz.prog 196 #[.slice A0 l0.length c0, .int .i64 a1] w fun e w' => e = .returned (.int .i64 r) ∧ Below w.heap.size w w'
abbrev laws_szCond.Stmt (k : Nat) : Prop := ∀ (a0_0 : Int) (a0_1 : Int) (a0_2 : Int) (A0_3 : Option Addr) (c0_3 : Nat) (l0_3 : List (S191)) (a1 : Int) (r : Int) (w : World) (hr0_3 : Kd.C k191 w A0_3 l0_3.length l0_3) (hc0_3 : l0_3.length ≤ c0_3) (h : laws_szCond.f k a0_0 a0_1 a0_2 l0_3 a1 = some r),
  Calls Tryz.prog 188 #[.agg #[.int .i64 a0_0, .int .i64 a0_1, .int .i64 a0_2, .slice A0_3 l0_3.length c0_3], .int .i64 a1] w fun e w' => e = .returned (.int .i64 r) ∧ Below w.heap.size w w'
open Go.Proofs.YtineejdlpcgnkaaGreatM in
set_option maxHeartbeats 8000000 in
set_option maxRecDepth 100000 in
theorem laws_szCondS.step (k : Nat) (ih_laws_szCondS : ∀ m_, m_ < k → laws_szCondS.Stmt m_) (ih_laws_szCond : ∀ m_, m_ < k → laws_szCond.Stmt m_) : laws_szCondS.Stmt k := by
 unfold laws_szCondS.Stmt
 intro A0 c0 l0 a1 r w hr0 hc0 h
 cases k with
 | zero => exact absurd h (by simp [laws_szCondS.f])
 | succ k =>
 simp only [laws_szCondS.f] at h
 have HR0 := Aside0.mk hr0
 have HC0 := Aside0.mk hc0
 clear hr0 hc0
 have HB := Aside0.mk (Below.refl w.heap.size w)
 have H := h
 clear h
 have hu191 := Tryz.underlying191
 go_enter Tryz.func196, Tryz.ntmps196
 replace H := ifD H; rcases H with ⟨c1, H⟩ | ⟨c1, H⟩
 ·have c1_0 := decT c1
  replace c1 := Aside0.mk c1
  first | rw [c1_0] | skip
  obtain rfl := Option.some.inj H
  clear H
  go_wp2
  go_ret
  exact ⟨rfl, HB.out⟩
 ·have c1_0 := decF c1
  replace c1 := Aside0.mk c1
  first | rw [c1_0] | skip
  replace H := Aside0.mk H
  go_wp2
  go_loopg [1, 5] k (fun kq v1 v5 w' => ∃ (x1_2 : Int) (x5_2 : Int), v1 = .int .i64 x1_2 ∧ v5 = .int .i64 x5_2 ∧ Aside0 (laws_szCondS.l0 kq l0 x1_2 x5_2 = some r) ∧ Aside0 (kq ≤ k) ∧ Aside0 (Below w.heap.size w w'))
  case atStart => exact ⟨(wrap64 (a1 - (l0.length : Int))), (0), (by first | rfl | (simp; done) | (simp [*]; done)), (by first | rfl | (simp; done) | (simp [*]; done)), H, ⟨Nat.le_refl _⟩, HB⟩
  case round =>
   clear H HB 
   try clear c1_0
   obtain ⟨x1_2, x5_2, rfl, rfl, HA, Hk2, HB⟩ := hrel
   cases gk with
   | zero => exact absurd HA.out (by simp [laws_szCondS.l0])
   | succ k2 =>
    have H := HA.out
    clear HA
    simp only [laws_szCondS.l0] at H
    replace H := ifD H; rcases H with ⟨c3, H⟩ | ⟨c3, H⟩
    ·have c3_0 := decT c3
     replace c3 := Aside0.mk c3
     first | rw [c3_0] | skip
     replace H := ifN H; obtain ⟨c4, H⟩ := H
     have c4_0 := decT c4
     replace c4 := Aside0.mk c4
     first | rw [c4_0] | skip
     have p105 : 0 ≤ (x5_2 : Int) := (of_decide_eq_true (by assumption))
     have q105 : x5_2 < (l0.length : Int) := (of_decide_eq_true (by assumption))
     obtain ⟨ad105, A105_3, c105_3, e105, hx105_0, hx105_1, hx105_2, hx105_3, hl105_3, hi105_3⟩ := at_T191 HR0.out x5_2 p105 q105
     cases e105
     have HR105_3 := Aside0.mk hi105_3; have HC105_3 := Aside0.mk hl105_3; clear hi105_3 hl105_3
     replace hx105_0 := Aside0.mk hx105_0
     have y105_0 := xC HB hx105_0
     replace hx105_1 := Aside0.mk hx105_1
     have y105_1 := xC HB hx105_1
     replace hx105_2 := Aside0.mk hx105_2
     have y105_2 := xC HB hx105_2
     replace hx105_3 := Aside0.mk hx105_3
     have y105_3 := xC HB hx105_3
     have r105 := eq_true p105; have s105 := eq_true q105
     replace p105 := Aside0.mk p105; replace q105 := Aside0.mk q105
     replace H := Option.bind_eq_some_iff.mp H
     obtain ⟨t106, hm, H⟩ := H
     try dsimp only at H
     replace H := Aside0.mk H
     have hcall := ih_laws_szCond k2 (by have := Hk2.out; omega) _ _ _ _ _ _ _ _ wr (Kd.C_below HR105_3.out HB.out) HC105_3.out hm
     clear hm
     go_wp2_with fail
     refine hcall.mono ?_
     rintro e W5 ⟨rfl, hb⟩
     clear hcall
     try clear y105_0 y105_1 y105_2 y105_3
     replace HB := bH HB hb; clear hb
     replace H := H.out
     replace H := ifD H; rcases H with ⟨c6, H⟩ | ⟨c6, H⟩
     ·have c6_0 := decT c6
      replace c6 := Aside0.mk c6
      first | rw [c6_0] | skip
      obtain rfl := Option.some.inj H
      clear H
      go_wp2
      go_ret
      exact ⟨rfl, HB.out⟩
     ·have c6_0 := decF c6
      replace c6 := Aside0.mk c6
      first | rw [c6_0] | skip
      replace H := Aside0.mk H
      go_wp2
      go_roundg k2
      case measure => have := Hk2.out; omega
      case rel => exact ⟨(t106), (wrap64 (x5_2 + 1)), (by first | rfl | (simp; done) | (simp [*]; done)), (by first | rfl | (simp; done) | (simp [*]; done)), H, ⟨by have := Hk2.out; omega⟩, HB⟩
    ·have c3_0 := decF c3
     replace c3 := Aside0.mk c3
     first | rw [c3_0] | skip
     obtain rfl := Option.some.inj H
     clear H
     go_wp2
     go_ret
     exact ⟨rfl, HB.out⟩
open Go.Proofs.YtineejdlpcgnkaaGreatM in
set_option maxHeartbeats 8000000 in
set_option maxRecDepth 100000 in
theorem laws_szCond.step (k : Nat) (ih_laws_szCondS : ∀ m_, m_ < k → laws_szCondS.Stmt m_) (ih_laws_szCond : ∀ m_, m_ < k → laws_szCond.Stmt m_) : laws_szCond.Stmt k := by
 unfold laws_szCond.Stmt
 intro a0_0 a0_1 a0_2 A0_3 c0_3 l0_3 a1 r w hr0_3 hc0_3 h
 cases k with
 | zero => exact absurd h (by simp [laws_szCond.f])
 | succ k =>
 simp only [laws_szCond.f] at h
 have HR0_3 := Aside0.mk hr0_3
 have HC0_3 := Aside0.mk hc0_3
 clear hr0_3 hc0_3
 have HB := Aside0.mk (Below.refl w.heap.size w)
 have H := h
 clear h
 have hu191 := Tryz.underlying191
 go_enter Tryz.func188, Tryz.ntmps188
 replace H := Aside0.mk H
 go_upto_region 1 with (first | ((with_reducible refine gate_dst (N := 2) rfl ?_); refine box_event ?hg (N := 2) ?hd (cs := #[.int .i64 a0_0, .int .i64 a0_1, .int .i64 a0_2, .slice A0_3 l0_3.length c0_3]) (t := 191) ?hr ?_; (case hd => rfl); (case hg => rfl); (case hr => first | (go_simp; done) | (go_simp; rfl)); intro gb1 hg W1 hbox hb; replace HB := bH HB hb; clear hb; have BK1 := Aside0.mk hbox; have c_BK1 := blk_cell hbox; have z_BK1 := blk_frozen hbox; clear hg hbox))
 replace H := H.out
 replace H := Option.bind_eq_some_iff.mp H
 obtain ⟨t108, hm, H⟩ := H
 try dsimp only at H
 replace H := Aside0.mk H
 have hcall := ih_laws_szCondS k (by omega) _ _ _ _ _ W1 (Kd.C_below HR0_3.out HB.out) HC0_3.out hm
 clear hm
 go_wp2_with fail
 refine hcall.mono ?_
 rintro e W2 ⟨rfl, hb⟩
 clear hcall
 replace BK1 := bK BK1 hb; replace c_BK1 := blk_cell BK1.out; replace z_BK1 := blk_frozen BK1.out
 replace HB := bH HB hb; clear hb
 replace H := H.out
 replace H := ifD H; rcases H with ⟨c3, H⟩ | ⟨c3, H⟩
 ·have c3_0 := decT c3
  replace c3 := Aside0.mk c3
  first | rw [c3_0] | skip
  obtain rfl := Option.some.inj H
  clear H
  go_wp2
  go_ret
  exact ⟨rfl, HB.out⟩
 ·have c3_0 := decF c3
  replace c3 := Aside0.mk c3
  first | rw [c3_0] | skip
  obtain rfl := Option.some.inj H
  clear H
  go_wp2
  go_ret
  exact ⟨rfl, HB.out⟩
theorem laws_szCondS.both (k : Nat) : laws_szCondS.Stmt k ∧ laws_szCond.Stmt k := by
 induction k using Nat.strongRecOn with
 | _ k ih =>
 exact ⟨laws_szCondS.step k (fun m hm => (ih m hm).1) (fun m hm => (ih m hm).2), laws_szCond.step k (fun m hm => (ih m hm).1) (fun m hm => (ih m hm).2)⟩
theorem laws_szCond.calls (k : Nat) : ∀ (a0_0 : Int) (a0_1 : Int) (a0_2 : Int) (A0_3 : Option Addr) (c0_3 : Nat) (l0_3 : List (S191)) (a1 : Int) (r : Int) (w : World) (hr0_3 : Kd.C k191 w A0_3 l0_3.length l0_3) (hc0_3 : l0_3.length ≤ c0_3) (h : laws_szCond.f k a0_0 a0_1 a0_2 l0_3 a1 = some r),
  Calls Tryz.prog 188 #[.agg #[.int .i64 a0_0, .int .i64 a0_1, .int .i64 a0_2, .slice A0_3 l0_3.length c0_3], .int .i64 a1] w fun e w' => e = .returned (.int .i64 r) ∧ Below w.heap.size w w' := (laws_szCondS.both k).2

/-! ### laws_szRule: function 177 -/
def laws_szRule.f (k : Nat) (a0_0 : Int) (a0_1 : Int) (a0_2 : Int) (a0_3 : Int) (a0_4 : Int) (a0_5 : Int) (l0_6 : List (S191)) (a1 : Int) : Option (Int) := (laws_szCond.f k a0_3 a0_4 a0_5 l0_6 a1).bind fun t110 => (if t110 < 0 then (some (-1)) else (some t110))
open Go.Proofs.YtineejdlpcgnkaaGreatM in
set_option maxHeartbeats 8000000 in
set_option maxRecDepth 100000 in
theorem laws_szRule.calls (k : Nat) (a0_0 : Int) (a0_1 : Int) (a0_2 : Int) (a0_3 : Int) (a0_4 : Int) (a0_5 : Int) (A0_6 : Option Addr) (c0_6 : Nat) (l0_6 : List (S191)) (a1 : Int) (r : Int) (w : World) (hr0_6 : Kd.C k191 w A0_6 l0_6.length l0_6) (hc0_6 : l0_6.length ≤ c0_6) (h : laws_szRule.f k a0_0 a0_1 a0_2 a0_3 a0_4 a0_5 l0_6 a1 = some r) :
  Calls Tryz.prog 177 #[.agg #[.int .i64 a0_0, .int .i64 a0_1, .int .i64 a0_2, .int .i64 a0_3, .int .i64 a0_4, .int .i64 a0_5, .slice A0_6 l0_6.length c0_6], .int .i64 a1] w fun e w' => e = .returned (.int .i64 r) ∧ Below w.heap.size w w' := by
 have HR0_6 := Aside0.mk hr0_6
 have HC0_6 := Aside0.mk hc0_6
 clear hr0_6 hc0_6
 have HB := Aside0.mk (Below.refl w.heap.size w)
 have H := h
 clear h
 unfold laws_szRule.f at H
 have hu191 := Tryz.underlying191
 have hu193 := Tryz.underlying193
 go_enter Tryz.func177, Tryz.ntmps177
 replace H := Aside0.mk H
 go_upto_region 1 with (first | ((with_reducible refine gate_dst (N := 2) rfl ?_); refine box_event ?hg (N := 2) ?hd (cs := #[.int .i64 a0_0, .int .i64 a0_1, .int .i64 a0_2, .int .i64 a0_3, .int .i64 a0_4, .int .i64 a0_5, .slice A0_6 l0_6.length c0_6]) (t := 193) ?hr ?_; (case hd => rfl); (case hg => rfl); (case hr => first | (go_simp; done) | (go_simp; rfl)); intro gb1 hg W1 hbox hb; replace HB := bH HB hb; clear hb; have BK1 := Aside0.mk hbox; have c_BK1 := blk_cell hbox; have z_BK1 := blk_frozen hbox; clear hg hbox))
 replace H := H.out
 replace H := Option.bind_eq_some_iff.mp H
 obtain ⟨t110, hm, H⟩ := H
 try dsimp only at H
 replace H := Aside0.mk H
 have hcall := laws_szCond.calls k _ _ _ _ _ _ _ _ W1 (Kd.C_below HR0_6.out HB.out) HC0_6.out hm
 clear hm
 go_wp2_with fail
 refine hcall.mono ?_
 rintro e W2 ⟨rfl, hb⟩
 clear hcall
 replace BK1 := bK BK1 hb; replace c_BK1 := blk_cell BK1.out; replace z_BK1 := blk_frozen BK1.out
 replace HB := bH HB hb; clear hb
 replace H := H.out
 replace H := ifD H; rcases H with ⟨c3, H⟩ | ⟨c3, H⟩
 ·have c3_0 := decT c3
  replace c3 := Aside0.mk c3
  first | rw [c3_0] | skip
  obtain rfl := Option.some.inj H
  clear H
  go_wp2
  go_ret
  exact ⟨rfl, HB.out⟩
 ·have c3_0 := decF c3
  replace c3 := Aside0.mk c3
  first | rw [c3_0] | skip
  obtain rfl := Option.some.inj H
  clear H
  go_wp2
  go_ret
  exact ⟨rfl, HB.out⟩

/-! ### laws_szRuleS: function 155 -/
def laws_szRuleS.l0 : Nat → List (S193) → Int → Int → Option (Int)
 | 0, _, _, _ => none
 | k + 1, x0, x1, x5 => if x5 < (x0.length : Int) then (if 0 ≤ x5 then ((laws_szRule.f k ((rd_T193 x0 x5).f0) ((rd_T193 x0 x5).f1) ((rd_T193 x0 x5).f2) ((rd_T193 x0 x5).f3.f0) ((rd_T193 x0 x5).f3.f1) ((rd_T193 x0 x5).f3.f2) ((rd_T193 x0 x5).f3.f3) x1).bind fun t112 => (if t112 < 0 then (some (-1)) else (laws_szRuleS.l0 k x0 t112 (wrap64 (x5 + 1))))) else (none)) else (some x1)
def laws_szRuleS.f (k : Nat) (l0 : List (S193)) (a1 : Int) : Option (Int) := if (wrap64 (a1 - (l0.length : Int))) < 0 then (some (-1)) else (laws_szRuleS.l0 k l0 (wrap64 (a1 - (l0.length : Int))) 0)
open Go.Proofs.YtineejdlpcgnkaaGreatM in
set_option maxHeartbeats 8000000 in
set_option maxRecDepth 100000 in
theorem laws_szRuleS.calls (k : Nat) (A0 : Option Addr) (c0 : Nat) (l0 : List (S193)) (a1 : Int) (r : Int) (w : World) (hr0 : Kd.C k193 w A0 l0.length l0) (hc0 : l0.length ≤ c0) (h : laws_szRuleS.f k l0 a1 = some r) :
  Calls Tryz.prog 155 #[.slice A0 l0.length c0, .int .i64 a1] w fun e w' => e = .returned (.int .i64 r) ∧ Below w.heap.size w w' := by
 have HR0 := Aside0.mk hr0
 have HC0 := Aside0.mk hc0
 clear hr0 hc0
 have HB := Aside0.mk (Below.refl w.heap.size w)
 have H := h
 clear h
 unfold laws_szRuleS.f at H
 have hu193 := Tryz.underlying193
 go_enter Tryz.func155, Tryz.ntmps155
 replace H := ifD H; rcases H with ⟨c1, H⟩ | ⟨c1, H⟩
 ·have c1_0 := decT c1
  replace c1 := Aside0.mk c1
  first | rw [c1_0] | skip
  obtain rfl := Option.some.inj H
  clear H
  go_wp2
  go_ret
  exact ⟨rfl, HB.out⟩
 ·have c1_0 := decF c1
  replace c1 := Aside0.mk c1
  first | rw [c1_0] | skip
  replace H := Aside0.mk H
  go_wp2
  go_loopg [1, 5] k (fun kq v1 v5 w' => ∃ (x1_2 : Int) (x5_2 : Int), v1 = .int .i64 x1_2 ∧ v5 = .int .i64 x5_2 ∧ Aside0 (laws_szRuleS.l0 kq l0 x1_2 x5_2 = some r) ∧ Aside0 (kq ≤ k) ∧ Aside0 (Below w.heap.size w w'))
  case atStart => exact ⟨(wrap64 (a1 - (l0.length : Int))), (0), (by first | rfl | (simp; done) | (simp [*]; done)), (by first | rfl | (simp; done) | (simp [*]; done)), H, ⟨Nat.le_refl _⟩, HB⟩
  case round =>
   clear H HB 
   try clear c1_0
   obtain ⟨x1_2, x5_2, rfl, rfl, HA, Hk2, HB⟩ := hrel
   cases gk with
   | zero => exact absurd HA.out (by simp [laws_szRuleS.l0])
   | succ k2 =>
    have H := HA.out
    clear HA
    simp only [laws_szRuleS.l0] at H
    replace H := ifD H; rcases H with ⟨c3, H⟩ | ⟨c3, H⟩
    ·have c3_0 := decT c3
     replace c3 := Aside0.mk c3
     first | rw [c3_0] | skip
     replace H := ifN H; obtain ⟨c4, H⟩ := H
     have c4_0 := decT c4
     replace c4 := Aside0.mk c4
     first | rw [c4_0] | skip
     have p111 : 0 ≤ (x5_2 : Int) := (of_decide_eq_true (by assumption))
     have q111 : x5_2 < (l0.length : Int) := (of_decide_eq_true (by assumption))
     obtain ⟨ad111, A111_6, c111_6, e111, hx111_0, hx111_1, hx111_2, hx111_3, hx111_4, hx111_5, hx111_6, hl111_6, hi111_6⟩ := at_T193 HR0.out x5_2 p111 q111
     cases e111
     have HR111_6 := Aside0.mk hi111_6; have HC111_6 := Aside0.mk hl111_6; clear hi111_6 hl111_6
     replace hx111_0 := Aside0.mk hx111_0
     have y111_0 := xC HB hx111_0
     replace hx111_1 := Aside0.mk hx111_1
     have y111_1 := xC HB hx111_1
     replace hx111_2 := Aside0.mk hx111_2
     have y111_2 := xC HB hx111_2
     replace hx111_3 := Aside0.mk hx111_3
     have y111_3 := xC HB hx111_3
     replace hx111_4 := Aside0.mk hx111_4
     have y111_4 := xC HB hx111_4
     replace hx111_5 := Aside0.mk hx111_5
     have y111_5 := xC HB hx111_5
     replace hx111_6 := Aside0.mk hx111_6
     have y111_6 := xC HB hx111_6
     have r111 := eq_true p111; have s111 := eq_true q111
     replace p111 := Aside0.mk p111; replace q111 := Aside0.mk q111
     replace H := Option.bind_eq_some_iff.mp H
     obtain ⟨t112, hm, H⟩ := H
     try dsimp only at H
     replace H := Aside0.mk H
     have hcall := laws_szRule.calls k2 _ _ _ _ _ _ _ _ _ _ _ wr (Kd.C_below HR111_6.out HB.out) HC111_6.out hm
     clear hm
     go_wp2_with fail
     refine hcall.mono ?_
     rintro e W5 ⟨rfl, hb⟩
     clear hcall
     try clear y111_0 y111_1 y111_2 y111_3 y111_4 y111_5 y111_6
     replace HB := bH HB hb; clear hb
     replace H := H.out
     replace H := ifD H; rcases H with ⟨c6, H⟩ | ⟨c6, H⟩
     ·have c6_0 := decT c6
      replace c6 := Aside0.mk c6
      first | rw [c6_0] | skip
      obtain rfl := Option.some.inj H
      clear H
      go_wp2
      go_ret
      exact ⟨rfl, HB.out⟩
     ·have c6_0 := decF c6
      replace c6 := Aside0.mk c6
      first | rw [c6_0] | skip
      replace H := Aside0.mk H
      go_wp2
      go_roundg k2
      case measure => have := Hk2.out; omega
      case rel => exact ⟨(t112), (wrap64 (x5_2 + 1)), (by first | rfl | (simp; done) | (simp [*]; done)), (by first | rfl | (simp; done) | (simp [*]; done)), H, ⟨by have := Hk2.out; omega⟩, HB⟩
    ·have c3_0 := decF c3
     replace c3 := Aside0.mk c3
     first | rw [c3_0] | skip
     obtain rfl := Option.some.inj H
     clear H
     go_wp2
     go_ret
     exact ⟨rfl, HB.out⟩

/-! ### laws_szPolicy: function 124 -/
def laws_szPolicy.f (k : Nat) (a0_0 : Int) (l0_1 : List (S193)) (a1 : Int) : Option (Int) := (laws_szRuleS.f k l0_1 a1).bind fun t114 => (if t114 < 0 then (some (-1)) else (some t114))
open Go.Proofs.YtineejdlpcgnkaaGreatM in
set_option maxHeartbeats 8000000 in
set_option maxRecDepth 100000 in
theorem laws_szPolicy.calls (k : Nat) (a0_0 : Int) (A0_1 : Option Addr) (c0_1 : Nat) (l0_1 : List (S193)) (a1 : Int) (r : Int) (w : World) (hr0_1 : Kd.C k193 w A0_1 l0_1.length l0_1) (hc0_1 : l0_1.length ≤ c0_1) (h : laws_szPolicy.f k a0_0 l0_1 a1 = some r) :
  Calls Tryz.prog 124 #[.agg #[.int .i64 a0_0, .slice A0_1 l0_1.length c0_1], .int .i64 a1] w fun e w' => e = .returned (.int .i64 r) ∧ Below w.heap.size w w' := by
 have HR0_1 := Aside0.mk hr0_1
 have HC0_1 := Aside0.mk hc0_1
 clear hr0_1 hc0_1
 have HB := Aside0.mk (Below.refl w.heap.size w)
 have H := h
 clear h
 unfold laws_szPolicy.f at H
 have hu105 := Tryz.underlying105
 go_enter Tryz.func124, Tryz.ntmps124
 replace H := Aside0.mk H
 go_upto_region 1 with (first | ((with_reducible refine gate_dst (N := 2) rfl ?_); refine box_event ?hg (N := 2) ?hd (cs := #[.int .i64 a0_0, .slice A0_1 l0_1.length c0_1]) (t := 105) ?hr ?_; (case hd => rfl); (case hg => rfl); (case hr => first | (go_simp; done) | (go_simp; rfl)); intro gb1 hg W1 hbox hb; replace HB := bH HB hb; clear hb; have BK1 := Aside0.mk hbox; have c_BK1 := blk_cell hbox; have z_BK1 := blk_frozen hbox; clear hg hbox))
 replace H := H.out
 replace H := Option.bind_eq_some_iff.mp H
 obtain ⟨t114, hm, H⟩ := H
 try dsimp only at H
 replace H := Aside0.mk H
 have hcall := laws_szRuleS.calls k _ _ _ _ _ W1 (Kd.C_below HR0_1.out HB.out) HC0_1.out hm
 clear hm
 go_wp2_with fail
 refine hcall.mono ?_
 rintro e W2 ⟨rfl, hb⟩
 clear hcall
 replace BK1 := bK BK1 hb; replace c_BK1 := blk_cell BK1.out; replace z_BK1 := blk_frozen BK1.out
 replace HB := bH HB hb; clear hb
 replace H := H.out
 replace H := ifD H; rcases H with ⟨c3, H⟩ | ⟨c3, H⟩
 ·have c3_0 := decT c3
  replace c3 := Aside0.mk c3
  first | rw [c3_0] | skip
  obtain rfl := Option.some.inj H
  clear H
  go_wp2
  go_ret
  exact ⟨rfl, HB.out⟩
 ·have c3_0 := decF c3
  replace c3 := Aside0.mk c3
  first | rw [c3_0] | skip
  obtain rfl := Option.some.inj H
  clear H
  go_wp2
  go_ret
  exact ⟨rfl, HB.out⟩

/-! ### laws_szEpoch: function 74 -/
def laws_szEpoch.f (k : Nat) (a0_0 : Int) (a0_1 : Int) (l0_2 : List (S177)) (a0_3 : Int) (l0_4 : List (S193)) (a1 : Int) : Option (Int) := (laws_szIncludesS.f l0_2 a1).bind fun t116 => (if t116 < 0 then (some (-1)) else ((laws_szPolicy.f k a0_3 l0_4 t116).bind fun t117 => (if t117 < 0 then (some (-1)) else (some t117))))
open Go.Proofs.YtineejdlpcgnkaaGreatM in
set_option maxHeartbeats 8000000 in
set_option maxRecDepth 100000 in
theorem laws_szEpoch.calls (k : Nat) (a0_0 : Int) (a0_1 : Int) (A0_2 : Option Addr) (c0_2 : Nat) (l0_2 : List (S177)) (a0_3 : Int) (A0_4 : Option Addr) (c0_4 : Nat) (l0_4 : List (S193)) (a1 : Int) (r : Int) (w : World) (hr0_2 : Kd.C k177 w A0_2 l0_2.length l0_2) (hc0_2 : l0_2.length ≤ c0_2) (hr0_4 : Kd.C k193 w A0_4 l0_4.length l0_4) (hc0_4 : l0_4.length ≤ c0_4) (h : laws_szEpoch.f k a0_0 a0_1 l0_2 a0_3 l0_4 a1 = some r) :
  Calls Tryz.prog 74 #[.agg #[.int .i64 a0_0, .int .i64 a0_1, .slice A0_2 l0_2.length c0_2, .int .i64 a0_3, .slice A0_4 l0_4.length c0_4], .int .i64 a1] w fun e w' => e = .returned (.int .i64 r) ∧ Below w.heap.size w w' := by
 have HR0_2 := Aside0.mk hr0_2
 have HC0_2 := Aside0.mk hc0_2
 clear hr0_2 hc0_2
 have HR0_4 := Aside0.mk hr0_4
 have HC0_4 := Aside0.mk hc0_4
 clear hr0_4 hc0_4
 have HB := Aside0.mk (Below.refl w.heap.size w)
 have H := h
 clear h
 unfold laws_szEpoch.f at H
 have hu105 := Tryz.underlying105
 have hu107 := Tryz.underlying107
 go_enter Tryz.func74, Tryz.ntmps74
 replace H := Aside0.mk H
 go_upto_region 1 with (first | ((with_reducible refine gate_dst (N := 2) rfl ?_); refine box_event ?hg (N := 2) ?hd (cs := #[.int .i64 a0_0, .int .i64 a0_1, .slice A0_2 l0_2.length c0_2, .int .i64 a0_3, .slice A0_4 l0_4.length c0_4]) (t := 107) ?hr ?_; (case hd => rfl); (case hg => rfl); (case hr => first | (go_simp; done) | (go_simp; rfl)); intro gb1 hg W1 hbox hb; replace HB := bH HB hb; clear hb; have BK1 := Aside0.mk hbox; have c_BK1 := blk_cell hbox; have z_BK1 := blk_frozen hbox; clear hg hbox))
 replace H := H.out
 replace H := Option.bind_eq_some_iff.mp H
 obtain ⟨t116, hm, H⟩ := H
 try dsimp only at H
 replace H := Aside0.mk H
 have hcall := laws_szIncludesS.calls _ _ _ _ _ W1 (Kd.C_below HR0_2.out HB.out) HC0_2.out hm
 clear hm
 go_wp2_with fail
 refine hcall.mono ?_
 rintro e W2 ⟨rfl, hb⟩
 clear hcall
 replace BK1 := bK BK1 hb; replace c_BK1 := blk_cell BK1.out; replace z_BK1 := blk_frozen BK1.out
 replace HB := bH HB hb; clear hb
 replace H := H.out
 replace H := ifD H; rcases H with ⟨c3, H⟩ | ⟨c3, H⟩
 ·have c3_0 := decT c3
  replace c3 := Aside0.mk c3
  first | rw [c3_0] | skip
  obtain rfl := Option.some.inj H
  clear H
  go_wp2
  go_ret
  exact ⟨rfl, HB.out⟩
 ·have c3_0 := decF c3
  replace c3 := Aside0.mk c3
  first | rw [c3_0] | skip
  replace H := Option.bind_eq_some_iff.mp H
  obtain ⟨t117, hm, H⟩ := H
  try dsimp only at H
  replace H := Aside0.mk H
  have hcall := laws_szPolicy.calls k _ _ _ _ _ _ W2 (Kd.C_below HR0_4.out HB.out) HC0_4.out hm
  clear hm
  go_wp2_with fail
  refine hcall.mono ?_
  rintro e W4 ⟨rfl, hb⟩
  clear hcall
  replace BK1 := bK BK1 hb; replace c_BK1 := blk_cell BK1.out; replace z_BK1 := blk_frozen BK1.out
  replace HB := bH HB hb; clear hb
  replace H := H.out
  replace H := ifD H; rcases H with ⟨c5, H⟩ | ⟨c5, H⟩
  ·have c5_0 := decT c5
   replace c5 := Aside0.mk c5
   first | rw [c5_0] | skip
   obtain rfl := Option.some.inj H
   clear H
   go_wp2
   go_ret
   exact ⟨rfl, HB.out⟩
  ·have c5_0 := decF c5
   replace c5 := Aside0.mk c5
   first | rw [c5_0] | skip
   obtain rfl := Option.some.inj H
   clear H
   go_wp2
   go_ret
   exact ⟨rfl, HB.out⟩

/-! ### laws_szEpochS: function 22 -/
def laws_szEpochS.l0 : Nat → List (S107) → Int → Int → Option (Int)
 | 0, _, _, _ => none
 | k + 1, x0, x1, x5 => if x5 < (x0.length : Int) then (if 0 ≤ x5 then ((laws_szEpoch.f k ((rd_T107 x0 x5).f0) ((rd_T107 x0 x5).f1) ((rd_T107 x0 x5).f2) ((rd_T107 x0 x5).f3.f0) ((rd_T107 x0 x5).f3.f1) x1).bind fun t119 => (if t119 < 0 then (some (-1)) else (laws_szEpochS.l0 k x0 t119 (wrap64 (x5 + 1))))) else (none)) else (some x1)
def laws_szEpochS.f (k : Nat) (l0 : List (S107)) (a1 : Int) : Option (Int) := if (wrap64 (a1 - (l0.length : Int))) < 0 then (some (-1)) else (laws_szEpochS.l0 k l0 (wrap64 (a1 - (l0.length : Int))) 0)
open Go.Proofs.YtineejdlpcgnkaaGreatM in
set_option maxHeartbeats 8000000 in
set_option maxRecDepth 100000 in
theorem laws_szEpochS.calls (k : Nat) (A0 : Option Addr) (c0 : Nat) (l0 : List (S107)) (a1 : Int) (r : Int) (w : World) (hr0 : Kd.C k107 w A0 l0.length l0) (hc0 : l0.length ≤ c0) (h : laws_szEpochS.f k l0 a1 = some r) :
  Calls Tryz.prog 22 #[.slice A0 l0.length c0, .int .i64 a1] w fun e w' => e = .returned (.int .i64 r) ∧ Below w.heap.size w w' := by
 have HR0 := Aside0.mk hr0
 have HC0 := Aside0.mk hc0
 clear hr0 hc0
 have HB := Aside0.mk (Below.refl w.heap.size w)
 have H := h
 clear h
 unfold laws_szEpochS.f at H
 have hu107 := Tryz.underlying107
 go_enter Tryz.func22, Tryz.ntmps22
 replace H := ifD H; rcases H with ⟨c1, H⟩ | ⟨c1, H⟩
 ·have c1_0 := decT c1
  replace c1 := Aside0.mk c1
  first | rw [c1_0] | skip
  obtain rfl := Option.some.inj H
  clear H
  go_wp2
  go_ret
  exact ⟨rfl, HB.out⟩
 ·have c1_0 := decF c1
  replace c1 := Aside0.mk c1
  first | rw [c1_0] | skip
  replace H := Aside0.mk H
  go_wp2
  go_loopg [1, 5] k (fun kq v1 v5 w' => ∃ (x1_2 : Int) (x5_2 : Int), v1 = .int .i64 x1_2 ∧ v5 = .int .i64 x5_2 ∧ Aside0 (laws_szEpochS.l0 kq l0 x1_2 x5_2 = some r) ∧ Aside0 (kq ≤ k) ∧ Aside0 (Below w.heap.size w w'))
  case atStart => exact ⟨(wrap64 (a1 - (l0.length : Int))), (0), (by first | rfl | (simp; done) | (simp [*]; done)), (by first | rfl | (simp; done) | (simp [*]; done)), H, ⟨Nat.le_refl _⟩, HB⟩
  case round =>
   clear H HB 
   try clear c1_0
   obtain ⟨x1_2, x5_2, rfl, rfl, HA, Hk2, HB⟩ := hrel
   cases gk with
   | zero => exact absurd HA.out (by simp [laws_szEpochS.l0])
   | succ k2 =>
    have H := HA.out
    clear HA
    simp only [laws_szEpochS.l0] at H
    replace H := ifD H; rcases H with ⟨c3, H⟩ | ⟨c3, H⟩
    ·have c3_0 := decT c3
     replace c3 := Aside0.mk c3
     first | rw [c3_0] | skip
     replace H := ifN H; obtain ⟨c4, H⟩ := H
     have c4_0 := decT c4
     replace c4 := Aside0.mk c4
     first | rw [c4_0] | skip
     have p118 : 0 ≤ (x5_2 : Int) := (of_decide_eq_true (by assumption))
     have q118 : x5_2 < (l0.length : Int) := (of_decide_eq_true (by assumption))
     obtain ⟨ad118, A118_2, c118_2, A118_4, c118_4, e118, hx118_0, hx118_1, hx118_2, hx118_3, hx118_4, hl118_2, hi118_2, hl118_4, hi118_4⟩ := at_T107 HR0.out x5_2 p118 q118
     cases e118
     have HR118_2 := Aside0.mk hi118_2; have HC118_2 := Aside0.mk hl118_2; clear hi118_2 hl118_2
     have HR118_4 := Aside0.mk hi118_4; have HC118_4 := Aside0.mk hl118_4; clear hi118_4 hl118_4
     replace hx118_0 := Aside0.mk hx118_0
     have y118_0 := xC HB hx118_0
     replace hx118_1 := Aside0.mk hx118_1
     have y118_1 := xC HB hx118_1
     replace hx118_2 := Aside0.mk hx118_2
     have y118_2 := xC HB hx118_2
     replace hx118_3 := Aside0.mk hx118_3
     have y118_3 := xC HB hx118_3
     replace hx118_4 := Aside0.mk hx118_4
     have y118_4 := xC HB hx118_4
     have r118 := eq_true p118; have s118 := eq_true q118
     replace p118 := Aside0.mk p118; replace q118 := Aside0.mk q118
     replace H := Option.bind_eq_some_iff.mp H
     obtain ⟨t119, hm, H⟩ := H
     try dsimp only at H
     replace H := Aside0.mk H
     have hcall := laws_szEpoch.calls k2 _ _ _ _ _ _ _ _ _ _ _ wr (Kd.C_below HR118_2.out HB.out) HC118_2.out (Kd.C_below HR118_4.out HB.out) HC118_4.out hm
     clear hm
     go_wp2_with fail
     refine hcall.mono ?_
     rintro e W5 ⟨rfl, hb⟩
     clear hcall
     try clear y118_0 y118_1 y118_2 y118_3 y118_4
     replace HB := bH HB hb; clear hb
     replace H := H.out
     replace H := ifD H; rcases H with ⟨c6, H⟩ | ⟨c6, H⟩
     ·have c6_0 := decT c6
      replace c6 := Aside0.mk c6
      first | rw [c6_0] | skip
      obtain rfl := Option.some.inj H
      clear H
      go_wp2
      go_ret
      exact ⟨rfl, HB.out⟩
     ·have c6_0 := decF c6
      replace c6 := Aside0.mk c6
      first | rw [c6_0] | skip
      replace H := Aside0.mk H
      go_wp2
      go_roundg k2
      case measure => have := Hk2.out; omega
      case rel => exact ⟨(t119), (wrap64 (x5_2 + 1)), (by first | rfl | (simp; done) | (simp [*]; done)), (by first | rfl | (simp; done) | (simp [*]; done)), H, ⟨by have := Hk2.out; omega⟩, HB⟩
    ·have c3_0 := decF c3
     replace c3 := Aside0.mk c3
     first | rw [c3_0] | skip
     obtain rfl := Option.some.inj H
     clear H
     go_wp2
     go_ret
     exact ⟨rfl, HB.out⟩

/-! ### laws_szFactS: function 23 -/
def laws_szFactS.f (l0 : List (S49)) (a1 : Int) : Option (Int) := if (wrap64 (a1 - (l0.length : Int))) < 0 then (some (-1)) else (some (wrap64 (a1 - (l0.length : Int))))
open Go.Proofs.YtineejdlpcgnkaaGreatM in
set_option maxHeartbeats 8000000 in
set_option maxRecDepth 100000 in
theorem laws_szFactS.calls (A0 : Option Addr) (c0 : Nat) (l0 : List (S49)) (a1 : Int) (r : Int) (w : World) (hr0 : Kd.C k49 w A0 l0.length l0) (hc0 : l0.length ≤ c0) (h : laws_szFactS.f l0 a1 = some r) :
  Calls Tryz.prog 23 #[.slice A0 l0.length c0, .int .i64 a1] w fun e w' => e = .returned (.int .i64 r) ∧ Below w.heap.size w w' := by
 have HR0 := Aside0.mk hr0
 have HC0 := Aside0.mk hc0
 clear hr0 hc0
 have HB := Aside0.mk (Below.refl w.heap.size w)
 have H := h
 clear h
 unfold laws_szFactS.f at H
 go_enter Tryz.func23, Tryz.ntmps23
 replace H := ifD H; rcases H with ⟨c1, H⟩ | ⟨c1, H⟩
 ·have c1_0 := decT c1
  replace c1 := Aside0.mk c1
  first | rw [c1_0] | skip
  obtain rfl := Option.some.inj H
  clear H
  go_wp2
  go_ret
  exact ⟨rfl, HB.out⟩
 ·have c1_0 := decF c1
  replace c1 := Aside0.mk c1
  first | rw [c1_0] | skip
  obtain rfl := Option.some.inj H
  clear H
  go_wp2
  go_ret
  exact ⟨rfl, HB.out⟩

/-! ### laws_szRevokedS: function 24 -/
def laws_szRevokedS.f (l0 : List (S125)) (a1 : Int) : Option (Int) := if (wrap64 (a1 - (l0.length : Int))) < 0 then (some (-1)) else (some (wrap64 (a1 - (l0.length : Int))))
open Go.Proofs.YtineejdlpcgnkaaGreatM in
set_option maxHeartbeats 8000000 in
set_option maxRecDepth 100000 in
theorem laws_szRevokedS.calls (A0 : Option Addr) (c0 : Nat) (l0 : List (S125)) (a1 : Int) (r : Int) (w : World) (hr0 : Kd.C k125 w A0 l0.length l0) (hc0 : l0.length ≤ c0) (h : laws_szRevokedS.f l0 a1 = some r) :
  Calls Tryz.prog 24 #[.slice A0 l0.length c0, .int .i64 a1] w fun e w' => e = .returned (.int .i64 r) ∧ Below w.heap.size w w' := by
 have HR0 := Aside0.mk hr0
 have HC0 := Aside0.mk hc0
 clear hr0 hc0
 have HB := Aside0.mk (Below.refl w.heap.size w)
 have H := h
 clear h
 unfold laws_szRevokedS.f at H
 go_enter Tryz.func24, Tryz.ntmps24
 replace H := ifD H; rcases H with ⟨c1, H⟩ | ⟨c1, H⟩
 ·have c1_0 := decT c1
  replace c1 := Aside0.mk c1
  first | rw [c1_0] | skip
  obtain rfl := Option.some.inj H
  clear H
  go_wp2
  go_ret
  exact ⟨rfl, HB.out⟩
 ·have c1_0 := decF c1
  replace c1 := Aside0.mk c1
  first | rw [c1_0] | skip
  obtain rfl := Option.some.inj H
  clear H
  go_wp2
  go_ret
  exact ⟨rfl, HB.out⟩

/-! ### laws_szCertS: function 25 -/
def laws_szCertS.f (l0 : List (S127)) (a1 : Int) : Option (Int) := if (wrap64 (a1 - (l0.length : Int))) < 0 then (some (-1)) else (some (wrap64 (a1 - (l0.length : Int))))
open Go.Proofs.YtineejdlpcgnkaaGreatM in
set_option maxHeartbeats 8000000 in
set_option maxRecDepth 100000 in
theorem laws_szCertS.calls (A0 : Option Addr) (c0 : Nat) (l0 : List (S127)) (a1 : Int) (r : Int) (w : World) (hr0 : Kd.C k127 w A0 l0.length l0) (hc0 : l0.length ≤ c0) (h : laws_szCertS.f l0 a1 = some r) :
  Calls Tryz.prog 25 #[.slice A0 l0.length c0, .int .i64 a1] w fun e w' => e = .returned (.int .i64 r) ∧ Below w.heap.size w w' := by
 have HR0 := Aside0.mk hr0
 have HC0 := Aside0.mk hc0
 clear hr0 hc0
 have HB := Aside0.mk (Below.refl w.heap.size w)
 have H := h
 clear h
 unfold laws_szCertS.f at H
 go_enter Tryz.func25, Tryz.ntmps25
 replace H := ifD H; rcases H with ⟨c1, H⟩ | ⟨c1, H⟩
 ·have c1_0 := decT c1
  replace c1 := Aside0.mk c1
  first | rw [c1_0] | skip
  obtain rfl := Option.some.inj H
  clear H
  go_wp2
  go_ret
  exact ⟨rfl, HB.out⟩
 ·have c1_0 := decF c1
  replace c1 := Aside0.mk c1
  first | rw [c1_0] | skip
  obtain rfl := Option.some.inj H
  clear H
  go_wp2
  go_ret
  exact ⟨rfl, HB.out⟩

end Go.Proofs.YtineejdlpcgnkaaGreat.QFnExactIsCenter
