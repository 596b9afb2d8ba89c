/- The machine side of FnExactIsCenter: what each function that it reaches computes, and that the machine's call gives just that. -/
import Derived.Test.YtineejdlpcgnkaaGreatQFnExactIsCenterx0
import Derived.Test.YtineejdlpcgnkaaGreatQFnExactIsCenterx8
namespace Go.Proofs.YtineejdlpcgnkaaGreat.QFnExactIsCenter
open Go.RowKit Go.Proofs.YtineejdlpcgnkaaGreatW.PrintWords Go.Proofs.YtineejdlpcgnkaaGreatW.PrintLast Go.Proofs.YtineejdlpcgnkaaGreatW.PrintMore
attribute [local go_sem] max2_int min2_int max_two min_two max_three min_three max_four min_four   -- for this text's walks alone
set_option linter.unusedVariables false
set_option linter.unusedSimpArgs false

/-! ### laws_toEpochS: function 34 -/
def laws_toEpochS.l0 : Nat → List (S107) → List (S117) → Int → Option ((List (S117)))
 | 0, _, _, _ => none
 | k + 1, x0, x3, x4 => if x4 < (x0.length : Int) then (if 0 ≤ x4 then ((laws_toEpoch.f k ((rd_T107 x0 x4).f0) ((rd_T107 x0 x4).f1) ((rd_T107 x0 x4).f2) ((rd_T107 x0 x4).f3.f0) ((rd_T107 x0 x4).f3.f1)).bind fun bt450 => (if x4 < (x3.length : Int) then (laws_toEpochS.l0 k x0 (x3.set (x4 : Int).toNat (⟨bt450.1, bt450.2.1, bt450.2.2.1, (⟨bt450.2.2.2.1, bt450.2.2.2.2⟩ : S115)⟩ : S117)) (wrap64 (x4 + 1))) else (none))) else (none)) else (some x3)
def laws_toEpochS.f (k : Nat) (l0 : List (S107)) : Option ((List (S117))) := if 0 ≤ (l0.length : Int) then (if ((l0.length : Int) : Int).toNat ≤ 3909374676536 then (laws_toEpochS.l0 k l0 (List.replicate ((l0.length : Int) : Int).toNat z117) 0) else (none)) else (none)
open Go.Proofs.YtineejdlpcgnkaaGreatM in
set_option maxHeartbeats 8000000 in
set_option maxRecDepth 100000 in
theorem laws_toEpochS.calls (k : Nat) (A0 : Option Addr) (c0 : Nat) (l0 : List (S107)) (r : List (S117)) (w : World) (hr0 : Kd.C k107 w A0 l0.length l0) (hc0 : l0.length ≤ c0) (h : laws_toEpochS.f k l0 = some r) :
  Calls Tryz.prog 34 #[.slice A0 l0.length c0] w fun e w' => ∃ v0_ : Value, e = .returned (v0_) ∧ Kd.R k117 117 w' w.heap.size (fun _ => True) v0_ r ∧ Below w.heap.size w w' := by
 have hu107 := Tryz.underlying107; have hu117 := Tryz.underlying117
 have HR := Aside0.mk hr0; clear hr0
 have HB := Aside0.mk (Below.refl w.heap.size w)
 unfold laws_toEpochS.f at h
 replace h := ifN h; obtain ⟨c2, h⟩ := h; replace c2 := Aside0.mk c2; replace h := ifN h; obtain ⟨c3, h⟩ := h; replace c3 := Aside0.mk c3
 obtain ⟨ys, hy⟩ : ∃ y_, y_ = (List.replicate ((l0.length : Int) : Int).toNat z117) := ⟨_, rfl⟩
 rw [← hy] at h; replace hy := Aside0.mk hy; replace h := Aside0.mk h
 go_enter Tryz.func34, Tryz.ntmps34
 go_wp2_with (first | ((with_reducible refine gate_dst (N := 7) rfl ?_); refine Kd.R_make k117 _ 117 rfl (N := 7) rfl 32 _ _ rfl (l0.length : Int) rfl rfl Tryz.underlying32 (.agg #[(.int .i64 0), (.int .i64 0), (.slice none 0 0), (.int .i64 0), (.slice none 0 0)]) 72 info117 rfl (by decide) (by omega) z117 (ok := fun _ => True) (okp := fun _ => True) (k117_mkM _ _ _ z117 (Kd.R_nil _ _ _ _ _) (Kd.R_nil _ _ _ _ _)) (fun _ hk => hk) trivial c2.out (Nat.le_trans (Nat.mul_le_mul_right _ c3.out) (by omega)) (Below.refl _ _) (Nat.le_refl _) ?_; intro v W1 ho hb _ _; rw [← hy.out] at ho; have O := Aside0.mk (Kd.R_lower ho (below_size HB.out)); replace HB := Aside0.mk (below_step HB.out hb); clear hb ho))
 go_loopg [4] k (fun kq v4 w' => ∃ (xs : List S117) (i : Int), v4 = .int .i64 i ∧ Aside0 (laws_toEpochS.l0 kq l0 xs i = some r) ∧ Aside0 (kq ≤ k) ∧ Aside0 (Kd.R k117 117 w' w.heap.size (fun _ => True) v xs) ∧ Aside0 (Below w.heap.size w w'))
 case atStart => exact ⟨_, 0, rfl, h, ⟨Nat.le_refl _⟩, O, HB⟩
 case round =>
  clear h O HB c2 c3
  obtain ⟨xs, i, rfl, H, Hk, O, HB⟩ := hrel
  cases gk with
  | zero => exact absurd H.out (by simp [laws_toEpochS.l0])
  | succ k1 =>
   have h := H.out; clear H
   simp only [laws_toEpochS.l0] at h
   replace h := ifD h; rcases h with ⟨c, h⟩ | ⟨c, h⟩
   ·have d1 := decT c; replace h := ifN h; obtain ⟨c7, h⟩ := h; replace h := Option.bind_eq_some_iff.mp h
    obtain ⟨⟨t450, t451, t452, t455, t456⟩, m, h⟩ := h
    try dsimp only at h
    replace h := ifN h; obtain ⟨c9, h⟩ := h; replace h := Aside0.mk h; replace m := Aside0.mk m
    obtain ⟨ad, A2, a2, A4, a4, e_, x0, x1, x2, x3, x4, l2, f2, l4, f4⟩ := at_T107 HR.out i c7 c
    cases e_
    replace x0 := xC HB ⟨x0⟩; replace x1 := xC HB ⟨x1⟩; replace x2 := xC HB ⟨x2⟩; replace x3 := xC HB ⟨x3⟩; replace x4 := xC HB ⟨x4⟩
    replace l2 := Aside0.mk l2; replace f2 := Aside0.mk f2; replace l4 := Aside0.mk l4; replace f4 := Aside0.mk f4
    obtain ⟨g, co, eo, hg, hq, -, -⟩ := Kd.R_form O.out (by omega)
    cases eo
    have e1 := eq_true c; have e2 := eq_true c7; have e3 := eq_true c9; replace c := Aside0.mk c; replace c7 := Aside0.mk c7; replace c9 := Aside0.mk c9; replace hg := Aside0.mk hg; replace hq := Aside0.mk hq
    go_wp2_with (first | (go_at_call 83; refine (laws_toEpoch.calls k1 _ _ _ _ _ _ _ _ _ t450 t451 t452 t455 t456 _ (Kd.C_below f2.out HB.out) l2.out (Kd.C_below f4.out HB.out) l4.out  m.out).mono ?_; rintro e W2 ⟨v2, v4, rfl, o2, o4, hb⟩; obtain ⟨B2, b2, rfl⟩ := Kd.R_slice o2; obtain ⟨B4, b4, rfl⟩ := Kd.R_slice o4; obtain ⟨hc, hf, HP⟩ := R_fill O.out hb c7.out c9.out z117 (seg := [.int .i64 t450, .int .i64 t451, .slice B2 t452.length b2, .int .i64 t455, .slice B4 t456.length b4]) 5 rfl rfl hq.out (k117_mkM _ _ _ (⟨t450, t451, t452, (⟨t455, t456⟩ : S115)⟩ : S117) (R_above o2 (below_size HB.out) (Nat.le_refl _)) (R_above o4 (below_size HB.out) (Nat.le_refl _))); obtain ⟨_, y0⟩ := hc 0 (by decide); have q0 := hf 0; obtain ⟨_, y1⟩ := hc 1 (by decide); have q1 := hf 1; obtain ⟨_, y2⟩ := hc 2 (by decide); have q2 := hf 2; obtain ⟨_, y3⟩ := hc 3 (by decide); have q3 := hf 3; obtain ⟨_, y4⟩ := hc 4 (by decide); have q4 := hf 4; simp only [Nat.add_zero] at y0 q0; replace HP := Aside0.mk HP; replace HB := Aside0.mk (below_step HB.out hb); clear hb hc hf O o2 o4))
    go_roundg k1
    case measure => have := Hk.out; omega
    case rel => exact ⟨_, _, rfl, h, ⟨by have := Hk.out; omega⟩, HP, ⟨below_set (below_set (below_set (below_set (below_set (HB.out) hg.out) hg.out) hg.out) hg.out) hg.out⟩⟩
   ·have d1 := decF c; clear c; obtain rfl := Option.some.inj h
    go_wp2
    go_ret
    exact ⟨_, rfl, O.out, HB.out⟩

/-! ### laws_toFact: function 70 -/
def laws_toFact.f (a0_0 : Int) (a0_1 : Int) (a0_2 : Int) (a0_3 : Int) (a0_4 : Int) (a0_5 : Int) : Option (Int × Int × Int × Int × Int × Int) := some (a0_0, a0_1, a0_2, a0_3, a0_4, a0_5)
set_option maxHeartbeats 8000000 in
set_option maxRecDepth 100000 in
theorem laws_toFact.calls (a0_0 : Int) (a0_1 : Int) (a0_2 : Int) (a0_3 : Int) (a0_4 : Int) (a0_5 : Int) (r1 : Int) (r2 : Int) (r3 : Int) (r4 : Int) (r5 : Int) (r6 : Int) (w : World) (h : laws_toFact.f a0_0 a0_1 a0_2 a0_3 a0_4 a0_5 = some (r1, r2, r3, r4, r5, r6)) :
  Calls Tryz.prog 70 #[.agg #[.int .i64 a0_0, .int .i64 a0_1, .int .i64 a0_2, .int .i64 a0_3, .int .i64 a0_4, .int .i64 a0_5]] w fun e w' => e = .returned (.agg #[.int .i64 r1, .int .i64 r2, .int .i64 r3, .int .i64 r4, .int .i64 r5, .int .i64 r6]) ∧ Below w.heap.size w w' := by
 have hu49 := Tryz.underlying49; have hu53 := Tryz.underlying53
 unfold laws_toFact.f at h
 simp only [Option.some.injEq, Prod.mk.injEq] at h
 obtain ⟨rfl, rfl, rfl, rfl, rfl, rfl⟩ := h
 go_enter Tryz.func70, Tryz.ntmps70
 go_wp2
 exact bodyPost_ret (v := .agg #[.int .i64 a0_0, .int .i64 a0_1, .int .i64 a0_2, .int .i64 a0_3, .int .i64 a0_4, .int .i64 a0_5]) (by simp [results, Tryz.results70, go_sem]) rfl ⟨rfl, by repeat (first | exact Below.refl _ _ | apply below_alloc | refine bSet ?_ (by omega))⟩

/-! ### laws_toFactS: function 35 -/
def laws_toFactS.l0 : Nat → List (S49) → List (S53) → Int → Option ((List (S53)))
 | 0, _, _, _ => none
 | k + 1, x0, x3, x4 => if x4 < (x0.length : Int) then (if 0 ≤ x4 then ((laws_toFact.f ((rd_T49 x0 x4).f0) ((rd_T49 x0 x4).f1) ((rd_T49 x0 x4).f2) ((rd_T49 x0 x4).f3) ((rd_T49 x0 x4).f4) ((rd_T49 x0 x4).f5)).bind fun bt484 => (if x4 < (x3.length : Int) then (laws_toFactS.l0 k x0 (x3.set (x4 : Int).toNat (⟨bt484.1, bt484.2.1, bt484.2.2.1, bt484.2.2.2.1, bt484.2.2.2.2.1, bt484.2.2.2.2.2⟩ : S53)) (wrap64 (x4 + 1))) else (none))) else (none)) else (some x3)
def laws_toFactS.f (k : Nat) (l0 : List (S49)) : Option ((List (S53))) := if 0 ≤ (l0.length : Int) then (if ((l0.length : Int) : Int).toNat ≤ 5864062014805 then (laws_toFactS.l0 k l0 (List.replicate ((l0.length : Int) : Int).toNat z53) 0) else (none)) else (none)
open Go.Proofs.YtineejdlpcgnkaaGreatM in
set_option maxHeartbeats 8000000 in
set_option maxRecDepth 100000 in
theorem laws_toFactS.calls (k : Nat) (A0 : Option Addr) (c0 : Nat) (l0 : List (S49)) (r : List (S53)) (w : World) (hr0 : Kd.C k49 w A0 l0.length l0) (hc0 : l0.length ≤ c0) (h : laws_toFactS.f k l0 = some r) :
  Calls Tryz.prog 35 #[.slice A0 l0.length c0] w fun e w' => ∃ v0_ : Value, e = .returned (v0_) ∧ Kd.R k53 53 w' w.heap.size (fun _ => True) v0_ r ∧ Below w.heap.size w w' := by
 have hu49 := Tryz.underlying49; have hu53 := Tryz.underlying53
 have HR := Aside0.mk hr0; clear hr0
 have HB := Aside0.mk (Below.refl w.heap.size w)
 unfold laws_toFactS.f at h
 replace h := ifN h; obtain ⟨c2, h⟩ := h; replace c2 := Aside0.mk c2; replace h := ifN h; obtain ⟨c3, h⟩ := h; replace c3 := Aside0.mk c3
 obtain ⟨ys, hy⟩ : ∃ y_, y_ = (List.replicate ((l0.length : Int) : Int).toNat z53) := ⟨_, rfl⟩
 rw [← hy] at h; replace hy := Aside0.mk hy; replace h := Aside0.mk h
 go_enter Tryz.func35, Tryz.ntmps35
 go_wp2_with (first | ((with_reducible refine gate_dst (N := 7) rfl ?_); refine Kd.R_make k53 _ 53 rfl (N := 7) rfl 33 _ _ rfl (l0.length : Int) rfl rfl Tryz.underlying33 (.agg #[(.int .i64 0), (.int .i64 0), (.int .i64 0), (.int .i64 0), (.int .i64 0), (.int .i64 0)]) 48 info53 rfl (by decide) (by omega) z53 (ok := fun _ => True) (okp := fun _ => True) (k53_mkM _ _ _ z53 ) (fun _ hk => hk) trivial c2.out (Nat.le_trans (Nat.mul_le_mul_right _ c3.out) (by omega)) (Below.refl _ _) (Nat.le_refl _) ?_; intro v W1 ho hb _ _; rw [← hy.out] at ho; have O := Aside0.mk (Kd.R_lower ho (below_size HB.out)); replace HB := Aside0.mk (below_step HB.out hb); clear hb ho))
 go_loopg [4] k (fun kq v4 w' => ∃ (xs : List S53) (i : Int), v4 = .int .i64 i ∧ Aside0 (laws_toFactS.l0 kq l0 xs i = some r) ∧ Aside0 (kq ≤ k) ∧ Aside0 (Kd.R k53 53 w' w.heap.size (fun _ => True) v xs) ∧ Aside0 (Below w.heap.size w w'))
 case atStart => exact ⟨_, 0, rfl, h, ⟨Nat.le_refl _⟩, O, HB⟩
 case round =>
  clear h O HB c2 c3
  obtain ⟨xs, i, rfl, H, Hk, O, HB⟩ := hrel
  cases gk with
  | zero => exact absurd H.out (by simp [laws_toFactS.l0])
  | succ k1 =>
   have h := H.out; clear H
   simp only [laws_toFactS.l0] at h
   replace h := ifD h; rcases h with ⟨c, h⟩ | ⟨c, h⟩
   ·have d1 := decT c; replace h := ifN h; obtain ⟨c7, h⟩ := h; replace h := Option.bind_eq_some_iff.mp h
    obtain ⟨⟨t484, t485, t486, t487, t488, t489⟩, m, h⟩ := h
    try dsimp only at h
    replace h := ifN h; obtain ⟨c9, h⟩ := h; replace h := Aside0.mk h; replace m := Aside0.mk m
    obtain ⟨ad, e_, x0, x1, x2, x3, x4, x5⟩ := at_T49 HR.out i c7 c
    cases e_
    replace x0 := xC HB ⟨x0⟩; replace x1 := xC HB ⟨x1⟩; replace x2 := xC HB ⟨x2⟩; replace x3 := xC HB ⟨x3⟩; replace x4 := xC HB ⟨x4⟩; replace x5 := xC HB ⟨x5⟩
    obtain ⟨g, co, eo, hg, hq, -, -⟩ := Kd.R_form O.out (by omega)
    cases eo
    have e1 := eq_true c; have e2 := eq_true c7; have e3 := eq_true c9; replace c := Aside0.mk c; replace c7 := Aside0.mk c7; replace c9 := Aside0.mk c9; replace hg := Aside0.mk hg; replace hq := Aside0.mk hq
    go_wp2_with (first | (go_at_call 70; refine (laws_toFact.calls _ _ _ _ _ _ t484 t485 t486 t487 t488 t489 _  m.out).mono ?_; rintro e W2 ⟨rfl, hb⟩; obtain ⟨hc, hf, HP⟩ := R_fill O.out hb c7.out c9.out z53 (seg := [.int .i64 t484, .int .i64 t485, .int .i64 t486, .int .i64 t487, .int .i64 t488, .int .i64 t489]) 6 rfl rfl hq.out (k53_mkM _ _ _ (⟨t484, t485, t486, t487, t488, t489⟩ : S53)); obtain ⟨_, y0⟩ := hc 0 (by decide); have q0 := hf 0; obtain ⟨_, y1⟩ := hc 1 (by decide); have q1 := hf 1; obtain ⟨_, y2⟩ := hc 2 (by decide); have q2 := hf 2; obtain ⟨_, y3⟩ := hc 3 (by decide); have q3 := hf 3; obtain ⟨_, y4⟩ := hc 4 (by decide); have q4 := hf 4; obtain ⟨_, y5⟩ := hc 5 (by decide); have q5 := hf 5; simp only [Nat.add_zero] at y0 q0; replace HP := Aside0.mk HP; replace HB := Aside0.mk (below_step HB.out hb); clear hb hc hf O ))
    go_roundg k1
    case measure => have := Hk.out; omega
    case rel => exact ⟨_, _, rfl, h, ⟨by have := Hk.out; omega⟩, HP, ⟨below_set (below_set (below_set (below_set (below_set (below_set (HB.out) hg.out) hg.out) hg.out) hg.out) hg.out) hg.out⟩⟩
   ·have d1 := decF c; clear c; obtain rfl := Option.some.inj h
    go_wp2
    go_ret
    exact ⟨_, rfl, O.out, HB.out⟩

/-! ### laws_toRevoked: function 84 -/
def laws_toRevoked.f (a0_0 : Int) (a0_1 : Int) : Option (Int × Int) := some (a0_0, a0_1)
set_option maxHeartbeats 8000000 in
set_option maxRecDepth 100000 in
theorem laws_toRevoked.calls (a0_0 : Int) (a0_1 : Int) (r1 : Int) (r2 : Int) (w : World) (h : laws_toRevoked.f a0_0 a0_1 = some (r1, r2)) :
  Calls Tryz.prog 84 #[.agg #[.int .i64 a0_0, .int .i64 a0_1]] w fun e w' => e = .returned (.agg #[.int .i64 r1, .int .i64 r2]) ∧ Below w.heap.size w w' := by
 have hu121 := Tryz.underlying121; have hu125 := Tryz.underlying125
 unfold laws_toRevoked.f at h
 simp only [Option.some.injEq, Prod.mk.injEq] at h
 obtain ⟨rfl, rfl⟩ := h
 go_enter Tryz.func84, Tryz.ntmps84
 go_wp2
 exact bodyPost_ret (v := .agg #[.int .i64 a0_0, .int .i64 a0_1]) (by simp [results, Tryz.results84, go_sem]) rfl ⟨rfl, by repeat (first | exact Below.refl _ _ | apply below_alloc | refine bSet ?_ (by omega))⟩

/-! ### laws_toRevokedS: function 36 -/
def laws_toRevokedS.l0 : Nat → List (S125) → List (S121) → Int → Option ((List (S121)))
 | 0, _, _, _ => none
 | k + 1, x0, x3, x4 => if x4 < (x0.length : Int) then (if 0 ≤ x4 then ((laws_toRevoked.f ((rd_T125 x0 x4).f0) ((rd_T125 x0 x4).f1)).bind fun bt512 => (if x4 < (x3.length : Int) then (laws_toRevokedS.l0 k x0 (x3.set (x4 : Int).toNat (⟨bt512.1, bt512.2⟩ : S121)) (wrap64 (x4 + 1))) else (none))) else (none)) else (some x3)
def laws_toRevokedS.f (k : Nat) (l0 : List (S125)) : Option ((List (S121))) := if 0 ≤ (l0.length : Int) then (if ((l0.length : Int) : Int).toNat ≤ 17592186044416 then (laws_toRevokedS.l0 k l0 (List.replicate ((l0.length : Int) : Int).toNat z121) 0) else (none)) else (none)
open Go.Proofs.YtineejdlpcgnkaaGreatM in
set_option maxHeartbeats 8000000 in
set_option maxRecDepth 100000 in
theorem laws_toRevokedS.calls (k : Nat) (A0 : Option Addr) (c0 : Nat) (l0 : List (S125)) (r : List (S121)) (w : World) (hr0 : Kd.C k125 w A0 l0.length l0) (hc0 : l0.length ≤ c0) (h : laws_toRevokedS.f k l0 = some r) :
  Calls Tryz.prog 36 #[.slice A0 l0.length c0] w fun e w' => ∃ v0_ : Value, e = .returned (v0_) ∧ Kd.R k121 121 w' w.heap.size (fun _ => True) v0_ r ∧ Below w.heap.size w w' := by
 have hu125 := Tryz.underlying125; have hu121 := Tryz.underlying121
 have HR := Aside0.mk hr0; clear hr0
 have HB := Aside0.mk (Below.refl w.heap.size w)
 unfold laws_toRevokedS.f at h
 replace h := ifN h; obtain ⟨c2, h⟩ := h; replace c2 := Aside0.mk c2; replace h := ifN h; obtain ⟨c3, h⟩ := h; replace c3 := Aside0.mk c3
 obtain ⟨ys, hy⟩ : ∃ y_, y_ = (List.replicate ((l0.length : Int) : Int).toNat z121) := ⟨_, rfl⟩
 rw [← hy] at h; replace hy := Aside0.mk hy; replace h := Aside0.mk h
 go_enter Tryz.func36, Tryz.ntmps36
 go_wp2_with (first | ((with_reducible refine gate_dst (N := 7) rfl ?_); refine Kd.R_make k121 _ 121 rfl (N := 7) rfl 34 _ _ rfl (l0.length : Int) rfl rfl Tryz.underlying34 (.agg #[(.int .i64 0), (.int .i64 0)]) 16 info121 rfl (by decide) (by omega) z121 (ok := fun _ => True) (okp := fun _ => True) (k121_mkM _ _ _ z121 ) (fun _ hk => hk) trivial c2.out (Nat.le_trans (Nat.mul_le_mul_right _ c3.out) (by omega)) (Below.refl _ _) (Nat.le_refl _) ?_; intro v W1 ho hb _ _; rw [← hy.out] at ho; have O := Aside0.mk (Kd.R_lower ho (below_size HB.out)); replace HB := Aside0.mk (below_step HB.out hb); clear hb ho))
 go_loopg [4] k (fun kq v4 w' => ∃ (xs : List S121) (i : Int), v4 = .int .i64 i ∧ Aside0 (laws_toRevokedS.l0 kq l0 xs i = some r) ∧ Aside0 (kq ≤ k) ∧ Aside0 (Kd.R k121 121 w' w.heap.size (fun _ => True) v xs) ∧ Aside0 (Below w.heap.size w w'))
 case atStart => exact ⟨_, 0, rfl, h, ⟨Nat.le_refl _⟩, O, HB⟩
 case round =>
  clear h O HB c2 c3
  obtain ⟨xs, i, rfl, H, Hk, O, HB⟩ := hrel
  cases gk with
  | zero => exact absurd H.out (by simp [laws_toRevokedS.l0])
  | succ k1 =>
   have h := H.out; clear H
   simp only [laws_toRevokedS.l0] at h
   replace h := ifD h; rcases h with ⟨c, h⟩ | ⟨c, h⟩
   ·have d1 := decT c; replace h := ifN h; obtain ⟨c7, h⟩ := h; replace h := Option.bind_eq_some_iff.mp h
    obtain ⟨⟨t512, t513⟩, m, h⟩ := h
    try dsimp only at h
    replace h := ifN h; obtain ⟨c9, h⟩ := h; replace h := Aside0.mk h; replace m := Aside0.mk m
    obtain ⟨ad, e_, x0, x1⟩ := at_T125 HR.out i c7 c
    cases e_
    replace x0 := xC HB ⟨x0⟩; replace x1 := xC HB ⟨x1⟩
    obtain ⟨g, co, eo, hg, hq, -, -⟩ := Kd.R_form O.out (by omega)
    cases eo
    have e1 := eq_true c; have e2 := eq_true c7; have e3 := eq_true c9; replace c := Aside0.mk c; replace c7 := Aside0.mk c7; replace c9 := Aside0.mk c9; replace hg := Aside0.mk hg; replace hq := Aside0.mk hq
    go_wp2_with (first | (go_at_call 84; refine (laws_toRevoked.calls _ _ t512 t513 _  m.out).mono ?_; rintro e W2 ⟨rfl, hb⟩; obtain ⟨hc, hf, HP⟩ := R_fill O.out hb c7.out c9.out z121 (seg := [.int .i64 t512, .int .i64 t513]) 2 rfl rfl hq.out (k121_mkM _ _ _ (⟨t512, t513⟩ : S121)); obtain ⟨_, y0⟩ := hc 0 (by decide); have q0 := hf 0; obtain ⟨_, y1⟩ := hc 1 (by decide); have q1 := hf 1; simp only [Nat.add_zero] at y0 q0; replace HP := Aside0.mk HP; replace HB := Aside0.mk (below_step HB.out hb); clear hb hc hf O ))
    go_roundg k1
    case measure => have := Hk.out; omega
    case rel => exact ⟨_, _, rfl, h, ⟨by have := Hk.out; omega⟩, HP, ⟨below_set (below_set (HB.out) hg.out) hg.out⟩⟩
   ·have d1 := decF c; clear c; obtain rfl := Option.some.inj h
    go_wp2
    go_ret
    exact ⟨_, rfl, O.out, HB.out⟩

/-! ### laws_toCert: function 85 -/
def laws_toCert.f (a0_0 : Int) (a0_1 : Int) (a0_2 : Int) (a0_3 : Int) (a0_4 : Int) (a0_5 : Int) : Option (Int × Int × Int × Int × Int × Int) := some (a0_0, a0_1, a0_2, a0_3, a0_4, a0_5)
set_option maxHeartbeats 8000000 in
set_option maxRecDepth 100000 in
theorem laws_toCert.calls (a0_0 : Int) (a0_1 : Int) (a0_2 : Int) (a0_3 : Int) (a0_4 : Int) (a0_5 : Int) (r1 : Int) (r2 : Int) (r3 : Int) (r4 : Int) (r5 : Int) (r6 : Int) (w : World) (h : laws_toCert.f a0_0 a0_1 a0_2 a0_3 a0_4 a0_5 = some (r1, r2, r3, r4, r5, r6)) :
  Calls Tryz.prog 85 #[.agg #[.int .i64 a0_0, .int .i64 a0_1, .int .i64 a0_2, .int .i64 a0_3, .int .i64 a0_4, .int .i64 a0_5]] w fun e w' => e = .returned (.agg #[.int .i64 r1, .int .i64 r2, .int .i64 r3, .int .i64 r4, .int .i64 r5, .int .i64 r6]) ∧ Below w.heap.size w w' := by
 have hu64 := Tryz.underlying64; have hu127 := Tryz.underlying127
 unfold laws_toCert.f at h
 simp only [Option.some.injEq, Prod.mk.injEq] at h
 obtain ⟨rfl, rfl, rfl, rfl, rfl, rfl⟩ := h
 go_enter Tryz.func85, Tryz.ntmps85
 go_wp2
 exact bodyPost_ret (v := .agg #[.int .i64 a0_0, .int .i64 a0_1, .int .i64 a0_2, .int .i64 a0_3, .int .i64 a0_4, .int .i64 a0_5]) (by simp [results, Tryz.results85, go_sem]) rfl ⟨rfl, by repeat (first | exact Below.refl _ _ | apply below_alloc | refine bSet ?_ (by omega))⟩

/-! ### laws_toCertS: function 37 -/
def laws_toCertS.l0 : Nat → List (S127) → List (S64) → Int → Option ((List (S64)))
 | 0, _, _, _ => none
 | k + 1, x0, x3, x4 => if x4 < (x0.length : Int) then (if 0 ≤ x4 then ((laws_toCert.f ((rd_T127 x0 x4).f0) ((rd_T127 x0 x4).f1) ((rd_T127 x0 x4).f2) ((rd_T127 x0 x4).f3) ((rd_T127 x0 x4).f4) ((rd_T127 x0 x4).f5)).bind fun bt532 => (if x4 < (x3.length : Int) then (laws_toCertS.l0 k x0 (x3.set (x4 : Int).toNat (⟨bt532.1, bt532.2.1, bt532.2.2.1, bt532.2.2.2.1, bt532.2.2.2.2.1, bt532.2.2.2.2.2⟩ : S64)) (wrap64 (x4 + 1))) else (none))) else (none)) else (some x3)
def laws_toCertS.f (k : Nat) (l0 : List (S127)) : Option ((List (S64))) := if 0 ≤ (l0.length : Int) then (if ((l0.length : Int) : Int).toNat ≤ 5864062014805 then (laws_toCertS.l0 k l0 (List.replicate ((l0.length : Int) : Int).toNat z64) 0) else (none)) else (none)
open Go.Proofs.YtineejdlpcgnkaaGreatM in
set_option maxHeartbeats 8000000 in
set_option maxRecDepth 100000 in
theorem laws_toCertS.calls (k : Nat) (A0 : Option Addr) (c0 : Nat) (l0 : List (S127)) (r : List (S64)) (w : World) (hr0 : Kd.C k127 w A0 l0.length l0) (hc0 : l0.length ≤ c0) (h : laws_toCertS.f k l0 = some r) :
  Calls Tryz.prog 37 #[.slice A0 l0.length c0] w fun e w' => ∃ v0_ : Value, e = .returned (v0_) ∧ Kd.R k64 64 w' w.heap.size (fun _ => True) v0_ r ∧ Below w.heap.size w w' := by
 have hu127 := Tryz.underlying127; have hu64 := Tryz.underlying64
 have HR := Aside0.mk hr0; clear hr0
 have HB := Aside0.mk (Below.refl w.heap.size w)
 unfold laws_toCertS.f at h
 replace h := ifN h; obtain ⟨c2, h⟩ := h; replace c2 := Aside0.mk c2; replace h := ifN h; obtain ⟨c3, h⟩ := h; replace c3 := Aside0.mk c3
 obtain ⟨ys, hy⟩ : ∃ y_, y_ = (List.replicate ((l0.length : Int) : Int).toNat z64) := ⟨_, rfl⟩
 rw [← hy] at h; replace hy := Aside0.mk hy; replace h := Aside0.mk h
 go_enter Tryz.func37, Tryz.ntmps37
 go_wp2_with (first | ((with_reducible refine gate_dst (N := 7) rfl ?_); refine Kd.R_make k64 _ 64 rfl (N := 7) rfl 35 _ _ rfl (l0.length : Int) rfl rfl Tryz.underlying35 (.agg #[(.int .i64 0), (.int .i64 0), (.int .i64 0), (.int .i64 0), (.int .i64 0), (.int .i64 0)]) 48 info64 rfl (by decide) (by omega) z64 (ok := fun _ => True) (okp := fun _ => True) (k64_mkM _ _ _ z64 ) (fun _ hk => hk) trivial c2.out (Nat.le_trans (Nat.mul_le_mul_right _ c3.out) (by omega)) (Below.refl _ _) (Nat.le_refl _) ?_; intro v W1 ho hb _ _; rw [← hy.out] at ho; have O := Aside0.mk (Kd.R_lower ho (below_size HB.out)); replace HB := Aside0.mk (below_step HB.out hb); clear hb ho))
 go_loopg [4] k (fun kq v4 w' => ∃ (xs : List S64) (i : Int), v4 = .int .i64 i ∧ Aside0 (laws_toCertS.l0 kq l0 xs i = some r) ∧ Aside0 (kq ≤ k) ∧ Aside0 (Kd.R k64 64 w' w.heap.size (fun _ => True) v xs) ∧ Aside0 (Below w.heap.size w w'))
 case atStart => exact ⟨_, 0, rfl, h, ⟨Nat.le_refl _⟩, O, HB⟩
 case round =>
  clear h O HB c2 c3
  obtain ⟨xs, i, rfl, H, Hk, O, HB⟩ := hrel
  cases gk with
  | zero => exact absurd H.out (by simp [laws_toCertS.l0])
  | succ k1 =>
   have h := H.out; clear H
   simp only [laws_toCertS.l0] at h
   replace h := ifD h; rcases h with ⟨c, h⟩ | ⟨c, h⟩
   ·have d1 := decT c; replace h := ifN h; obtain ⟨c7, h⟩ := h; replace h := Option.bind_eq_some_iff.mp h
    obtain ⟨⟨t532, t533, t534, t535, t536, t537⟩, m, h⟩ := h
    try dsimp only at h
    replace h := ifN h; obtain ⟨c9, h⟩ := h; replace h := Aside0.mk h; replace m := Aside0.mk m
    obtain ⟨ad, e_, x0, x1, x2, x3, x4, x5⟩ := at_T127 HR.out i c7 c
    cases e_
    replace x0 := xC HB ⟨x0⟩; replace x1 := xC HB ⟨x1⟩; replace x2 := xC HB ⟨x2⟩; replace x3 := xC HB ⟨x3⟩; replace x4 := xC HB ⟨x4⟩; replace x5 := xC HB ⟨x5⟩
    obtain ⟨g, co, eo, hg, hq, -, -⟩ := Kd.R_form O.out (by omega)
    cases eo
    have e1 := eq_true c; have e2 := eq_true c7; have e3 := eq_true c9; replace c := Aside0.mk c; replace c7 := Aside0.mk c7; replace c9 := Aside0.mk c9; replace hg := Aside0.mk hg; replace hq := Aside0.mk hq
    go_wp2_with (first | (go_at_call 85; refine (laws_toCert.calls _ _ _ _ _ _ t532 t533 t534 t535 t536 t537 _  m.out).mono ?_; rintro e W2 ⟨rfl, hb⟩; obtain ⟨hc, hf, HP⟩ := R_fill O.out hb c7.out c9.out z64 (seg := [.int .i64 t532, .int .i64 t533, .int .i64 t534, .int .i64 t535, .int .i64 t536, .int .i64 t537]) 6 rfl rfl hq.out (k64_mkM _ _ _ (⟨t532, t533, t534, t535, t536, t537⟩ : S64)); obtain ⟨_, y0⟩ := hc 0 (by decide); have q0 := hf 0; obtain ⟨_, y1⟩ := hc 1 (by decide); have q1 := hf 1; obtain ⟨_, y2⟩ := hc 2 (by decide); have q2 := hf 2; obtain ⟨_, y3⟩ := hc 3 (by decide); have q3 := hf 3; obtain ⟨_, y4⟩ := hc 4 (by decide); have q4 := hf 4; obtain ⟨_, y5⟩ := hc 5 (by decide); have q5 := hf 5; simp only [Nat.add_zero] at y0 q0; replace HP := Aside0.mk HP; replace HB := Aside0.mk (below_step HB.out hb); clear hb hc hf O ))
    go_roundg k1
    case measure => have := Hk.out; omega
    case rel => exact ⟨_, _, rfl, h, ⟨by have := Hk.out; omega⟩, HP, ⟨below_set (below_set (below_set (below_set (below_set (below_set (HB.out) hg.out) hg.out) hg.out) hg.out) hg.out) hg.out⟩⟩
   ·have d1 := decF c; clear c; obtain rfl := Option.some.inj h
    go_wp2
    go_ret
    exact ⟨_, rfl, O.out, HB.out⟩

/-! ### laws_toCenter: function 9 -/
def laws_toCenter.f (k : Nat) (l0_0 : List (S100)) (l0_1 : List (S107)) (l0_2 : List (S49)) (l0_3 : List (S125)) (a0_4 : Int) (l0_5 : List (S127)) : Option ((List (S110)) × (List (S117)) × (List (S53)) × (List (S121)) × Int × (List (S64))) := (laws_toIssuerS.f k l0_0).bind fun t553 => ((laws_toEpochS.f k l0_1).bind fun t556 => ((laws_toFactS.f k l0_2).bind fun t559 => ((laws_toRevokedS.f k l0_3).bind fun t562 => ((laws_toCertS.f k l0_5).bind fun t565 => (some (t553, t556, t559, t562, a0_4, t565))))))
open Go.Proofs.YtineejdlpcgnkaaGreatM in
set_option maxHeartbeats 8000000 in
set_option maxRecDepth 100000 in
theorem laws_toCenter.calls (k : Nat) (A0_0 : Option Addr) (c0_0 : Nat) (l0_0 : List (S100)) (A0_1 : Option Addr) (c0_1 : Nat) (l0_1 : List (S107)) (A0_2 : Option Addr) (c0_2 : Nat) (l0_2 : List (S49)) (A0_3 : Option Addr) (c0_3 : Nat) (l0_3 : List (S125)) (a0_4 : Int) (A0_5 : Option Addr) (c0_5 : Nat) (l0_5 : List (S127)) (r1 : List (S110)) (r2 : List (S117)) (r3 : List (S53)) (r4 : List (S121)) (r5 : Int) (r6 : List (S64)) (w : World) (hr0_0 : Kd.C k100 w A0_0 l0_0.length l0_0) (hc0_0 : l0_0.length ≤ c0_0) (hr0_1 : Kd.C k107 w A0_1 l0_1.length l0_1) (hc0_1 : l0_1.length ≤ c0_1) (hr0_2 : Kd.C k49 w A0_2 l0_2.length l0_2) (hc0_2 : l0_2.length ≤ c0_2) (hr0_3 : Kd.C k125 w A0_3 l0_3.length l0_3) (hc0_3 : l0_3.length ≤ c0_3) (hr0_5 : Kd.C k127 w A0_5 l0_5.length l0_5) (hc0_5 : l0_5.length ≤ c0_5) (h : laws_toCenter.f k l0_0 l0_1 l0_2 l0_3 a0_4 l0_5 = some (r1, r2, r3, r4, r5, r6)) :
  Calls Tryz.prog 9 #[.agg #[.slice A0_0 l0_0.length c0_0, .slice A0_1 l0_1.length c0_1, .slice A0_2 l0_2.length c0_2, .slice A0_3 l0_3.length c0_3, .int .i64 a0_4, .slice A0_5 l0_5.length c0_5]] w fun e w' => ∃ v0_ v1_ v2_ v3_ v5_ : Value, e = .returned (.agg #[v0_, v1_, v2_, v3_, .int .i64 r5, v5_]) ∧ Kd.S k110 110 w' w.heap.size (fun _ => True) v0_ r1 ∧ Kd.R k117 117 w' w.heap.size (fun _ => True) v1_ r2 ∧ Kd.R k53 53 w' w.heap.size (fun _ => True) v2_ r3 ∧ Kd.R k121 121 w' w.heap.size (fun _ => True) v3_ r4 ∧ Kd.R k64 64 w' w.heap.size (fun _ => True) v5_ r6 ∧ Below w.heap.size w w' := by
 have hu28 := Tryz.underlying28; have hu37 := Tryz.underlying37
 have HR0_0 := Aside0.mk hr0_0; have HC0_0 := Aside0.mk hc0_0; clear hr0_0 hc0_0
 have HR0_1 := Aside0.mk hr0_1; have HC0_1 := Aside0.mk hc0_1; clear hr0_1 hc0_1
 have HR0_2 := Aside0.mk hr0_2; have HC0_2 := Aside0.mk hc0_2; clear hr0_2 hc0_2
 have HR0_3 := Aside0.mk hr0_3; have HC0_3 := Aside0.mk hc0_3; clear hr0_3 hc0_3
 have HR0_5 := Aside0.mk hr0_5; have HC0_5 := Aside0.mk hc0_5; clear hr0_5 hc0_5
 unfold laws_toCenter.f at h
 obtain ⟨y1_0, m1, h⟩ := Option.bind_eq_some_iff.mp h; try dsimp only at h
 obtain ⟨y2_0, m2, h⟩ := Option.bind_eq_some_iff.mp h; try dsimp only at h
 obtain ⟨y3_0, m3, h⟩ := Option.bind_eq_some_iff.mp h; try dsimp only at h
 obtain ⟨y4_0, m4, h⟩ := Option.bind_eq_some_iff.mp h; try dsimp only at h
 obtain ⟨y5_0, m5, h⟩ := Option.bind_eq_some_iff.mp h; try dsimp only at h
 simp only [Option.some.injEq, Prod.mk.injEq] at h
 obtain ⟨rfl, rfl, rfl, rfl, rfl, rfl⟩ := h
 replace m1 := Aside0.mk m1; replace m2 := Aside0.mk m2; replace m3 := Aside0.mk m3; replace m4 := Aside0.mk m4; replace m5 := Aside0.mk m5
 have HB := Aside0.mk (Below.refl w.heap.size w)
 go_enter Tryz.func9, Tryz.ntmps9
 go_upto_region 8 with (first | (go_at_call 33; refine (laws_toIssuerS.calls k _ _ _ y1_0 _ (Kd.C_below HR0_0.out (by repeat (first | exact HB.out | apply below_alloc | refine bSet ?_ (by omega)))) HC0_0.out m1.out).mono ?_; rintro e W1 ⟨v0, rfl, ho0, hb⟩; obtain ⟨A1_0, q1_0, rfl⟩ := Kd.R_slice (Kd.S_R ho0); have O1_0 := Aside0.mk (S_above (base := w.heap.size) (n := w.heap.size + 1 + 1 + 1) ho0 (by simp; omega) (by simp)); have q_ := alloc3 w (.cells #[.slice A0_0 l0_0.length c0_0, .slice A0_1 l0_1.length c0_1, .slice A0_2 l0_2.length c0_2, .slice A0_3 l0_3.length c0_3, .int .i64 a0_4, .slice A0_5 l0_5.length c0_5] 28) (.cells #[.slice none 0 0, .slice none 0 0, .slice none 0 0, .slice none 0 0, .int .i64 0, .slice none 0 0] 37) (.cells #[.slice none 0 0, .slice none 0 0, .slice none 0 0, .slice none 0 0, .int .i64 0, .slice none 0 0] 37); have B1 := Aside0.mk (blk_below q_.1 hb); have B2 := Aside0.mk (blk_below q_.2.1 hb); have B3 := Aside0.mk (blk_below q_.2.2 hb); clear q_; replace HB := Aside0.mk (below_step (by repeat (first | exact HB.out | apply below_alloc | refine bSet ?_ (by omega))) hb); clear hb ho0; have c1 := blk_cell B1.out; have c3 := blk_cell B3.out; have z3 := blk_frozen B3.out) | (go_at_call 34; refine (laws_toEpochS.calls k _ _ _ y2_0 _ (Kd.C_below HR0_1.out (by repeat (first | exact HB.out | apply below_alloc | refine bSet ?_ (by omega)))) HC0_1.out m2.out).mono ?_; rintro e W2 ⟨v0, rfl, ho0, hb⟩; obtain ⟨A2_0, q2_0, rfl⟩ := Kd.R_slice ho0; have O2_0 := Aside0.mk (R_above (base := w.heap.size) (n := w.heap.size + 1 + 1 + 1) ho0 (by have := blk_lt B3.out; simp; omega) (by have := blk_lt B3.out; simp; omega)); have n_ : Kd.S k110 110 (W1.setCell ⟨w.heap.size + 1 + 1, 0, none⟩ (.slice A1_0 y1_0.length q1_0)) w.heap.size (fun k_ => w.heap.size + 1 + 1 + 1 ≤ k_) (.slice A1_0 y1_0.length q1_0) y1_0 := (by repeat (first | exact O1_0.out | refine Kd.S_far ?_ (fun k_ h_ => by have h2_ : w.heap.size + 1 + 1 + 1 ≤ k_ := h_; show _ ≠ _; simp; omega) _)); replace O1_0 := Aside0.mk (Kd.S_below n_ hb); clear n_; have n_ : (W1.setCell ⟨w.heap.size + 1 + 1, 0, none⟩ (.slice A1_0 y1_0.length q1_0)).heap[w.heap.size]? = some (.cells #[.slice A0_0 l0_0.length c0_0, .slice A0_1 l0_1.length c0_1, .slice A0_2 l0_2.length c0_2, .slice A0_3 l0_3.length c0_3, .int .i64 a0_4, .slice A0_5 l0_5.length c0_5] 28 (0, 0)) := (by repeat (first | exact B1.out | refine blk_far ?_ (by simp <;> omega) _)); replace B1 := Aside0.mk (blk_below n_ hb); clear n_; have n_ : (W1.setCell ⟨w.heap.size + 1 + 1, 0, none⟩ (.slice A1_0 y1_0.length q1_0)).heap[w.heap.size + 1]? = some (.cells #[.slice none 0 0, .slice none 0 0, .slice none 0 0, .slice none 0 0, .int .i64 0, .slice none 0 0] 37 (0, 0)) := (by repeat (first | exact B2.out | refine blk_far ?_ (by simp <;> omega) _)); replace B2 := Aside0.mk (blk_below n_ hb); clear n_; have B3_ : W2.heap[w.heap.size + 1 + 1]? = some (.cells #[.slice A1_0 y1_0.length q1_0, .slice none 0 0, .slice none 0 0, .slice none 0 0, .int .i64 0, .slice none 0 0] 37 (0, 0)) := blk_below (blk_set B3.out 0 (.slice A1_0 y1_0.length q1_0)) hb; replace B3 := Aside0.mk B3_; clear B3_ c1 c3 z3; have n_ : Below w.heap.size w (W1.setCell ⟨w.heap.size + 1 + 1, 0, none⟩ (.slice A1_0 y1_0.length q1_0)) := (by repeat (first | exact HB.out | apply below_alloc | refine bSet ?_ (by omega))); replace HB := Aside0.mk (below_step n_ hb); clear n_; clear hb ho0; have c1 := blk_cell B1.out; have c3 := blk_cell B3.out; have z3 := blk_frozen B3.out) | (go_at_call 35; refine (laws_toFactS.calls k _ _ _ y3_0 _ (Kd.C_below HR0_2.out (by repeat (first | exact HB.out | apply below_alloc | refine bSet ?_ (by omega)))) HC0_2.out m3.out).mono ?_; rintro e W3 ⟨v0, rfl, ho0, hb⟩; obtain ⟨A3_0, q3_0, rfl⟩ := Kd.R_slice ho0; have O3_0 := Aside0.mk (R_above (base := w.heap.size) (n := w.heap.size + 1 + 1 + 1) ho0 (by have := blk_lt B3.out; simp; omega) (by have := blk_lt B3.out; simp; omega)); have n_ : Kd.S k110 110 (W2.setCell ⟨w.heap.size + 1 + 1, 1, none⟩ (.slice A2_0 y2_0.length q2_0)) w.heap.size (fun k_ => w.heap.size + 1 + 1 + 1 ≤ k_) (.slice A1_0 y1_0.length q1_0) y1_0 := (by repeat (first | exact O1_0.out | refine Kd.S_far ?_ (fun k_ h_ => by have h2_ : w.heap.size + 1 + 1 + 1 ≤ k_ := h_; show _ ≠ _; simp; omega) _)); replace O1_0 := Aside0.mk (Kd.S_below n_ hb); clear n_; have n_ : Kd.R k117 117 (W2.setCell ⟨w.heap.size + 1 + 1, 1, none⟩ (.slice A2_0 y2_0.length q2_0)) w.heap.size (fun k_ => w.heap.size + 1 + 1 + 1 ≤ k_) (.slice A2_0 y2_0.length q2_0) y2_0 := (by repeat (first | exact O2_0.out | refine Kd.R_far ?_ (fun k_ h_ => by have h2_ : w.heap.size + 1 + 1 + 1 ≤ k_ := h_; show _ ≠ _; simp; omega) _)); replace O2_0 := Aside0.mk (Kd.R_below n_ hb); clear n_; have n_ : (W2.setCell ⟨w.heap.size + 1 + 1, 1, none⟩ (.slice A2_0 y2_0.length q2_0)).heap[w.heap.size]? = some (.cells #[.slice A0_0 l0_0.length c0_0, .slice A0_1 l0_1.length c0_1, .slice A0_2 l0_2.length c0_2, .slice A0_3 l0_3.length c0_3, .int .i64 a0_4, .slice A0_5 l0_5.length c0_5] 28 (0, 0)) := (by repeat (first | exact B1.out | refine blk_far ?_ (by simp <;> omega) _)); replace B1 := Aside0.mk (blk_below n_ hb); clear n_; have n_ : (W2.setCell ⟨w.heap.size + 1 + 1, 1, none⟩ (.slice A2_0 y2_0.length q2_0)).heap[w.heap.size + 1]? = some (.cells #[.slice none 0 0, .slice none 0 0, .slice none 0 0, .slice none 0 0, .int .i64 0, .slice none 0 0] 37 (0, 0)) := (by repeat (first | exact B2.out | refine blk_far ?_ (by simp <;> omega) _)); replace B2 := Aside0.mk (blk_below n_ hb); clear n_; have B3_ : W3.heap[w.heap.size + 1 + 1]? = some (.cells #[.slice A1_0 y1_0.length q1_0, .slice A2_0 y2_0.length q2_0, .slice none 0 0, .slice none 0 0, .int .i64 0, .slice none 0 0] 37 (0, 0)) := blk_below (blk_set B3.out 1 (.slice A2_0 y2_0.length q2_0)) hb; replace B3 := Aside0.mk B3_; clear B3_ c1 c3 z3; have n_ : Below w.heap.size w (W2.setCell ⟨w.heap.size + 1 + 1, 1, none⟩ (.slice A2_0 y2_0.length q2_0)) := (by repeat (first | exact HB.out | apply below_alloc | refine bSet ?_ (by omega))); replace HB := Aside0.mk (below_step n_ hb); clear n_; clear hb ho0; have c1 := blk_cell B1.out; have c3 := blk_cell B3.out; have z3 := blk_frozen B3.out) | (go_at_call 36; refine (laws_toRevokedS.calls k _ _ _ y4_0 _ (Kd.C_below HR0_3.out (by repeat (first | exact HB.out | apply below_alloc | refine bSet ?_ (by omega)))) HC0_3.out m4.out).mono ?_; rintro e W4 ⟨v0, rfl, ho0, hb⟩; obtain ⟨A4_0, q4_0, rfl⟩ := Kd.R_slice ho0; have O4_0 := Aside0.mk (R_above (base := w.heap.size) (n := w.heap.size + 1 + 1 + 1) ho0 (by have := blk_lt B3.out; simp; omega) (by have := blk_lt B3.out; simp; omega)); have n_ : Kd.S k110 110 (W3.setCell ⟨w.heap.size + 1 + 1, 2, none⟩ (.slice A3_0 y3_0.length q3_0)) w.heap.size (fun k_ => w.heap.size + 1 + 1 + 1 ≤ k_) (.slice A1_0 y1_0.length q1_0) y1_0 := (by repeat (first | exact O1_0.out | refine Kd.S_far ?_ (fun k_ h_ => by have h2_ : w.heap.size + 1 + 1 + 1 ≤ k_ := h_; show _ ≠ _; simp; omega) _)); replace O1_0 := Aside0.mk (Kd.S_below n_ hb); clear n_; have n_ : Kd.R k117 117 (W3.setCell ⟨w.heap.size + 1 + 1, 2, none⟩ (.slice A3_0 y3_0.length q3_0)) w.heap.size (fun k_ => w.heap.size + 1 + 1 + 1 ≤ k_) (.slice A2_0 y2_0.length q2_0) y2_0 := (by repeat (first | exact O2_0.out | refine Kd.R_far ?_ (fun k_ h_ => by have h2_ : w.heap.size + 1 + 1 + 1 ≤ k_ := h_; show _ ≠ _; simp; omega) _)); replace O2_0 := Aside0.mk (Kd.R_below n_ hb); clear n_; have n_ : Kd.R k53 53 (W3.setCell ⟨w.heap.size + 1 + 1, 2, none⟩ (.slice A3_0 y3_0.length q3_0)) w.heap.size (fun k_ => w.heap.size + 1 + 1 + 1 ≤ k_) (.slice A3_0 y3_0.length q3_0) y3_0 := (by repeat (first | exact O3_0.out | refine Kd.R_far ?_ (fun k_ h_ => by have h2_ : w.heap.size + 1 + 1 + 1 ≤ k_ := h_; show _ ≠ _; simp; omega) _)); replace O3_0 := Aside0.mk (Kd.R_below n_ hb); clear n_; have n_ : (W3.setCell ⟨w.heap.size + 1 + 1, 2, none⟩ (.slice A3_0 y3_0.length q3_0)).heap[w.heap.size]? = some (.cells #[.slice A0_0 l0_0.length c0_0, .slice A0_1 l0_1.length c0_1, .slice A0_2 l0_2.length c0_2, .slice A0_3 l0_3.length c0_3, .int .i64 a0_4, .slice A0_5 l0_5.length c0_5] 28 (0, 0)) := (by repeat (first | exact B1.out | refine blk_far ?_ (by simp <;> omega) _)); replace B1 := Aside0.mk (blk_below n_ hb); clear n_; have n_ : (W3.setCell ⟨w.heap.size + 1 + 1, 2, none⟩ (.slice A3_0 y3_0.length q3_0)).heap[w.heap.size + 1]? = some (.cells #[.slice none 0 0, .slice none 0 0, .slice none 0 0, .slice none 0 0, .int .i64 0, .slice none 0 0] 37 (0, 0)) := (by repeat (first | exact B2.out | refine blk_far ?_ (by simp <;> omega) _)); replace B2 := Aside0.mk (blk_below n_ hb); clear n_; have B3_ : W4.heap[w.heap.size + 1 + 1]? = some (.cells #[.slice A1_0 y1_0.length q1_0, .slice A2_0 y2_0.length q2_0, .slice A3_0 y3_0.length q3_0, .slice none 0 0, .int .i64 0, .slice none 0 0] 37 (0, 0)) := blk_below (blk_set B3.out 2 (.slice A3_0 y3_0.length q3_0)) hb; replace B3 := Aside0.mk B3_; clear B3_ c1 c3 z3; have n_ : Below w.heap.size w (W3.setCell ⟨w.heap.size + 1 + 1, 2, none⟩ (.slice A3_0 y3_0.length q3_0)) := (by repeat (first | exact HB.out | apply below_alloc | refine bSet ?_ (by omega))); replace HB := Aside0.mk (below_step n_ hb); clear n_; clear hb ho0; have c1 := blk_cell B1.out; have c3 := blk_cell B3.out; have z3 := blk_frozen B3.out) | (go_at_call 37; refine (laws_toCertS.calls k _ _ _ y5_0 _ (Kd.C_below HR0_5.out (by repeat (first | exact HB.out | apply below_alloc | refine bSet ?_ (by omega)))) HC0_5.out m5.out).mono ?_; rintro e W5 ⟨v0, rfl, ho0, hb⟩; obtain ⟨A5_0, q5_0, rfl⟩ := Kd.R_slice ho0; have O5_0 := Aside0.mk (R_above (base := w.heap.size) (n := w.heap.size + 1 + 1 + 1) ho0 (by have := blk_lt B3.out; simp; omega) (by have := blk_lt B3.out; simp; omega)); have n_ : Kd.S k110 110 ((W4.setCell ⟨w.heap.size + 1 + 1, 3, none⟩ (.slice A4_0 y4_0.length q4_0)).setCell ⟨w.heap.size + 1 + 1, 4, none⟩ (.int .i64 a0_4)) w.heap.size (fun k_ => w.heap.size + 1 + 1 + 1 ≤ k_) (.slice A1_0 y1_0.length q1_0) y1_0 := (by repeat (first | exact O1_0.out | refine Kd.S_far ?_ (fun k_ h_ => by have h2_ : w.heap.size + 1 + 1 + 1 ≤ k_ := h_; show _ ≠ _; simp; omega) _)); replace O1_0 := Aside0.mk (Kd.S_below n_ hb); clear n_; have n_ : Kd.R k117 117 ((W4.setCell ⟨w.heap.size + 1 + 1, 3, none⟩ (.slice A4_0 y4_0.length q4_0)).setCell ⟨w.heap.size + 1 + 1, 4, none⟩ (.int .i64 a0_4)) w.heap.size (fun k_ => w.heap.size + 1 + 1 + 1 ≤ k_) (.slice A2_0 y2_0.length q2_0) y2_0 := (by repeat (first | exact O2_0.out | refine Kd.R_far ?_ (fun k_ h_ => by have h2_ : w.heap.size + 1 + 1 + 1 ≤ k_ := h_; show _ ≠ _; simp; omega) _)); replace O2_0 := Aside0.mk (Kd.R_below n_ hb); clear n_; have n_ : Kd.R k53 53 ((W4.setCell ⟨w.heap.size + 1 + 1, 3, none⟩ (.slice A4_0 y4_0.length q4_0)).setCell ⟨w.heap.size + 1 + 1, 4, none⟩ (.int .i64 a0_4)) w.heap.size (fun k_ => w.heap.size + 1 + 1 + 1 ≤ k_) (.slice A3_0 y3_0.length q3_0) y3_0 := (by repeat (first | exact O3_0.out | refine Kd.R_far ?_ (fun k_ h_ => by have h2_ : w.heap.size + 1 + 1 + 1 ≤ k_ := h_; show _ ≠ _; simp; omega) _)); replace O3_0 := Aside0.mk (Kd.R_below n_ hb); clear n_; have n_ : Kd.R k121 121 ((W4.setCell ⟨w.heap.size + 1 + 1, 3, none⟩ (.slice A4_0 y4_0.length q4_0)).setCell ⟨w.heap.size + 1 + 1, 4, none⟩ (.int .i64 a0_4)) w.heap.size (fun k_ => w.heap.size + 1 + 1 + 1 ≤ k_) (.slice A4_0 y4_0.length q4_0) y4_0 := (by repeat (first | exact O4_0.out | refine Kd.R_far ?_ (fun k_ h_ => by have h2_ : w.heap.size + 1 + 1 + 1 ≤ k_ := h_; show _ ≠ _; simp; omega) _)); replace O4_0 := Aside0.mk (Kd.R_below n_ hb); clear n_; have n_ : ((W4.setCell ⟨w.heap.size + 1 + 1, 3, none⟩ (.slice A4_0 y4_0.length q4_0)).setCell ⟨w.heap.size + 1 + 1, 4, none⟩ (.int .i64 a0_4)).heap[w.heap.size]? = some (.cells #[.slice A0_0 l0_0.length c0_0, .slice A0_1 l0_1.length c0_1, .slice A0_2 l0_2.length c0_2, .slice A0_3 l0_3.length c0_3, .int .i64 a0_4, .slice A0_5 l0_5.length c0_5] 28 (0, 0)) := (by repeat (first | exact B1.out | refine blk_far ?_ (by simp <;> omega) _)); replace B1 := Aside0.mk (blk_below n_ hb); clear n_; have n_ : ((W4.setCell ⟨w.heap.size + 1 + 1, 3, none⟩ (.slice A4_0 y4_0.length q4_0)).setCell ⟨w.heap.size + 1 + 1, 4, none⟩ (.int .i64 a0_4)).heap[w.heap.size + 1]? = some (.cells #[.slice none 0 0, .slice none 0 0, .slice none 0 0, .slice none 0 0, .int .i64 0, .slice none 0 0] 37 (0, 0)) := (by repeat (first | exact B2.out | refine blk_far ?_ (by simp <;> omega) _)); replace B2 := Aside0.mk (blk_below n_ hb); clear n_; have B3_ : W5.heap[w.heap.size + 1 + 1]? = some (.cells #[.slice A1_0 y1_0.length q1_0, .slice A2_0 y2_0.length q2_0, .slice A3_0 y3_0.length q3_0, .slice A4_0 y4_0.length q4_0, .int .i64 a0_4, .slice none 0 0] 37 (0, 0)) := blk_below (blk_set (blk_set B3.out 3 (.slice A4_0 y4_0.length q4_0)) 4 (.int .i64 a0_4)) hb; replace B3 := Aside0.mk B3_; clear B3_ c1 c3 z3; have n_ : Below w.heap.size w ((W4.setCell ⟨w.heap.size + 1 + 1, 3, none⟩ (.slice A4_0 y4_0.length q4_0)).setCell ⟨w.heap.size + 1 + 1, 4, none⟩ (.int .i64 a0_4)) := (by repeat (first | exact HB.out | apply below_alloc | refine bSet ?_ (by omega))); replace HB := Aside0.mk (below_step n_ hb); clear n_; clear hb ho0; have c1 := blk_cell B1.out; have c3 := blk_cell B3.out; have z3 := blk_frozen B3.out))
 have E3 : (W5.setCell ⟨w.heap.size + 1 + 1, 5, none⟩ (.slice A5_0 y5_0.length q5_0)).heap[w.heap.size + 1 + 1]? = some (.cells #[.slice A1_0 y1_0.length q1_0, .slice A2_0 y2_0.length q2_0, .slice A3_0 y3_0.length q3_0, .slice A4_0 y4_0.length q4_0, .int .i64 a0_4, .slice A5_0 y5_0.length q5_0] 37 (0, 0)) := (blk_set B3.out 5 (.slice A5_0 y5_0.length q5_0))
 have E2 : (W5.setCell ⟨w.heap.size + 1 + 1, 5, none⟩ (.slice A5_0 y5_0.length q5_0)).heap[w.heap.size + 1]? = some (.cells #[.slice none 0 0, .slice none 0 0, .slice none 0 0, .slice none 0 0, .int .i64 0, .slice none 0 0] 37 (0, 0)) := (by repeat (first | exact B2.out | refine blk_far ?_ (by simp <;> omega) _))
 have EB : Below w.heap.size w (W5.setCell ⟨w.heap.size + 1 + 1, 5, none⟩ (.slice A5_0 y5_0.length q5_0)) := (by repeat (first | exact HB.out | apply below_alloc | refine bSet ?_ (by omega)))
 have EO1_0 : Kd.S k110 110 (W5.setCell ⟨w.heap.size + 1 + 1, 5, none⟩ (.slice A5_0 y5_0.length q5_0)) w.heap.size (fun k_ => w.heap.size + 1 + 1 + 1 ≤ k_) (.slice A1_0 y1_0.length q1_0) y1_0 := (by repeat (first | exact O1_0.out | refine Kd.S_far ?_ (fun k_ h_ => by have h2_ : w.heap.size + 1 + 1 + 1 ≤ k_ := h_; show _ ≠ _; simp; omega) _))
 have EO2_0 : Kd.R k117 117 (W5.setCell ⟨w.heap.size + 1 + 1, 5, none⟩ (.slice A5_0 y5_0.length q5_0)) w.heap.size (fun k_ => w.heap.size + 1 + 1 + 1 ≤ k_) (.slice A2_0 y2_0.length q2_0) y2_0 := (by repeat (first | exact O2_0.out | refine Kd.R_far ?_ (fun k_ h_ => by have h2_ : w.heap.size + 1 + 1 + 1 ≤ k_ := h_; show _ ≠ _; simp; omega) _))
 have EO3_0 : Kd.R k53 53 (W5.setCell ⟨w.heap.size + 1 + 1, 5, none⟩ (.slice A5_0 y5_0.length q5_0)) w.heap.size (fun k_ => w.heap.size + 1 + 1 + 1 ≤ k_) (.slice A3_0 y3_0.length q3_0) y3_0 := (by repeat (first | exact O3_0.out | refine Kd.R_far ?_ (fun k_ h_ => by have h2_ : w.heap.size + 1 + 1 + 1 ≤ k_ := h_; show _ ≠ _; simp; omega) _))
 have EO4_0 : Kd.R k121 121 (W5.setCell ⟨w.heap.size + 1 + 1, 5, none⟩ (.slice A5_0 y5_0.length q5_0)) w.heap.size (fun k_ => w.heap.size + 1 + 1 + 1 ≤ k_) (.slice A4_0 y4_0.length q4_0) y4_0 := (by repeat (first | exact O4_0.out | refine Kd.R_far ?_ (fun k_ h_ => by have h2_ : w.heap.size + 1 + 1 + 1 ≤ k_ := h_; show _ ≠ _; simp; omega) _))
 have EO5_0 : Kd.R k64 64 (W5.setCell ⟨w.heap.size + 1 + 1, 5, none⟩ (.slice A5_0 y5_0.length q5_0)) w.heap.size (fun k_ => w.heap.size + 1 + 1 + 1 ≤ k_) (.slice A5_0 y5_0.length q5_0) y5_0 := (by repeat (first | exact O5_0.out | refine Kd.R_far ?_ (fun k_ h_ => by have h2_ : w.heap.size + 1 + 1 + 1 ≤ k_ := h_; show _ ≠ _; simp; omega) _))
 clear c1 c3 z3 HB B1 B2 B3 O1_0 O2_0 O3_0 O4_0 O5_0
 generalize (W5.setCell ⟨w.heap.size + 1 + 1, 5, none⟩ (.slice A5_0 y5_0.length q5_0)) = Wf at E3 E2 EB EO1_0 EO2_0 EO3_0 EO4_0 EO5_0 ⊢
 have c3 := blk_cell E3; have c2 := blk_cell E2; have z2 := blk_frozen E2
 go_wp2
 have cf := blk_cell (blk_sets0 (rest := [.slice none 0 0, .slice none 0 0, .slice none 0 0, .slice none 0 0, .int .i64 0, .slice none 0 0]) E2 [.slice A1_0 y1_0.length q1_0, .slice A2_0 y2_0.length q2_0, .slice A3_0 y3_0.length q3_0, .slice A4_0 y4_0.length q4_0, .int .i64 a0_4, .slice A5_0 y5_0.length q5_0] rfl); simp only [World.setCells] at cf
 exact bodyPost_ret (v := .agg #[.slice A1_0 y1_0.length q1_0, .slice A2_0 y2_0.length q2_0, .slice A3_0 y3_0.length q3_0, .slice A4_0 y4_0.length q4_0, .int .i64 a0_4, .slice A5_0 y5_0.length q5_0]) (by simp [results, Tryz.results9, go_sem, cf]) rfl ⟨_, _, _, _, _, rfl, Kd.S_mono (S_sets (g := w.heap.size + 1) EO1_0 (fun k_ h_ => by have h2_ : w.heap.size + 1 + 1 + 1 ≤ k_ := h_; omega) [.slice A1_0 y1_0.length q1_0, .slice A2_0 y2_0.length q2_0, .slice A3_0 y3_0.length q3_0, .slice A4_0 y4_0.length q4_0, .int .i64 a0_4, .slice A5_0 y5_0.length q5_0] 0) (fun _ _ => trivial), Kd.R_mono (R_sets (g := w.heap.size + 1) EO2_0 (fun k_ h_ => by have h2_ : w.heap.size + 1 + 1 + 1 ≤ k_ := h_; omega) [.slice A1_0 y1_0.length q1_0, .slice A2_0 y2_0.length q2_0, .slice A3_0 y3_0.length q3_0, .slice A4_0 y4_0.length q4_0, .int .i64 a0_4, .slice A5_0 y5_0.length q5_0] 0) (fun _ _ => trivial), Kd.R_mono (R_sets (g := w.heap.size + 1) EO3_0 (fun k_ h_ => by have h2_ : w.heap.size + 1 + 1 + 1 ≤ k_ := h_; omega) [.slice A1_0 y1_0.length q1_0, .slice A2_0 y2_0.length q2_0, .slice A3_0 y3_0.length q3_0, .slice A4_0 y4_0.length q4_0, .int .i64 a0_4, .slice A5_0 y5_0.length q5_0] 0) (fun _ _ => trivial), Kd.R_mono (R_sets (g := w.heap.size + 1) EO4_0 (fun k_ h_ => by have h2_ : w.heap.size + 1 + 1 + 1 ≤ k_ := h_; omega) [.slice A1_0 y1_0.length q1_0, .slice A2_0 y2_0.length q2_0, .slice A3_0 y3_0.length q3_0, .slice A4_0 y4_0.length q4_0, .int .i64 a0_4, .slice A5_0 y5_0.length q5_0] 0) (fun _ _ => trivial), Kd.R_mono (R_sets (g := w.heap.size + 1) EO5_0 (fun k_ h_ => by have h2_ : w.heap.size + 1 + 1 + 1 ≤ k_ := h_; omega) [.slice A1_0 y1_0.length q1_0, .slice A2_0 y2_0.length q2_0, .slice A3_0 y3_0.length q3_0, .slice A4_0 y4_0.length q4_0, .int .i64 a0_4, .slice A5_0 y5_0.length q5_0] 0) (fun _ _ => trivial), below_sets (by omega) [.slice A1_0 y1_0.length q1_0, .slice A2_0 y2_0.length q2_0, .slice A3_0 y3_0.length q3_0, .slice A4_0 y4_0.length q4_0, .int .i64 a0_4, .slice A5_0 y5_0.length q5_0] 0 _ EB⟩

/-! ### impl_InRange: function 67 -/
def impl_InRange.f (a0 : Int) (a1 : Int) (a2 : Int) : Option (Bool) := if a1 ≤ a0 then (some (decide (a0 ≤ a2))) else (some false)
open Go.Proofs.YtineejdlpcgnkaaGreatM in
set_option maxHeartbeats 8000000 in
set_option maxRecDepth 100000 in
theorem impl_InRange.calls (a0 : Int) (a1 : Int) (a2 : Int) (r : Bool) (w : World) (h : impl_InRange.f a0 a1 a2 = some r) :
  Calls Tryz.prog 67 #[.int .i64 a0, .int .i64 a1, .int .i64 a2] w fun e w' => e = .returned (.bool r) ∧ Below w.heap.size w w' := by
 have HB := Aside0.mk (Below.refl w.heap.size w)
 have H := h
 clear h
 unfold impl_InRange.f at H
 go_enter Tryz.func67, Tryz.ntmps67
 replace H := ifD H; rcases H with ⟨c1, H⟩ | ⟨c1, H⟩
 ·have c1_0 := decT c1
  replace c1 := Aside0.mk c1
  first | rw [c1_0] | skip
  obtain rfl := Option.some.inj H
  clear H
  go_wp2
  go_ret
  exact ⟨rfl, HB.out⟩
 ·have c1_0 := decF c1
  replace c1 := Aside0.mk c1
  first | rw [c1_0] | skip
  obtain rfl := Option.some.inj H
  clear H
  go_wp2
  go_ret
  exact ⟨rfl, HB.out⟩

/-! ### impl_IsValidKey: function 44 -/
def impl_IsValidKey.f (a0 : Int) : Option (Bool) := (impl_InRange.f a0 1 2147483646).bind fun t586 => (some t586)
open Go.Proofs.YtineejdlpcgnkaaGreatM in
set_option maxHeartbeats 8000000 in
set_option maxRecDepth 100000 in
theorem impl_IsValidKey.calls (a0 : Int) (r : Bool) (w : World) (h : impl_IsValidKey.f a0 = some r) :
  Calls Tryz.prog 44 #[.int .i64 a0] w fun e w' => e = .returned (.bool r) ∧ Below w.heap.size w w' := by
 have HB := Aside0.mk (Below.refl w.heap.size w)
 have H := h
 clear h
 unfold impl_IsValidKey.f at H
 go_enter Tryz.func44, Tryz.ntmps44
 replace H := Option.bind_eq_some_iff.mp H
 obtain ⟨t586, hm, H⟩ := H
 try dsimp only at H
 replace H := Aside0.mk H
 have hcall := impl_InRange.calls _ _ _ _ w  hm
 clear hm
 go_wp2_with fail
 refine hcall.mono ?_
 rintro e W1 ⟨rfl, hb⟩
 clear hcall
 replace HB := bH HB hb; clear hb
 replace H := H.out
 obtain rfl := Option.some.inj H
 clear H
 go_wp2
 go_ret
 exact ⟨rfl, HB.out⟩

/-! ### impl_IsName: function 86 -/
def impl_IsName.f (a0 : Int) : Option (Bool) := (impl_InRange.f a0 10 49).bind fun t587 => (some t587)
open Go.Proofs.YtineejdlpcgnkaaGreatM in
set_option maxHeartbeats 8000000 in
set_option maxRecDepth 100000 in
theorem impl_IsName.calls (a0 : Int) (r : Bool) (w : World) (h : impl_IsName.f a0 = some r) :
  Calls Tryz.prog 86 #[.int .i64 a0] w fun e w' => e = .returned (.bool r) ∧ Below w.heap.size w w' := by
 have HB := Aside0.mk (Below.refl w.heap.size w)
 have H := h
 clear h
 unfold impl_IsName.f at H
 go_enter Tryz.func86, Tryz.ntmps86
 replace H := Option.bind_eq_some_iff.mp H
 obtain ⟨t587, hm, H⟩ := H
 try dsimp only at H
 replace H := Aside0.mk H
 have hcall := impl_InRange.calls _ _ _ _ w  hm
 clear hm
 go_wp2_with fail
 refine hcall.mono ?_
 rintro e W1 ⟨rfl, hb⟩
 clear hcall
 replace HB := bH HB hb; clear hb
 replace H := H.out
 obtain rfl := Option.some.inj H
 clear H
 go_wp2
 go_ret
 exact ⟨rfl, HB.out⟩

/-! ### impl_IsTime: function 87 -/
def impl_IsTime.f (a0 : Int) : Option (Bool) := (impl_InRange.f a0 0 10000).bind fun t588 => (some t588)
open Go.Proofs.YtineejdlpcgnkaaGreatM in
set_option maxHeartbeats 8000000 in
set_option maxRecDepth 100000 in
theorem impl_IsTime.calls (a0 : Int) (r : Bool) (w : World) (h : impl_IsTime.f a0 = some r) :
  Calls Tryz.prog 87 #[.int .i64 a0] w fun e w' => e = .returned (.bool r) ∧ Below w.heap.size w w' := by
 have HB := Aside0.mk (Below.refl w.heap.size w)
 have H := h
 clear h
 unfold impl_IsTime.f at H
 go_enter Tryz.func87, Tryz.ntmps87
 replace H := Option.bind_eq_some_iff.mp H
 obtain ⟨t588, hm, H⟩ := H
 try dsimp only at H
 replace H := Aside0.mk H
 have hcall := impl_InRange.calls _ _ _ _ w  hm
 clear hm
 go_wp2_with fail
 refine hcall.mono ?_
 rintro e W1 ⟨rfl, hb⟩
 clear hcall
 replace HB := bH HB hb; clear hb
 replace H := H.out
 obtain rfl := Option.some.inj H
 clear H
 go_wp2
 go_ret
 exact ⟨rfl, HB.out⟩

/-! ### impl_IsCert: function 38 -/
def impl_IsCert.f (a0_0 : Int) (a0_1 : Int) (a0_2 : Int) (a0_3 : Int) (a0_4 : Int) (a0_5 : Int) : Option (Bool) := (impl_InRange.f a0_0 1 9999).bind fun t590 => (if t590 = true then ((impl_IsName.f a0_1).bind fun t591 => (if t591 = true then ((impl_IsValidKey.f a0_2).bind fun t592 => (if t592 = true then ((impl_IsTime.f a0_3).bind fun t593 => (if t593 = true then ((impl_IsTime.f a0_4).bind fun t594 => (if t594 = true then ((impl_InRange.f (wrap64 (a0_4 - a0_3)) 0 50).bind fun t595 => (some t595)) else (some false))) else (some false))) else (some false))) else (some false))) else (some false))
open Go.Proofs.YtineejdlpcgnkaaGreatM in
set_option maxHeartbeats 8000000 in
set_option maxRecDepth 100000 in
theorem impl_IsCert.calls (a0_0 : Int) (a0_1 : Int) (a0_2 : Int) (a0_3 : Int) (a0_4 : Int) (a0_5 : Int) (r : Bool) (w : World) (h : impl_IsCert.f a0_0 a0_1 a0_2 a0_3 a0_4 a0_5 = some r) :
  Calls Tryz.prog 38 #[.agg #[.int .i64 a0_0, .int .i64 a0_1, .int .i64 a0_2, .int .i64 a0_3, .int .i64 a0_4, .int .i64 a0_5]] w fun e w' => e = .returned (.bool r) ∧ Below w.heap.size w w' := by
 have HB := Aside0.mk (Below.refl w.heap.size w)
 have H := h
 clear h
 unfold impl_IsCert.f at H
 have hu64 := Tryz.underlying64
 go_enter Tryz.func38, Tryz.ntmps38
 replace H := Aside0.mk H
 go_upto_region 1 with (first | ((with_reducible refine gate_dst (N := 1) rfl ?_); refine box_event ?hg (N := 1) ?hd (cs := #[.int .i64 a0_0, .int .i64 a0_1, .int .i64 a0_2, .int .i64 a0_3, .int .i64 a0_4, .int .i64 a0_5]) (t := 64) ?hr ?_; (case hd => rfl); (case hg => rfl); (case hr => first | (go_simp; done) | (go_simp; rfl)); intro gb1 hg W1 hbox hb; replace HB := bH HB hb; clear hb; have BK1 := Aside0.mk hbox; have c_BK1 := blk_cell hbox; have z_BK1 := blk_frozen hbox; clear hg hbox))
 replace H := H.out
 replace H := Option.bind_eq_some_iff.mp H
 obtain ⟨t590, hm, H⟩ := H
 try dsimp only at H
 replace H := Aside0.mk H
 have hcall := impl_InRange.calls _ _ _ _ W1  hm
 clear hm
 go_wp2_with fail
 refine hcall.mono ?_
 rintro e W2 ⟨rfl, hb⟩
 clear hcall
 replace BK1 := bK BK1 hb; replace c_BK1 := blk_cell BK1.out; replace z_BK1 := blk_frozen BK1.out
 replace HB := bH HB hb; clear hb
 replace H := H.out
 replace H := ifD H; rcases H with ⟨c3, H⟩ | ⟨c3, H⟩
 ·subst c3
  replace H := Option.bind_eq_some_iff.mp H
  obtain ⟨t591, hm, H⟩ := H
  try dsimp only at H
  replace H := Aside0.mk H
  have hcall := impl_IsName.calls _ _ W2  hm
  clear hm
  go_wp2_with fail
  refine hcall.mono ?_
  rintro e W4 ⟨rfl, hb⟩
  clear hcall
  replace BK1 := bK BK1 hb; replace c_BK1 := blk_cell BK1.out; replace z_BK1 := blk_frozen BK1.out
  replace HB := bH HB hb; clear hb
  replace H := H.out
  replace H := ifD H; rcases H with ⟨c5, H⟩ | ⟨c5, H⟩
  ·subst c5
   replace H := Option.bind_eq_some_iff.mp H
   obtain ⟨t592, hm, H⟩ := H
   try dsimp only at H
   replace H := Aside0.mk H
   have hcall := impl_IsValidKey.calls _ _ W4  hm
   clear hm
   go_wp2_with fail
   refine hcall.mono ?_
   rintro e W6 ⟨rfl, hb⟩
   clear hcall
   replace BK1 := bK BK1 hb; replace c_BK1 := blk_cell BK1.out; replace z_BK1 := blk_frozen BK1.out
   replace HB := bH HB hb; clear hb
   replace H := H.out
   replace H := ifD H; rcases H with ⟨c7, H⟩ | ⟨c7, H⟩
   ·subst c7
    replace H := Option.bind_eq_some_iff.mp H
    obtain ⟨t593, hm, H⟩ := H
    try dsimp only at H
    replace H := Aside0.mk H
    have hcall := impl_IsTime.calls _ _ W6  hm
    clear hm
    go_wp2_with fail
    refine hcall.mono ?_
    rintro e W8 ⟨rfl, hb⟩
    clear hcall
    replace BK1 := bK BK1 hb; replace c_BK1 := blk_cell BK1.out; replace z_BK1 := blk_frozen BK1.out
    replace HB := bH HB hb; clear hb
    replace H := H.out
    replace H := ifD H; rcases H with ⟨c9, H⟩ | ⟨c9, H⟩
    ·subst c9
     replace H := Option.bind_eq_some_iff.mp H
     obtain ⟨t594, hm, H⟩ := H
     try dsimp only at H
     replace H := Aside0.mk H
     have hcall := impl_IsTime.calls _ _ W8  hm
     clear hm
     go_wp2_with fail
     refine hcall.mono ?_
     rintro e W10 ⟨rfl, hb⟩
     clear hcall
     replace BK1 := bK BK1 hb; replace c_BK1 := blk_cell BK1.out; replace z_BK1 := blk_frozen BK1.out
     replace HB := bH HB hb; clear hb
     replace H := H.out
     replace H := ifD H; rcases H with ⟨c11, H⟩ | ⟨c11, H⟩
     ·subst c11
      replace H := Option.bind_eq_some_iff.mp H
      obtain ⟨t595, hm, H⟩ := H
      try dsimp only at H
      replace H := Aside0.mk H
      have hcall := impl_InRange.calls _ _ _ _ W10  hm
      clear hm
      go_wp2_with fail
      refine hcall.mono ?_
      rintro e W12 ⟨rfl, hb⟩
      clear hcall
      replace BK1 := bK BK1 hb; replace c_BK1 := blk_cell BK1.out; replace z_BK1 := blk_frozen BK1.out
      replace HB := bH HB hb; clear hb
      replace H := H.out
      obtain rfl := Option.some.inj H
      clear H
      go_wp2
      go_ret
      exact ⟨rfl, HB.out⟩
     ·replace c11 := (Bool.not_eq_true _).mp c11
      subst c11
      obtain rfl := Option.some.inj H
      clear H
      go_wp2
      go_ret
      exact ⟨rfl, HB.out⟩
    ·replace c9 := (Bool.not_eq_true _).mp c9
     subst c9
     obtain rfl := Option.some.inj H
     clear H
     go_wp2
     go_ret
     exact ⟨rfl, HB.out⟩
   ·replace c7 := (Bool.not_eq_true _).mp c7
    subst c7
    obtain rfl := Option.some.inj H
    clear H
    go_wp2
    go_ret
    exact ⟨rfl, HB.out⟩
  ·replace c5 := (Bool.not_eq_true _).mp c5
   subst c5
   obtain rfl := Option.some.inj H
   clear H
   go_wp2
   go_ret
   exact ⟨rfl, HB.out⟩
 ·replace c3 := (Bool.not_eq_true _).mp c3
  subst c3
  obtain rfl := Option.some.inj H
  clear H
  go_wp2
  go_ret
  exact ⟨rfl, HB.out⟩

/-! ### impl_Mod: function 162 -/
def impl_Mod.f (a0 : Int) (a1 : Int) : Option (Int) := (impl_InRange.f a1 1 1000000000000).bind fun t596 => (if t596 = true then (if a1 = 0 then (none) else (some (Int.tmod (wrap64 ((Int.tmod a0 a1) + a1)) a1))) else (some 0))
set_option maxHeartbeats 8000000 in
set_option maxRecDepth 100000 in
theorem impl_Mod.calls (a0 : Int) (a1 : Int) (r : Int) (w : World) (h : impl_Mod.f a0 a1 = some r) :
  Calls Tryz.prog 162 #[.int .i64 a0, .int .i64 a1] w fun e w' => e = .returned (.int .i64 r) ∧ Below w.heap.size w w' := by
 have HB := Aside0.mk (Below.refl w.heap.size w)
 have H : ((impl_InRange.f a1 1 1000000000000).bind fun t596 => (if t596 = true then (if a1 = 0 then (none) else (some (Int.tmod (wrap64 ((Int.tmod a0 a1) + a1)) a1))) else (some 0))) = some r := h
 clear h
 replace H := Option.bind_eq_some_iff.mp H
 obtain ⟨t596, A30, H⟩ := H
 replace H : (if t596 = true then (if a1 = 0 then (none) else (some (Int.tmod (wrap64 ((Int.tmod a0 a1) + a1)) a1))) else (some 0)) = some r := H
 have A3 := Aside0.mk A30
 clear A30
 by_cases c4 : t596 = true
 ·subst c4
  have H1 : (if a1 = 0 then (none) else (some (Int.tmod (wrap64 ((Int.tmod a0 a1) + a1)) a1))) = some r := by rw [if_pos rfl] at H; exact H
  clear H
  have H := H1
  clear H1
  replace H := ifD H; rcases H with ⟨c5, H⟩ | ⟨c5, H⟩
  ·exact absurd H (by simp)
  ·have c5b0 : (a1 == 0) = false := beq_eq_false_iff_ne.mpr c5
   have c5b1 : (a1 != 0) = true := bne_iff_ne.mpr c5
   obtain rfl := Option.some.inj H
   go_enter Tryz.func162, Tryz.ntmps162
   go_wp2_with (first | ((with_reducible refine gate_callee (f := 67) rfl ?_); refine goesL_ (some 6) rfl rfl Tryz.func67 (by kernel_rfl) rfl #[.int .i64 a1, .int .i64 1, .int .i64 1000000000000] rfl (by (try simp only [List.map_toArray, List.map_cons, List.map_nil]); first | done | rfl | (simp only [List.length_drop, List.length_take]; rfl)) ?_; (with_reducible refine (impl_InRange.calls a1 1 1000000000000 true _ A3.out).mono ?_); rintro e w6 ⟨rfl, hb⟩; refine ⟨_, rfl, ?_⟩; have n0_ := Aside0.mk (below_step (by repeat (first | (with_reducible first | exact HB.out | apply below_alloc | apply pw_below_drewN | apply below_drew1) | exact HB.out)) hb); clear HB; have HB := n0_; clear n0_; (try clear hb); (try clear hb2); (try clear hk); (try clear hi)))
   go_ret
   exact ⟨by first | rfl | (simp [errW_none, errW_some] <;> rfl) | (simp [*, errW_none, errW_some] <;> rfl), by repeat (first | (with_reducible first | exact HB.out | apply below_alloc | apply pw_below_drewN | apply below_drew1) | exact HB.out)⟩
 ·replace c4 := Bool.eq_false_iff.mpr c4
  subst c4
  have H1 : (some 0) = some r := by rw [if_neg (show ¬ (false = true) by decide)] at H; exact H
  clear H
  have H := H1
  clear H1
  obtain rfl := Option.some.inj H
  go_enter Tryz.func162, Tryz.ntmps162
  go_wp2_with (first | ((with_reducible refine gate_callee (f := 67) rfl ?_); refine goesL_ (some 6) rfl rfl Tryz.func67 (by kernel_rfl) rfl #[.int .i64 a1, .int .i64 1, .int .i64 1000000000000] rfl (by (try simp only [List.map_toArray, List.map_cons, List.map_nil]); first | done | rfl | (simp only [List.length_drop, List.length_take]; rfl)) ?_; (with_reducible refine (impl_InRange.calls a1 1 1000000000000 false _ A3.out).mono ?_); rintro e w7 ⟨rfl, hb⟩; refine ⟨_, rfl, ?_⟩; have n0_ := Aside0.mk (below_step (by repeat (first | (with_reducible first | exact HB.out | apply below_alloc | apply pw_below_drewN | apply below_drew1) | exact HB.out)) hb); clear HB; have HB := n0_; clear n0_; (try clear hb); (try clear hb2); (try clear hk); (try clear hi)))
  go_ret
  exact ⟨by first | rfl | (simp [errW_none, errW_some] <;> rfl) | (simp [*, errW_none, errW_some] <;> rfl), by repeat (first | (with_reducible first | exact HB.out | apply below_alloc | apply pw_below_drewN | apply below_drew1) | exact HB.out)⟩

/-! ### impl_Hash: function 132 -/
def impl_Hash.l0 : Nat → Int → List Int → Int → Int → Option (Int)
 | 0, _, _, _, _ => none
 | k + 1, x3, x6, x7, x8 => if x8 < x7 then (if 0 ≤ x8 then (if x8 < (x6.length : Int) then ((impl_Mod.f (rd x6 x8) 2147483647).bind fun t598 => (impl_Hash.l0 k (Int.tmod (wrap64 ((wrap64 ((wrap64 (x3 * 1000003)) + t598)) + 13)) 2147483647) x6 x7 (wrap64 (x8 + 1)))) else (none)) else (none)) else (some x3)
def impl_Hash.f (k : Nat) (l0 : List Int) : Option (Int) := impl_Hash.l0 k 11 l0 (l0.length : Int) 0
open Go.Proofs.YtineejdlpcgnkaaGreatM in
set_option maxHeartbeats 8000000 in
set_option maxRecDepth 100000 in
theorem impl_Hash.calls (k : Nat) (A0 : Option Addr) (c0 : Nat) (l0 : List Int) (r : Int) (w : World) (hr0 : Kd.C (Kd.int .i64) w A0 l0.length l0) (hc0 : l0.length ≤ c0) (h : impl_Hash.f k l0 = some r) :
  Calls Tryz.prog 132 #[.slice A0 l0.length c0] w fun e w' => e = .returned (.int .i64 r) ∧ Below w.heap.size w w' := by
 have HR0 := Aside0.mk hr0
 have HC0 := Aside0.mk hc0
 clear hr0 hc0
 have HB := Aside0.mk (Below.refl w.heap.size w)
 have H := h
 clear h
 unfold impl_Hash.f at H
 go_enter Tryz.func132, Tryz.ntmps132
 replace H := Aside0.mk H
 go_wp2
 go_loopg [3, 8] k (fun kq v3 v8 w' => ∃ (x3_1 : Int) (x8_1 : Int), v3 = .int .i64 x3_1 ∧ v8 = .int .i64 x8_1 ∧ Aside0 (impl_Hash.l0 kq x3_1 l0 (l0.length : Int) x8_1 = some r) ∧ Aside0 (kq ≤ k) ∧ Aside0 (Below w.heap.size w w'))
 case atStart => exact ⟨(11), (0), (by first | rfl | (simp; done) | (simp [*]; done)), (by first | rfl | (simp; done) | (simp [*]; done)), H, ⟨Nat.le_refl _⟩, HB⟩
 case round =>
  clear H HB 
  obtain ⟨x3_1, x8_1, rfl, rfl, HA, Hk1, HB⟩ := hrel
  cases gk with
  | zero => exact absurd HA.out (by simp [impl_Hash.l0])
  | succ k1 =>
   have H := HA.out
   clear HA
   simp only [impl_Hash.l0] at H
   replace H := ifD H; rcases H with ⟨c2, H⟩ | ⟨c2, H⟩
   ·have c2_0 := decT c2
    replace c2 := Aside0.mk c2
    first | rw [c2_0] | skip
    replace H := ifN H; obtain ⟨c3, H⟩ := H
    have c3_0 := decT c3
    replace c3 := Aside0.mk c3
    first | rw [c3_0] | skip
    replace H := ifN H; obtain ⟨c4, H⟩ := H
    have c4_0 := decT c4
    replace c4 := Aside0.mk c4
    first | rw [c4_0] | skip
    have p597 : 0 ≤ (x8_1 : Int) := (of_decide_eq_true (by assumption))
    have q597 : x8_1 < (l0.length : Int) := (of_decide_eq_true (by assumption))
    obtain ⟨ad597, e597, hx597_0⟩ := Kd.at_int HR0.out x8_1 p597 q597
    cases e597
    replace hx597_0 := Aside0.mk hx597_0
    have y597_0 := xC HB hx597_0
    have r597 := eq_true p597; have s597 := eq_true q597
    replace p597 := Aside0.mk p597; replace q597 := Aside0.mk q597
    replace H := Option.bind_eq_some_iff.mp H
    obtain ⟨t598, hm, H⟩ := H
    try dsimp only at H
    replace H := Aside0.mk H
    have hcall := impl_Mod.calls _ _ _ wr  hm
    clear hm
    go_wp2_with fail
    refine hcall.mono ?_
    rintro e W5 ⟨rfl, hb⟩
    clear hcall
    try clear y597_0
    replace HB := bH HB hb; clear hb
    go_wp2
    go_roundg k1
    case measure => have := Hk1.out; omega
    case rel => exact ⟨(Int.tmod (wrap64 ((wrap64 ((wrap64 (x3_1 * 1000003)) + t598)) + 13)) 2147483647), (wrap64 (x8_1 + 1)), (by first | rfl | (simp; done) | (simp [*]; done)), (by first | rfl | (simp; done) | (simp [*]; done)), H, ⟨by have := Hk1.out; omega⟩, HB⟩
   ·have c2_0 := decF c2
    replace c2 := Aside0.mk c2
    first | rw [c2_0] | skip
    obtain rfl := Option.some.inj H
    clear H
    go_wp2
    go_ret
    exact ⟨rfl, HB.out⟩

/-! ### slices_Grow_int_int: function 163 -/
def slices_Grow_int_int.f (l0 : List Int) (a1 : Int) : Option (List Int) := if l0 = [] then if 0 < a1 then if a1 < 2199023255552 then some [] else none else none else none
theorem slices_Grow_int_int.calls (P0_ : Nat → Prop) (u9000_ : Value) (l0 : List Int) (a1 : Int) (r : List Int) (w0 w : World) (hB : Below w0.heap.size w0 w) (ho0 : Kd.R (Kd.int .i64) 3 w w0.heap.size P0_ u9000_ l0) (h : slices_Grow_int_int.f l0 a1 = some r) :
  Calls Tryz.prog 163 #[.slice none 0 0, .int .i64 a1] w fun e w' => ∃ v0_ : Value, e = .returned (v0_) ∧ Kd.R (Kd.int .i64) 3 w' w0.heap.size (fun k_ => (P0_ k_ ∨ w.heap.size ≤ k_)) v0_ r ∧ Below w0.heap.size w0 w' ∧ Kept w w' (fun k_ => P0_ k_) := by
 unfold slices_Grow_int_int.f at h
 split at h
 case isFalse => cases h
 case isTrue hl =>
 split at h
 case isFalse => cases h
 case isTrue h0 =>
 split at h
 case isFalse => cases h
 case isTrue hb =>
 obtain rfl := Option.some.inj h
 clear h
 obtain ⟨n, rfl⟩ : ∃ n : Nat, a1 = (n : Int) := ⟨a1.toNat, by omega⟩
 obtain ⟨i0, hi0, he⟩ := Option.map_eq_some_iff.1 info3
 injection he with hz0 he
 injection he with hs0 hb0
 refine (Any8.slices_Grow_grow Tryz.growI i0 _ hi0 hz0 (by rw [hs0]; decide) none 0 0 n [] w (by omega) (by omega) (by rw [hb0]; omega) (by omega) (by simp) (fun _ => rfl) (fun a e => by cases e)).mono ?_
 rintro e w' ⟨rfl, rfl⟩
 refine ⟨_, rfl, ⟨fun k hk => .inr (by simp [Value.ownBlock] at hk; omega), [], ⟨by simp, .inr ⟨w.heap.size, _, _, rfl, hB.size, blk_new w.drew _, Nat.zero_le _, grownCap_le_maxLen _ _ _ _ (by unfold maxLen; omega), ?_, by simp⟩⟩, Reps.none _ _⟩, ?_, ?_⟩
 ·have h := grownCap_ge w (0 + n) 0 (Tryz.growI_ren.t 25)
  have e1 : (Kd.int .i64).sz = 1 := rfl
  have e2 : (Value.int .i64 0).cells.size = 1 := rfl
  rw [Nat.zero_add] at h
  simp [Builtin.zeroCells, e1, e2]
  omega
 ·exact below_alloc (below_drew1 hB) _
 ·exact Kept.alloc (Kept.drew (Kept.refl _ _)) _

/-! ### slices_Concat_int_int: function 133 -/
mutual
def slices_Concat_int_int.l0 : Nat → List (List Int) → Int → List (List Int) → Int → Int → Option (List Int)
 | 0, _, _, _, _, _ => none
 | k + 1, x0, x3, x9, x10, x11 => if x11 < x10 then (if 0 ≤ x11 then (if x11 < (x9.length : Int) then (if (wrap64 (x3 + ((rd_L1 x9 x11).length : Int))) < 0 then (none) else (slices_Concat_int_int.l0 k x0 (wrap64 (x3 + ((rd_L1 x9 x11).length : Int))) x9 x10 (wrap64 (x11 + 1)))) else (none)) else (none)) else ((slices_Grow_int_int.f ([] : List Int) x3).bind fun t600 => (slices_Concat_int_int.l1 k t600 x0 (x0.length : Int) 0))
def slices_Concat_int_int.l1 : Nat → List Int → List (List Int) → Int → Int → Option (List Int)
 | 0, _, _, _, _ => none
 | k + 1, x6, x25, x26, x27 => if x27 < x26 then (if 0 ≤ x27 then (if x27 < (x25.length : Int) then (if x6.length + (rd_L1 x25 x27).length < 17592186044416 then (slices_Concat_int_int.l1 k (x6 ++ (rd_L1 x25 x27)) x25 x26 (wrap64 (x27 + 1))) else (none)) else (none)) else (none)) else (some x6)
end
def slices_Concat_int_int.f (k : Nat) (l0 : List (List Int)) : Option (List Int) := slices_Concat_int_int.l0 k l0 0 l0 (l0.length : Int) 0
set_option maxHeartbeats 8000000 in
set_option maxRecDepth 100000 in
theorem slices_Concat_int_int.calls (k : Nat) (A0 : Option Addr) (c0 : Nat) (l0 : List (List Int)) (r : List Int) (w : World) (hr0 : Kd.C (Kd.slice 3 (Kd.int .i64)) w A0 l0.length l0) (hc0 : l0.length ≤ c0) (h : slices_Concat_int_int.f k l0 = some r) :
  Calls Tryz.prog 133 #[.slice A0 l0.length c0] w fun e w' => ∃ v0_ : Value, e = .returned (v0_) ∧ Kd.R (Kd.int .i64) 3 w' w.heap.size (fun _ => True) v0_ r ∧ Below w.heap.size w w' := by
 have HR0 := Aside0.mk hr0
 have HC0 := Aside0.mk hc0
 clear hr0 hc0
 have HB := Aside0.mk (Below.refl w.heap.size w)
 have H : (slices_Concat_int_int.l0 k l0 0 l0 (l0.length : Int) 0) = some r := h
 clear h
 have H' := Aside0.mk H
 clear H
 go_enter Tryz.func133, Tryz.ntmps133
 go_wp2
 go_loopg [3, 11] k (fun kq v3 v11 w' => ∃ (x3_1 : Int) (x11_1 : Int), v3 = .int .i64 x3_1 ∧ v11 = .int .i64 x11_1 ∧ Aside0 (slices_Concat_int_int.l0 kq l0 x3_1 l0 (l0.length : Int) x11_1 = some r) ∧ Aside0 (kq ≤ k) ∧ Aside0 (Below w.heap.size w w'))
 case atStart => exact ⟨(0), (0), (by first | rfl | (simp; done) | (simp [*]; done)), (by first | rfl | (simp; done) | (simp [*]; done)), H', ⟨Nat.le_refl _⟩, ⟨by repeat (first | (with_reducible first | exact HB.out | apply below_alloc | apply pw_below_drewN | apply below_drew1) | exact HB.out)⟩⟩
 case round =>
  clear H'
  try clear c1
  obtain ⟨x3_1, x11_1, rfl, rfl, HA, HK1, HB⟩ := hrel
  cases gk with
  | zero => exact absurd HA.out (by simp [slices_Concat_int_int.l0])
  | succ k1 =>
   have H := HA.out
   clear HA
   simp only [slices_Concat_int_int.l0] at H
   replace H := ifD H; rcases H with ⟨c2, H⟩ | ⟨c2, H⟩
   ·have c2b0 : decide (x11_1 < (l0.length : Int)) = true := decide_eq_true c2
    clear c2
    replace H := ifN H; obtain ⟨c3, H⟩ := H
    have c3b0 : decide (0 ≤ x11_1) = true := decide_eq_true c3
    clear c3
    replace H := ifN H; obtain ⟨c4, H⟩ := H
    have c4b0 : decide (x11_1 < (l0.length : Int)) = true := decide_eq_true c4
    clear c4
    replace H := ifD H; rcases H with ⟨c5, H⟩ | ⟨c5, H⟩
    ·exact absurd H (by simp)
    ·have c5b0 : decide ((wrap64 (x3_1 + ((rd_L1 l0 x11_1).length : Int))) < 0) = false := decide_eq_false c5
     clear c5
     have H' := Aside0.mk H
     clear H
     have p599 : 0 ≤ (x11_1 : Int) := of_decide_eq_true (by first | (with_reducible assumption) | assumption)
     have q599 : x11_1 < (l0.length : Int) := of_decide_eq_true (by first | (with_reducible assumption) | assumption)
     obtain ⟨ad599, A599_0, c599_0, e599, hx599_0, hl599_0, hi599_0⟩ := at_L1 HR0.out x11_1 p599 q599
     cases e599
     replace hx599_0 := (HB.out.cell (World.block_lt_of_cell? w _ hx599_0)).trans hx599_0
     have HR599_0 := Aside0.mk hi599_0
     have HC599_0 := Aside0.mk hl599_0
     clear hi599_0 hl599_0
     replace p599 := eq_true p599
     replace q599 := eq_true q599
     go_wp2
     go_roundg k1
     case measure => have := HK1.out; omega
     case rel => exact ⟨(wrap64 (x3_1 + ((rd_L1 l0 x11_1).length : Int))), (wrap64 (x11_1 + 1)), (by first | rfl | (simp; done) | (simp [*]; done)), (by first | rfl | (simp; done) | (simp [*]; done)), H', ⟨by have := HK1.out; omega⟩, ⟨by repeat (first | (with_reducible first | exact HB.out | apply below_alloc | apply pw_below_drewN | apply below_drew1) | exact HB.out)⟩⟩
   ·have c2b0 : decide (x11_1 < (l0.length : Int)) = false := decide_eq_false c2
    clear c2
    replace H := Option.bind_eq_some_iff.mp H
    obtain ⟨t600, A60, H⟩ := H
    replace H : (slices_Concat_int_int.l1 k1 t600 l0 (l0.length : Int) 0) = some r := H
    have A6 := Aside0.mk A60
    clear A60
    have H' := Aside0.mk H
    clear H
    go_wp2_with (first | ((with_reducible refine gate_callee (f := 163) rfl ?_); refine goesL_ (some 24) rfl rfl Tryz.func163 (by kernel_rfl) rfl #[.slice none 0 0, .int .i64 x3_1] rfl (by (try simp only [List.map_toArray, List.map_cons, List.map_nil]); first | done | rfl | (simp only [List.length_drop, List.length_take]; rfl)) ?_; (refine (slices_Grow_int_int.calls (fun k_ => some k_ = (.slice none 0 0 : Value).ownBlock) (.slice none 0 0) ([] : List Int) x3_1 t600 w _ ?side1 ?side2 A6.out).mono ?_); (case side1 => repeat (first | (with_reducible first | exact HB.out | apply below_alloc | apply pw_below_drewN | apply below_drew1) | exact HB.out)); (case side2 => exact Kd.R_nil _ _ _ _ _); rintro e w7 ⟨v601, rfl, ho0, hb, hkp⟩; refine ⟨_, rfl, ?_⟩; have n0_ := Aside0.mk (Kd.R_mono (ok' := fun k_ => True) ho0 (fun k_ hk_ => trivial)); have n1_ := Aside0.mk (hb); clear HB; have HO602 := n0_; have HB := n1_; clear n0_ n1_; (try clear hb); (try clear hkp); (try clear ho0)))
    go_loopg [6, 27] k1 (fun kq v6 v27 w' => ∃ (x6_2 : List Int) (x27_2 : Int), v27 = .int .i64 x27_2 ∧ Aside0 (slices_Concat_int_int.l1 kq x6_2 l0 (l0.length : Int) x27_2 = some r) ∧ Aside0 (kq ≤ k1) ∧ Aside0 (Kd.R (Kd.int .i64) 3 w' w.heap.size (fun _ => True) v6 x6_2) ∧ Aside0 (Below w.heap.size w w'))
    case atStart => exact ⟨(t600), (0), (by first | rfl | (simp; done) | (simp [*]; done)), H', ⟨Nat.le_refl _⟩, ⟨by (with_reducible repeat (first | apply Kd.R_alloc | apply Kd.R_drewN | apply Kd.R_drew)); exact HO602.out⟩, ⟨by repeat (first | (with_reducible first | exact HB.out | apply below_alloc | apply pw_below_drewN | apply below_drew1) | exact HB.out)⟩⟩
    case round =>
     clear H'
     try clear c1
     try clear c2
     try clear c2b0
     try clear p2
     try clear c3
     try clear c3b0
     try clear c4
     try clear c4b0
     try clear c5
     try clear c5b0
     try clear p5
     try clear q5
     try clear hx5
     try clear p6
     try clear hx599_0
     try clear p599
     try clear q599
     obtain ⟨x6_2, x27_2, rfl, HA, HK2, HO_6, HB⟩ := hrel
     cases gk with
     | zero => exact absurd HA.out (by simp [slices_Concat_int_int.l1])
     | succ k2 =>
      have H := HA.out
      clear HA
      simp only [slices_Concat_int_int.l1] at H
      replace H := ifD H; rcases H with ⟨c8, H⟩ | ⟨c8, H⟩
      ·have c8b0 : decide (x27_2 < (l0.length : Int)) = true := decide_eq_true c8
       clear c8
       replace H := ifN H; obtain ⟨c9, H⟩ := H
       have c9b0 : decide (0 ≤ x27_2) = true := decide_eq_true c9
       clear c9
       replace H := ifN H; obtain ⟨c10, H⟩ := H
       have c10b0 : decide (x27_2 < (l0.length : Int)) = true := decide_eq_true c10
       clear c10
       replace H := ifN H; obtain ⟨c11, H⟩ := H
       have LMc11 := Aside0.mk c11
       clear c11
       obtain ⟨y604, hy604⟩ : ∃ y_ : List Int, y_ = (x6_2 ++ (rd_L1 l0 x27_2)) := ⟨_, rfl⟩
       replace H : (slices_Concat_int_int.l1 k2 y604 l0 (l0.length : Int) (wrap64 (x27_2 + 1))) = some r := by first | (rw [hy604]; with_reducible exact H) | (have H2_ := (Option.bind_some _ _).symm.trans H; rw [hy604]; with_reducible exact H2_) | (have H2_ := (Option.bind_some _ _).symm.trans H; with_reducible exact H2_) | with_reducible exact H | (rw [hy604]; exact H) | exact H
       have Ny604 := Aside0.mk hy604
       clear hy604
       have H' := Aside0.mk H
       clear H
       have p603 : 0 ≤ (x27_2 : Int) := of_decide_eq_true (by first | (with_reducible assumption) | assumption)
       have q603 : x27_2 < (l0.length : Int) := of_decide_eq_true (by first | (with_reducible assumption) | assumption)
       obtain ⟨ad603, A603_0, c603_0, e603, hx603_0, hl603_0, hi603_0⟩ := at_L1 HR0.out x27_2 p603 q603
       cases e603
       replace hx603_0 := (HB.out.cell (World.block_lt_of_cell? w _ hx603_0)).trans hx603_0
       have HR603_0 := Aside0.mk hi603_0
       have HC603_0 := Aside0.mk hl603_0
       clear hi603_0 hl603_0
       replace p603 := eq_true p603
       replace q603 := eq_true q603
       go_wp2_with (first | ((with_reducible refine gate_builtin (b := .append) (xs := #[.tmp 31, .tmp 32]) rfl ?_); at_builtin; refine Kd.R_append_rows (Kd.int .i64) (w0 := w) w.heap.size rfl (.tmp 31) (.tmp 32) 98 3 (.int .i64 0) 8 rfl Tryz.underlying98 info3 rfl (by decide) (by omega) u6 x6_2 (rd_L1 l0 x27_2) _ _ _ (fun _ => True) (fun _ => False) rfl rfl ?aO ?aR (fun _ _ h => h) (fun _ h => h.elim) ?aF ?aB ?aS ?aL ?_; (case aR => repeat (first | exact (Kd.C_below HR603_0.out HB.out) | (with_reducible refine Kd.C_alloc ?_ _) | (with_reducible refine Kd.C_drewN ?_ _) | (with_reducible refine Kd.C_drew ?_))); (case aB => exact (by repeat (first | (with_reducible first | exact HB.out | apply below_alloc | apply pw_below_drewN | apply below_drew1) | exact HB.out))); (case aF => exact (fun _ _ => trivial)); (case aO => exact (by (with_reducible repeat (first | apply Kd.R_alloc | apply Kd.R_drewN | apply Kd.R_drew)); exact HO_6.out)); (case aS => exact (below_size (by repeat (first | (with_reducible first | exact HB.out | apply below_alloc | apply pw_below_drewN | apply below_drew1) | exact HB.out)))); (case aL => have := LMc11.out; omega); intro v605 w12 ho hb hg hat; rw [← Ny604.out] at ho; have n0_ := Aside0.mk (hb); have n1_ := Aside0.mk (ho); clear HB; clear HO_6; have HB := n0_; have HO606 := n1_; clear n0_ n1_; clear ho hb hg hat))
       go_roundg k2
       case measure => have := HK1.out; have := HK2.out; omega
       case rel => exact ⟨(y604), (wrap64 (x27_2 + 1)), (by first | rfl | (simp; done) | (simp [*]; done)), H', ⟨by have := HK1.out; have := HK2.out; omega⟩, ⟨by (with_reducible repeat (first | apply Kd.R_alloc | apply Kd.R_drewN | apply Kd.R_drew)); exact HO606.out⟩, ⟨by repeat (first | (with_reducible first | exact HB.out | apply below_alloc | apply pw_below_drewN | apply below_drew1) | exact HB.out)⟩⟩
      ·have c8b0 : decide (x27_2 < (l0.length : Int)) = false := decide_eq_false c8
       clear c8
       obtain rfl := Option.some.inj H
       go_wp2
       go_ret
       exact ⟨_, by first | rfl | (simp [errW_none, errW_some] <;> rfl) | (simp [*, errW_none, errW_some] <;> rfl), by (with_reducible repeat (first | apply Kd.R_alloc | apply Kd.R_drewN | apply Kd.R_drew)); exact HO_6.out, by repeat (first | (with_reducible first | exact HB.out | apply below_alloc | apply pw_below_drewN | apply below_drew1) | exact HB.out)⟩

/-! ### impl_KeyedHash: function 88 -/
def impl_KeyedHash.f (k : Nat) (a0 : Int) (l1 : List Int) : Option (Int) := (slices_Concat_int_int.f k (([(([a0] : List Int)), l1, (([a0] : List Int))] : List (List Int)))).bind fun t616 => ((impl_Hash.f k t616).bind fun t619 => (some t619))
set_option maxHeartbeats 8000000 in
set_option maxRecDepth 100000 in
theorem impl_KeyedHash.calls (k : Nat) (a0 : Int) (P1_ : Nat → Prop) (A1 : Option Addr) (c1 : Nat) (l1 : List Int) (r : Int) (w : World) (hs1 : Kd.V (Kd.int .i64) 3 w w.heap.size (fun k_ => P1_ k_) (.slice A1 l1.length c1) l1) (h : impl_KeyedHash.f k a0 l1 = some r) :
  Calls Tryz.prog 88 #[.int .i64 a0, .slice A1 l1.length c1] w fun e w' => e = .returned (.int .i64 r) ∧ Below w.heap.size w w' := by
 have HO1 := Aside0.mk (show Kd.V (Kd.int .i64) 3 w w.heap.size (fun k_ => (P1_ k_ ∨ w.heap.size ≤ k_)) (.slice A1 l1.length c1) l1 from Kd.V_mono hs1 (fun k_ hk => .inl hk))
 have HB := Aside0.mk (Below.refl w.heap.size w)
 have H : ((slices_Concat_int_int.f k (([(([a0] : List Int)), l1, (([a0] : List Int))] : List (List Int)))).bind fun t616 => ((impl_Hash.f k t616).bind fun t619 => (some t619))) = some r := h
 clear h
 obtain ⟨y607, hy607⟩ : ∃ y_ : List Int, y_ = (([a0] : List Int)) := ⟨_, rfl⟩
 replace H : ((slices_Concat_int_int.f k (([y607, l1, (([a0] : List Int))] : List (List Int)))).bind fun t616 => ((impl_Hash.f k t616).bind fun t619 => (some t619))) = some r := by first | (rw [hy607]; with_reducible exact H) | (have H2_ := (Option.bind_some _ _).symm.trans H; rw [hy607]; with_reducible exact H2_) | (have H2_ := (Option.bind_some _ _).symm.trans H; with_reducible exact H2_) | with_reducible exact H | (rw [hy607]; exact H) | exact H
 have Ny607 := Aside0.mk hy607
 clear hy607
 obtain ⟨y610, hy610⟩ : ∃ y_ : List Int, y_ = (([a0] : List Int)) := ⟨_, rfl⟩
 replace H : ((slices_Concat_int_int.f k (([y607, l1, y610] : List (List Int)))).bind fun t616 => ((impl_Hash.f k t616).bind fun t619 => (some t619))) = some r := by first | (rw [hy610]; with_reducible exact H) | (have H2_ := (Option.bind_some _ _).symm.trans H; rw [hy610]; with_reducible exact H2_) | (have H2_ := (Option.bind_some _ _).symm.trans H; with_reducible exact H2_) | with_reducible exact H | (rw [hy610]; exact H) | exact H
 have Ny610 := Aside0.mk hy610
 clear hy610
 obtain ⟨y613, hy613⟩ : ∃ y_ : List (List Int), y_ = (([y607, l1, y610] : List (List Int))) := ⟨_, rfl⟩
 replace H : ((slices_Concat_int_int.f k y613).bind fun t616 => ((impl_Hash.f k t616).bind fun t619 => (some t619))) = some r := by first | (rw [hy613]; with_reducible exact H) | (have H2_ := (Option.bind_some _ _).symm.trans H; rw [hy613]; with_reducible exact H2_) | (have H2_ := (Option.bind_some _ _).symm.trans H; with_reducible exact H2_) | with_reducible exact H | (rw [hy613]; exact H) | exact H
 have Ny613 := Aside0.mk hy613
 clear hy613
 replace H := Option.bind_eq_some_iff.mp H
 obtain ⟨t616, A30, H⟩ := H
 replace H : ((impl_Hash.f k t616).bind fun t619 => (some t619)) = some r := H
 have A3 := Aside0.mk A30
 clear A30
 replace H := Option.bind_eq_some_iff.mp H
 obtain ⟨t619, A40, H⟩ := H
 replace H : (some t619) = some r := H
 have A4 := Aside0.mk A40
 clear A40
 obtain rfl := Option.some.inj H
 go_enter Tryz.func88, Tryz.ntmps88
 go_wp2_with (first | ((with_reducible refine gate_dst (N := 6) rfl ?_); refine Kd.R_lit (Kd.int .i64) _ 3 ?hg (N := 6) ?hd (xs := ([a0] : List Int)) (inner := [.int .i64 a0]) (ok := fun _ => True) (okp := fun _ => True) ?hr ?hp (fun _ hk => hk) trivial (Below.refl _ _) (Nat.le_refl _) (by simp) ?_; (case hd => rfl); (case hg => rfl); (case hr => first | (go_simp; done) | (go_simp; rfl)); (case hp => exact (Reps.one (show Kd.M (Kd.int .i64) _ _ _ a0 [.int .i64 a0] from rfl) (Reps.none _ _))); intro v608 w5 ho6 hb hg_ hnew_; clear hg_ hnew_; (first | rw [← Ny607.out] at ho6 | (simp only [Int.reduceToNat] at ho6; rw [← Ny607.out] at ho6)); have n0_ := Aside0.mk (Kd.V_elder' (by (with_reducible repeat (first | apply Kd.V_alloc | apply Kd.V_drewN | apply Kd.V_drew)); exact HO1.out) (Kd.R_base ho6) hb); have n1_ := Aside0.mk (Kd.R_lower (Kd.R_newM (M := fun k_ => (w.heap.size ≤ k_)) ho6 (below_size (by repeat (first | (with_reducible first | exact HB.out | apply below_alloc | apply pw_below_drewN | apply below_drew1) | exact HB.out))) (fun k_ h_ => h_)) (below_size (by repeat (first | (with_reducible first | exact HB.out | apply below_alloc | apply pw_below_drewN | apply below_drew1) | exact HB.out)))); have n2_ := Aside0.mk (below_step (by repeat (first | (with_reducible first | exact HB.out | apply below_alloc | apply pw_below_drewN | apply below_drew1) | exact HB.out)) hb); clear HO1; clear HB; have HO1 := n0_; have HO609 := n1_; have HB := n2_; clear n0_ n1_ n2_; clear hb ho6) | ((with_reducible refine gate_dst (N := 9) rfl ?_); refine Kd.R_lit (Kd.int .i64) _ 3 ?hg (N := 9) ?hd (xs := ([a0] : List Int)) (inner := [.int .i64 a0]) (ok := fun _ => True) (okp := fun _ => True) ?hr ?hp (fun _ hk => hk) trivial (Below.refl _ _) (Nat.le_refl _) (by simp) ?_; (case hd => rfl); (case hg => rfl); (case hr => first | (go_simp; done) | (go_simp; rfl)); (case hp => exact (Reps.one (show Kd.M (Kd.int .i64) _ _ _ a0 [.int .i64 a0] from rfl) (Reps.none _ _))); intro v611 w7 ho8 hb hg_ hnew_; clear hg_ hnew_; (first | rw [← Ny610.out] at ho8 | (simp only [Int.reduceToNat] at ho8; rw [← Ny610.out] at ho8)); have n0_ := Aside0.mk (Kd.V_elder' (by (with_reducible repeat (first | apply Kd.V_alloc | apply Kd.V_drewN | apply Kd.V_drew)); exact HO1.out) (Kd.R_base ho8) hb); have n1_ := Aside0.mk (Kd.R_elder' (by (with_reducible repeat (first | apply Kd.R_alloc | apply Kd.R_drewN | apply Kd.R_drew)); exact HO609.out) (Kd.R_base ho8) hb); have n2_ := Aside0.mk (Kd.R_lower (Kd.R_new' (Kd.R_newM (M := fun k_ => (w.heap.size ≤ k_)) ho8 (below_size (by repeat (first | (with_reducible first | exact HB.out | apply below_alloc | apply pw_below_drewN | apply below_drew1) | exact HB.out))) (fun k_ h_ => h_)) (Kd.R_lt (by (with_reducible repeat (first | apply Kd.R_alloc | apply Kd.R_drewN | apply Kd.R_drew)); exact HO609.out))) (below_size (by repeat (first | (with_reducible first | exact HB.out | apply below_alloc | apply pw_below_drewN | apply below_drew1) | exact HB.out)))); have n3_ := Aside0.mk (below_step (by repeat (first | (with_reducible first | exact HB.out | apply below_alloc | apply pw_below_drewN | apply below_drew1) | exact HB.out)) hb); clear HO1; clear HO609; clear HB; have HO1 := n0_; have HO609 := n1_; have HO612 := n2_; have HB := n3_; clear n0_ n1_ n2_ n3_; clear hb ho8; obtain ⟨Ao9, co9, eo9⟩ := Kd.R_slice HO609.out; subst eo9; obtain ⟨Ao10, co10, eo10⟩ := Kd.R_slice HO612.out; subst eo10) | ((with_reducible refine gate_dst (N := 10) rfl ?_); refine Kd.N_lit (Kd.slice 3 (Kd.int .i64)) _ 98 ?hg (N' := 10) ?hd (xs := ([y607, l1, y610] : List (List Int))) (inner := [.slice Ao9 y607.length co9, .slice A1 l1.length c1, .slice Ao10 y610.length co10]) (ok := (fun k_ => (P1_ k_ ∨ w.heap.size ≤ k_))) (okp := (fun k_ => (P1_ k_ ∨ w.heap.size ≤ k_))) ?hr ?hp (fun _ hk => hk) ((show ∀ k_, w7.heap.size ≤ k_ → (fun k_ => (P1_ k_ ∨ w.heap.size ≤ k_)) k_ from fun k_ hk => (.inr (Nat.le_trans (below_size (by repeat (first | (with_reducible first | exact HB.out | apply below_alloc | apply pw_below_drewN | apply below_drew1) | exact HB.out))) hk))) _ (Nat.le_refl _)) (Below.refl _ _) (Nat.le_refl _) (by simp) ?_; (case hd => rfl); (case hg => rfl); (case hr => first | (go_simp; done) | (go_simp; rfl)); (case hp => exact (Reps.one (show Kd.FK (Kd.slice 3 (Kd.int .i64)) _ _ y607 [.slice Ao9 y607.length co9] from (Kd.FK_slice_mk (Kd.R_reads' (Kd.R_mono (ok' := (fun k_ => (P1_ k_ ∨ w.heap.size ≤ k_))) (HO609.out) (fun k_ hk => (.inr (hk.1.1))))).2.1 (Kd.R_F (Kd.R_mono (ok' := (fun k_ => (P1_ k_ ∨ w.heap.size ≤ k_))) (HO609.out) (fun k_ hk => (.inr (hk.1.1))))))) (Reps.one (show Kd.FK (Kd.slice 3 (Kd.int .i64)) _ _ l1 [.slice A1 l1.length c1] from (Kd.FK_slice_mk (Kd.V_reads' (Kd.V_mono (ok' := (fun k_ => (P1_ k_ ∨ w.heap.size ≤ k_))) (HO1.out) (fun k_ hk => hk.1.1))).2.1 (Kd.V_F (Kd.V_mono (ok' := (fun k_ => (P1_ k_ ∨ w.heap.size ≤ k_))) (HO1.out) (fun k_ hk => hk.1.1))))) (Reps.one (show Kd.FK (Kd.slice 3 (Kd.int .i64)) _ _ y610 [.slice Ao10 y610.length co10] from (Kd.FK_slice_mk (Kd.R_reads' (Kd.R_mono (ok' := (fun k_ => (P1_ k_ ∨ w.heap.size ≤ k_))) (HO612.out) (fun k_ hk => (.inr (hk.1.1))))).2.1 (Kd.R_F (Kd.R_mono (ok' := (fun k_ => (P1_ k_ ∨ w.heap.size ≤ k_))) (HO612.out) (fun k_ hk => (.inr (hk.1.1))))))) (Reps.none _ _))))); intro v614 w11 ho12 hb hg_ hnew_; clear hg_ hnew_; (first | rw [← Ny613.out] at ho12 | (simp only [Int.reduceToNat] at ho12; rw [← Ny613.out] at ho12)); have n0_ := Aside0.mk (Kd.V_elder' (by (with_reducible repeat (first | apply Kd.V_alloc | apply Kd.V_drewN | apply Kd.V_drew)); exact HO1.out) (Kd.N_base ho12) hb); have n1_ := Aside0.mk (Kd.N_lower ho12 (below_size (by repeat (first | (with_reducible first | exact HB.out | apply below_alloc | apply pw_below_drewN | apply below_drew1) | exact HB.out)))); have n2_ := Aside0.mk (below_step (by repeat (first | (with_reducible first | exact HB.out | apply below_alloc | apply pw_below_drewN | apply below_drew1) | exact HB.out)) hb); clear HO1; clear HB; clear HO609; clear HO612; have HO1 := n0_; have HO615 := n1_; have HB := n2_; clear n0_ n1_ n2_; clear hb ho12; obtain ⟨Ao13, co13, eo13⟩ := Kd.N_slice HO615.out; subst eo13) | ((with_reducible refine gate_callee (f := 133) rfl ?_); refine goesL_ (some 11) rfl rfl Tryz.func133 (by kernel_rfl) rfl #[.slice Ao13 y613.length co13] rfl (by (try simp only [List.map_toArray, List.map_cons, List.map_nil]); first | done | rfl | (simp only [List.length_drop, List.length_take]; rfl)) ?_; (with_reducible refine (slices_Concat_int_int.calls k _ _ y613 t616 _ ?side1 ?side2 A3.out).mono ?_); (case side1 => repeat (first | exact (Kd.N_reads' HO615.out).2.2 | (with_reducible refine Kd.C_alloc ?_ _) | (with_reducible refine Kd.C_drewN ?_ _) | (with_reducible refine Kd.C_drew ?_))); (case side2 => exact (Kd.N_reads' HO615.out).2.1); rintro e w14 ⟨v617, rfl, ho0, hb⟩; refine ⟨_, rfl, ?_⟩; have n0_ := Aside0.mk (Kd.V_elder' (by (with_reducible repeat (first | apply Kd.V_alloc | apply Kd.V_drewN | apply Kd.V_drew)); exact HO1.out) (Kd.R_base ho0) hb); have n1_ := Aside0.mk (Kd.N_elder' (by (with_reducible repeat (first | apply Kd.N_alloc | apply Kd.N_drewN | apply Kd.N_drew)); exact HO615.out) (Kd.R_base ho0) hb); have n2_ := Aside0.mk (Kd.R_lower (Kd.R_newM (M := fun k_ => (w.heap.size ≤ k_)) ho0 (below_size (by repeat (first | (with_reducible first | exact HB.out | apply below_alloc | apply pw_below_drewN | apply below_drew1) | exact HB.out))) (fun k_ h_ => h_)) (below_size (by repeat (first | (with_reducible first | exact HB.out | apply below_alloc | apply pw_below_drewN | apply below_drew1) | exact HB.out)))); have n3_ := Aside0.mk (below_step (by repeat (first | (with_reducible first | exact HB.out | apply below_alloc | apply pw_below_drewN | apply below_drew1) | exact HB.out)) hb); clear HO1; clear HO615; clear HB; have HO1 := n0_; have HO615 := n1_; have HO618 := n2_; have HB := n3_; clear n0_ n1_ n2_ n3_; (try clear hb); (try clear hb2); (try clear hk); (try clear hi); (try clear ho0); obtain ⟨Ao15, co15, eo15⟩ := Kd.R_slice HO618.out; subst eo15) | ((with_reducible refine gate_callee (f := 132) rfl ?_); refine goesL_ (some 12) rfl rfl Tryz.func132 (by kernel_rfl) rfl #[.slice Ao15 t616.length co15] rfl (by (try simp only [List.map_toArray, List.map_cons, List.map_nil]); first | done | rfl | (simp only [List.length_drop, List.length_take]; rfl)) ?_; (with_reducible refine (impl_Hash.calls k _ _ t616 t619 _ ?side1 ?side2 A4.out).mono ?_); (case side1 => repeat (first | exact (Kd.R_reads' HO618.out).2.2 | (with_reducible refine Kd.C_alloc ?_ _) | (with_reducible refine Kd.C_drewN ?_ _) | (with_reducible refine Kd.C_drew ?_))); (case side2 => exact (Kd.R_reads' HO618.out).2.1); rintro e w16 ⟨rfl, hb⟩; refine ⟨_, rfl, ?_⟩; have n0_ := Aside0.mk (Kd.V_below (by (with_reducible repeat (first | apply Kd.V_alloc | apply Kd.V_drewN | apply Kd.V_drew)); exact HO1.out) hb); have n1_ := Aside0.mk (Kd.N_below (by (with_reducible repeat (first | apply Kd.N_alloc | apply Kd.N_drewN | apply Kd.N_drew)); exact HO615.out) hb); have n2_ := Aside0.mk (Kd.R_below (by (with_reducible repeat (first | apply Kd.R_alloc | apply Kd.R_drewN | apply Kd.R_drew)); exact HO618.out) hb); have n3_ := Aside0.mk (below_step (by repeat (first | (with_reducible first | exact HB.out | apply below_alloc | apply pw_below_drewN | apply below_drew1) | exact HB.out)) hb); clear HO1; clear HO615; clear HO618; clear HB; have HO1 := n0_; have HO615 := n1_; have HO618 := n2_; have HB := n3_; clear n0_ n1_ n2_ n3_; (try clear hb); (try clear hb2); (try clear hk); (try clear hi)))
 go_ret
 exact ⟨by first | rfl | (simp [errW_none, errW_some] <;> rfl) | (simp [*, errW_none, errW_some] <;> rfl), by repeat (first | (with_reducible first | exact HB.out | apply below_alloc | apply pw_below_drewN | apply below_drew1) | exact HB.out)⟩

/-! ### impl_MarkCert: function 39 -/
def impl_MarkCert.f (k : Nat) (a0 : Int) (a1_0 : Int) (a1_1 : Int) (a1_2 : Int) (a1_3 : Int) (a1_4 : Int) (a1_5 : Int) : Option (Int × Int × Int × Int × Int × Int) := (impl_KeyedHash.f k a0 (([a1_0, a1_1, a1_2, a1_3, a1_4] : List Int))).bind fun t625 => (some (a1_0, a1_1, a1_2, a1_3, a1_4, t625))
set_option maxHeartbeats 8000000 in
set_option maxRecDepth 100000 in
theorem impl_MarkCert.calls (k : Nat) (a0 : Int) (a1_0 : Int) (a1_1 : Int) (a1_2 : Int) (a1_3 : Int) (a1_4 : Int) (a1_5 : Int) (r1 : Int) (r2 : Int) (r3 : Int) (r4 : Int) (r5 : Int) (r6 : Int) (w : World) (h : impl_MarkCert.f k a0 a1_0 a1_1 a1_2 a1_3 a1_4 a1_5 = some (r1, r2, r3, r4, r5, r6)) :
  Calls Tryz.prog 39 #[.int .i64 a0, .agg #[.int .i64 a1_0, .int .i64 a1_1, .int .i64 a1_2, .int .i64 a1_3, .int .i64 a1_4, .int .i64 a1_5]] w fun e w' => e = .returned (.agg #[.int .i64 r1, .int .i64 r2, .int .i64 r3, .int .i64 r4, .int .i64 r5, .int .i64 r6]) ∧ Below w.heap.size w w' := by
 have hu64 := Tryz.underlying64
 have HB := Aside0.mk (Below.refl w.heap.size w)
 have H : ((impl_KeyedHash.f k a0 (([a1_0, a1_1, a1_2, a1_3, a1_4] : List Int))).bind fun t625 => (some (a1_0, a1_1, a1_2, a1_3, a1_4, t625))) = some (r1, r2, r3, r4, r5, r6) := h
 clear h
 obtain ⟨y622, hy622⟩ : ∃ y_ : List Int, y_ = (([a1_0, a1_1, a1_2, a1_3, a1_4] : List Int)) := ⟨_, rfl⟩
 replace H : ((impl_KeyedHash.f k a0 y622).bind fun t625 => (some (a1_0, a1_1, a1_2, a1_3, a1_4, t625))) = some (r1, r2, r3, r4, r5, r6) := by first | (rw [hy622]; with_reducible exact H) | (have H2_ := (Option.bind_some _ _).symm.trans H; rw [hy622]; with_reducible exact H2_) | (have H2_ := (Option.bind_some _ _).symm.trans H; with_reducible exact H2_) | with_reducible exact H | (rw [hy622]; exact H) | exact H
 have Ny622 := Aside0.mk hy622
 clear hy622
 replace H := Option.bind_eq_some_iff.mp H
 obtain ⟨t625, A30, H⟩ := H
 replace H : (some (a1_0, a1_1, a1_2, a1_3, a1_4, t625)) = some (r1, r2, r3, r4, r5, r6) := H
 have A3 := Aside0.mk A30
 clear A30
 simp only [Option.some.injEq, Prod.mk.injEq] at H
 obtain ⟨rfl, rfl, rfl, rfl, rfl, rfl⟩ := H
 go_enter Tryz.func39, Tryz.ntmps39
 go_wp2_with (first | ((with_reducible refine gate_dst (N := 3) rfl ?_); refine box_event ?hg (N := 3) ?hd (cs := #[.int .i64 a1_0, .int .i64 a1_1, .int .i64 a1_2, .int .i64 a1_3, .int .i64 a1_4, .int .i64 a1_5]) (t := 64) ?hr ?_; (case hd => rfl); (case hg => rfl); (case hr => first | (go_simp; done) | (go_simp; rfl)); intro gb620 hg w4 hbox hb; have n0_ := Aside0.mk (below_step (by repeat (first | (with_reducible first | exact HB.out | apply below_alloc | apply pw_below_drewN | apply below_drew1) | exact HB.out)) hb); have n1_ := Aside0.mk (hbox); have n2_ := Aside0.mk ((by rw [hg]; exact (below_size (by repeat (first | (with_reducible first | exact HB.out | apply below_alloc | apply pw_below_drewN | apply below_drew1) | exact HB.out))) : w.heap.size ≤ gb620)); have n3_ := Aside0.mk ((by rw [hg]; exact (below_size (by repeat (first | (with_reducible first | exact HB.out | apply below_alloc | apply pw_below_drewN | apply below_drew1) | exact HB.out))) : w.heap.size ≤ gb620)); clear HB; have HB := n0_; have BK620 := n1_; have GW620 := n2_; have GE620 := n3_; clear n0_ n1_ n2_ n3_; clear hb hbox hg) | ((with_reducible refine gate_dst (N := 4) rfl ?_); refine box_event ?hg (N := 4) ?hd (cs := #[.int .i64 0, .int .i64 0, .int .i64 0, .int .i64 0, .int .i64 0, .int .i64 0]) (t := 64) ?hr ?_; (case hd => rfl); (case hg => rfl); (case hr => first | (go_simp; done) | (go_simp; rfl)); intro gb621 hg w5 hbox hb; have n0_ := Aside0.mk (blk_below (g := gb620) (o := .cells #[.int .i64 a1_0, .int .i64 a1_1, .int .i64 a1_2, .int .i64 a1_3, .int .i64 a1_4, .int .i64 a1_5] 64 (0, 0)) (by (with_reducible repeat (first | refine blk_drewN ?_ _ | refine blk_drew ?_ | refine blk_alloc ?_ _)); exact BK620.out) hb); have n1_ := Aside0.mk (below_step (by repeat (first | (with_reducible first | exact HB.out | apply below_alloc | apply pw_below_drewN | apply below_drew1 | refine below_set ?_ GE620.out) | exact HB.out)) hb); have n2_ := Aside0.mk (hbox); have n3_ := Aside0.mk ((by rw [hg]; exact (below_size (by repeat (first | (with_reducible first | exact HB.out | apply below_alloc | apply pw_below_drewN | apply below_drew1 | refine below_set ?_ GE620.out) | exact HB.out))) : w.heap.size ≤ gb621)); have n4_ := Aside0.mk ((by rw [hg]; exact (below_size (by repeat (first | (with_reducible first | exact HB.out | apply below_alloc | apply pw_below_drewN | apply below_drew1 | refine below_set ?_ GE620.out) | exact HB.out))) : w.heap.size ≤ gb621)); have n5_ := Aside0.mk ((by rw [hg]; exact Nat.ne_of_lt (blk_lt (g := gb620) (o := .cells #[.int .i64 a1_0, .int .i64 a1_1, .int .i64 a1_2, .int .i64 a1_3, .int .i64 a1_4, .int .i64 a1_5] 64 (0, 0)) (by (with_reducible repeat (first | refine blk_drewN ?_ _ | refine blk_drew ?_ | refine blk_alloc ?_ _)); exact BK620.out)) : gb620 ≠ gb621)); have n6_ := Aside0.mk ((by rw [hg]; exact Nat.ne_of_gt (blk_lt (g := gb620) (o := .cells #[.int .i64 a1_0, .int .i64 a1_1, .int .i64 a1_2, .int .i64 a1_3, .int .i64 a1_4, .int .i64 a1_5] 64 (0, 0)) (by (with_reducible repeat (first | refine blk_drewN ?_ _ | refine blk_drew ?_ | refine blk_alloc ?_ _)); exact BK620.out)) : gb621 ≠ gb620)); clear BK620; clear HB; have BK620 := n0_; have HB := n1_; have BK621 := n2_; have GW621 := n3_; have GE621 := n4_; have NB620_621 := n5_; have NB621_620 := n6_; clear n0_ n1_ n2_ n3_ n4_ n5_ n6_; clear hb hbox hg; have hnb6 := NB620_621.out; have hnc6 := NB621_620.out; have hcz7_0 : w5.cell? ⟨gb620, 0, none⟩ = some (.int .i64 a1_0) := (blk_cell BK620.out 0).trans rfl; have hcz7_1 : w5.cell? ⟨gb620, 1, none⟩ = some (.int .i64 a1_1) := (blk_cell BK620.out 1).trans rfl; have hcz7_2 : w5.cell? ⟨gb620, 2, none⟩ = some (.int .i64 a1_2) := (blk_cell BK620.out 2).trans rfl; have hcz7_3 : w5.cell? ⟨gb620, 3, none⟩ = some (.int .i64 a1_3) := (blk_cell BK620.out 3).trans rfl; have hcz7_4 : w5.cell? ⟨gb620, 4, none⟩ = some (.int .i64 a1_4) := (blk_cell BK620.out 4).trans rfl; have hcz7_5 : w5.cell? ⟨gb620, 5, none⟩ = some (.int .i64 a1_5) := (blk_cell BK620.out 5).trans rfl; have hfz7_0 := blk_frozen BK620.out 0; have hfz7_1 := blk_frozen BK620.out 1; have hfz7_2 := blk_frozen BK620.out 2; have hfz7_3 := blk_frozen BK620.out 3; have hfz7_4 := blk_frozen BK620.out 4; have hfz7_5 := blk_frozen BK620.out 5) | ((with_reducible refine gate_dst (N := 16) rfl ?_); refine Kd.R_lit (Kd.int .i64) _ 3 ?hg (N := 16) ?hd (xs := ([a1_0, a1_1, a1_2, a1_3, a1_4] : List Int)) (inner := [.int .i64 a1_0, .int .i64 a1_1, .int .i64 a1_2, .int .i64 a1_3, .int .i64 a1_4]) (ok := fun _ => True) (okp := fun _ => True) ?hr ?hp (fun _ hk => hk) trivial (Below.refl _ _) (Nat.le_refl _) (by simp) ?_; (case hd => rfl); (case hg => rfl); (case hr => first | (go_simp; done) | (go_simp; rfl)); (case hp => exact (Reps.one (show Kd.M (Kd.int .i64) _ _ _ a1_0 [.int .i64 a1_0] from rfl) (Reps.one (show Kd.M (Kd.int .i64) _ _ _ a1_1 [.int .i64 a1_1] from rfl) (Reps.one (show Kd.M (Kd.int .i64) _ _ _ a1_2 [.int .i64 a1_2] from rfl) (Reps.one (show Kd.M (Kd.int .i64) _ _ _ a1_3 [.int .i64 a1_3] from rfl) (Reps.one (show Kd.M (Kd.int .i64) _ _ _ a1_4 [.int .i64 a1_4] from rfl) (Reps.none _ _))))))); intro v623 w8 ho9 hb hg_ hnew_; clear hg_ hnew_; (first | rw [← Ny622.out] at ho9 | (simp only [Int.reduceToNat] at ho9; rw [← Ny622.out] at ho9)); have n0_ := Aside0.mk (Kd.R_lower ho9 (below_size (by repeat (first | (with_reducible first | exact HB.out | apply below_alloc | apply pw_below_drewN | apply below_drew1 | refine below_set ?_ GE620.out | refine below_set ?_ GE621.out) | exact HB.out)))); have n1_ := Aside0.mk (blk_below (g := gb620) (o := .cells #[.int .i64 a1_0, .int .i64 a1_1, .int .i64 a1_2, .int .i64 a1_3, .int .i64 a1_4, .int .i64 a1_5] 64 (0, 0)) (by (with_reducible repeat (first | refine blk_drewN ?_ _ | refine blk_drew ?_ | refine blk_alloc ?_ _)); exact BK620.out) hb); have n2_ := Aside0.mk (blk_below (g := gb621) (o := .cells #[.int .i64 0, .int .i64 0, .int .i64 0, .int .i64 0, .int .i64 0, .int .i64 0] 64 (0, 0)) (by (with_reducible repeat (first | refine blk_drewN ?_ _ | refine blk_drew ?_ | refine blk_alloc ?_ _)); exact BK621.out) hb); have n3_ := Aside0.mk (below_step (by repeat (first | (with_reducible first | exact HB.out | apply below_alloc | apply pw_below_drewN | apply below_drew1 | refine below_set ?_ GE620.out | refine below_set ?_ GE621.out) | exact HB.out)) hb); clear BK620; clear BK621; clear HB; have HO624 := n0_; have BK620 := n1_; have BK621 := n2_; have HB := n3_; clear n0_ n1_ n2_ n3_; clear hb ho9; obtain ⟨Ao10, co10, eo10⟩ := Kd.R_slice HO624.out; subst eo10) | ((with_reducible refine gate_callee (f := 88) rfl ?_); refine goesL_ (some 17) rfl rfl Tryz.func88 (by kernel_rfl) rfl #[.int .i64 a0, .slice Ao10 y622.length co10] rfl (by (try simp only [List.map_toArray, List.map_cons, List.map_nil]); first | done | rfl | (simp only [List.length_drop, List.length_take]; rfl)) ?_; (with_reducible refine (impl_KeyedHash.calls k a0 (fun k_ => some k_ = (.slice Ao10 y622.length co10 : Value).ownBlock) _ _ y622 t625 _ ?side1 A3.out).mono ?_); (case side1 => exact Kd.R_V (Kd.R_tight rfl (Kd.R_types (Kd.R_types (HO624.out) BK620.out (by decide)) BK621.out (by decide)))); rintro e w11 ⟨rfl, hb⟩; refine ⟨_, rfl, ?_⟩; have n0_ := Aside0.mk (Kd.R_below (by (with_reducible repeat (first | apply Kd.R_alloc | apply Kd.R_drewN | apply Kd.R_drew)); exact HO624.out) hb); have n1_ := Aside0.mk (blk_below (g := gb620) (o := .cells #[.int .i64 a1_0, .int .i64 a1_1, .int .i64 a1_2, .int .i64 a1_3, .int .i64 a1_4, .int .i64 a1_5] 64 (0, 0)) (by (with_reducible repeat (first | refine blk_drewN ?_ _ | refine blk_drew ?_ | refine blk_alloc ?_ _)); exact BK620.out) hb); have n2_ := Aside0.mk (blk_below (g := gb621) (o := .cells #[.int .i64 0, .int .i64 0, .int .i64 0, .int .i64 0, .int .i64 0, .int .i64 0] 64 (0, 0)) (by (with_reducible repeat (first | refine blk_drewN ?_ _ | refine blk_drew ?_ | refine blk_alloc ?_ _)); exact BK621.out) hb); have n3_ := Aside0.mk (below_step (by repeat (first | (with_reducible first | exact HB.out | apply below_alloc | apply pw_below_drewN | apply below_drew1 | refine below_set ?_ GE620.out | refine below_set ?_ GE621.out) | exact HB.out)) hb); clear HO624; clear BK620; clear BK621; clear HB; have HO624 := n0_; have BK620 := n1_; have BK621 := n2_; have HB := n3_; clear n0_ n1_ n2_ n3_; (try clear hb); (try clear hb2); (try clear hk); (try clear hi); have hcz12_0 : w11.cell? ⟨gb620, 0, none⟩ = some (.int .i64 a1_0) := (blk_cell BK620.out 0).trans rfl; have hcz12_1 : w11.cell? ⟨gb620, 1, none⟩ = some (.int .i64 a1_1) := (blk_cell BK620.out 1).trans rfl; have hcz12_2 : w11.cell? ⟨gb620, 2, none⟩ = some (.int .i64 a1_2) := (blk_cell BK620.out 2).trans rfl; have hcz12_3 : w11.cell? ⟨gb620, 3, none⟩ = some (.int .i64 a1_3) := (blk_cell BK620.out 3).trans rfl; have hcz12_4 : w11.cell? ⟨gb620, 4, none⟩ = some (.int .i64 a1_4) := (blk_cell BK620.out 4).trans rfl; have hcz12_5 : w11.cell? ⟨gb620, 5, none⟩ = some (.int .i64 a1_5) := (blk_cell BK620.out 5).trans rfl; have hfz12_0 := blk_frozen BK620.out 0; have hfz12_1 := blk_frozen BK620.out 1; have hfz12_2 := blk_frozen BK620.out 2; have hfz12_3 := blk_frozen BK620.out 3; have hfz12_4 := blk_frozen BK620.out 4; have hfz12_5 := blk_frozen BK620.out 5; have hcz13_0 : w11.cell? ⟨gb621, 0, none⟩ = some (.int .i64 0) := (blk_cell BK621.out 0).trans rfl; have hcz13_1 : w11.cell? ⟨gb621, 1, none⟩ = some (.int .i64 0) := (blk_cell BK621.out 1).trans rfl; have hcz13_2 : w11.cell? ⟨gb621, 2, none⟩ = some (.int .i64 0) := (blk_cell BK621.out 2).trans rfl; have hcz13_3 : w11.cell? ⟨gb621, 3, none⟩ = some (.int .i64 0) := (blk_cell BK621.out 3).trans rfl; have hcz13_4 : w11.cell? ⟨gb621, 4, none⟩ = some (.int .i64 0) := (blk_cell BK621.out 4).trans rfl; have hcz13_5 : w11.cell? ⟨gb621, 5, none⟩ = some (.int .i64 0) := (blk_cell BK621.out 5).trans rfl; have hfz13_0 := blk_frozen BK621.out 0; have hfz13_1 := blk_frozen BK621.out 1; have hfz13_2 := blk_frozen BK621.out 2; have hfz13_3 := blk_frozen BK621.out 3; have hfz13_4 := blk_frozen BK621.out 4; have hfz13_5 := blk_frozen BK621.out 5))
 refine bodyPost_ret (results_cell_row rfl _ _ gb621 64 #[.int .i64 a1_0, .int .i64 a1_1, .int .i64 a1_2, .int .i64 a1_3, .int .i64 a1_4, .int .i64 t625] (0, 0) _ rfl (by (with_reducible repeat (first | refine blk_drewN ?_ _ | refine blk_drew ?_ | refine blk_alloc ?_ _)); refine blk_put (cs := #[.int .i64 a1_0, .int .i64 a1_1, .int .i64 a1_2, .int .i64 a1_3, .int .i64 a1_4, .int .i64 0]) ?_ 5 _ rfl; (with_reducible repeat (first | refine blk_drewN ?_ _ | refine blk_drew ?_ | refine blk_alloc ?_ _)); refine blk_put (cs := #[.int .i64 a1_0, .int .i64 a1_1, .int .i64 a1_2, .int .i64 a1_3, .int .i64 0, .int .i64 0]) ?_ 4 _ rfl; (with_reducible repeat (first | refine blk_drewN ?_ _ | refine blk_drew ?_ | refine blk_alloc ?_ _)); refine blk_put (cs := #[.int .i64 a1_0, .int .i64 a1_1, .int .i64 a1_2, .int .i64 0, .int .i64 0, .int .i64 0]) ?_ 3 _ rfl; (with_reducible repeat (first | refine blk_drewN ?_ _ | refine blk_drew ?_ | refine blk_alloc ?_ _)); refine blk_put (cs := #[.int .i64 a1_0, .int .i64 a1_1, .int .i64 0, .int .i64 0, .int .i64 0, .int .i64 0]) ?_ 2 _ rfl; (with_reducible repeat (first | refine blk_drewN ?_ _ | refine blk_drew ?_ | refine blk_alloc ?_ _)); refine blk_put (cs := #[.int .i64 a1_0, .int .i64 0, .int .i64 0, .int .i64 0, .int .i64 0, .int .i64 0]) ?_ 1 _ rfl; (with_reducible repeat (first | refine blk_drewN ?_ _ | refine blk_drew ?_ | refine blk_alloc ?_ _)); refine blk_put (cs := #[.int .i64 0, .int .i64 0, .int .i64 0, .int .i64 0, .int .i64 0, .int .i64 0]) ?_ 0 _ rfl; (with_reducible repeat (first | refine blk_drewN ?_ _ | refine blk_drew ?_ | refine blk_alloc ?_ _)); refine blk_far ?_ NB621_620.out _; (with_reducible repeat (first | refine blk_drewN ?_ _ | refine blk_drew ?_ | refine blk_alloc ?_ _)); exact BK621.out) Tryz.underlying64 rfl (by kernel_rfl)) rfl ?_
 exact ⟨by first | rfl | (simp [errW_none, errW_some] <;> rfl) | (simp [*, errW_none, errW_some] <;> rfl), by repeat (first | (with_reducible first | exact HB.out | apply below_alloc | apply pw_below_drewN | apply below_drew1 | refine below_set ?_ GE620.out | refine below_set ?_ GE621.out) | exact HB.out)⟩

end Go.Proofs.YtineejdlpcgnkaaGreat.QFnExactIsCenter
