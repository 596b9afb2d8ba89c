/- The machine side of FnExactIsCenter: what each function that it reaches computes, and that the machine's call gives just that. -/
import Derived.Test.YtineejdlpcgnkaaGreatQFnExactIsCenterx0
import Derived.Test.YtineejdlpcgnkaaGreatQFnExactIsCenterx9
import Derived.Test.YtineejdlpcgnkaaGreatQFnExactIsCenterx10
import Derived.Test.YtineejdlpcgnkaaGreatQFnExactIsCenterx11
import Derived.Test.YtineejdlpcgnkaaGreatQFnExactIsCenterx12
namespace Go.Proofs.YtineejdlpcgnkaaGreat.QFnExactIsCenter
open Go.RowKit Go.Proofs.YtineejdlpcgnkaaGreatW.PrintWords Go.Proofs.YtineejdlpcgnkaaGreatW.PrintLast Go.Proofs.YtineejdlpcgnkaaGreatW.PrintMore
attribute [local go_sem] max2_int min2_int max_two min_two max_three min_three max_four min_four   -- for this text's walks alone
set_option linter.unusedVariables false
set_option linter.unusedSimpArgs false

-- impl_areNodes_1: told where areNodes is

/-! ### ixf205: function 205 -/
set_option maxHeartbeats 8000000 in
set_option maxRecDepth 100000 in
open Go.Proofs.YtineejdlpcgnkaaGreatH in
theorem ixf205.calls (g : Nat) (lb : Array Value) (eg : ∀ args w, (callFunc g args).run Tryz.prog w = .ok (.enter g args) w) (p : S164 → Option Bool) (A0 : Option Addr) (c0 : Nat) (l0 : List S164) (r : Int) (w : World)
  (hp : ∀ (W : World) (x : S164) (E3 : Option Addr) (d3 : Nat) (b : Bool), Below w.heap.size w W → (x).f3.length ≤ d3 → Kd.C k164 W E3 (x).f3.length ((x).f3) → p x = some b → Calls Tryz.prog g (#[.agg #[.int .i64 ((x).f0), .int .i64 ((x).f1), .int .i64 ((x).f2), .slice E3 (x).f3.length d3]] ++ lb) W fun e w' => e = .returned (.bool b) ∧ Below w.heap.size w w')
  (hr0 : Kd.C k164 w A0 l0.length l0) (hc0 : l0.length ≤ c0) (h : idxO p l0 0 = some r) :
  Calls Tryz.prog 205 #[.slice A0 l0.length c0, .func (.func g) #[] lb] w fun e w' => e = .returned (.int .i64 r) ∧ Below w.heap.size w w' := by
 have hu164 := Tryz.underlying164
 have HLEN : Aside0 (l0.length ≤ 9223372036854775807) := ⟨hr0.2.1⟩
 have HR0 := Aside0.mk hr0
 have HC0 := Aside0.mk hc0
 have HP := Aside0.mk hp
 have H' := Aside0.mk (show idxO p (l0.drop (0 : Int).toNat) 0 = some r from h)
 clear hr0 hc0 h hp
 go_enter Tryz.func205, Tryz.ntmps205
 go_wp2
 go_loopg [5, 8] l0.length (fun gg _ v8 wr => ∃ x : Int, v8 = .int .i64 x ∧ Aside0 (0 ≤ x ∧ x ≤ l0.length ∧ l0.length - x.toNat ≤ gg) ∧ Aside0 (Below w.heap.size w wr) ∧ Aside0 (idxO p (l0.drop x.toNat) x = some r))
 case atStart => exact ⟨0, rfl, ⟨by omega, by omega, by omega⟩, ⟨Below.refl _ w⟩, H'⟩
 case round =>
  clear H'
  obtain ⟨x, rfl, HX, BW, HA⟩ := hrel
  by_cases hlt : x < (l0.length : Int)
  ·have c2b0 : decide (x < (l0.length : Int)) = true := decide_eq_true hlt
   have p1 : 0 ≤ x := HX.out.1
   have q1 : x < (l0.length : Int) := hlt
   obtain ⟨b, hb, ht, hf⟩ := idxO_at (z := z164) HA.out p1 q1
   have HB := Aside0.mk hb
   have HQ := Aside0.mk hlt
   clear hb HA
   obtain ⟨ad, E3, d3, e0, hx0, hx1, hx2, hx3, hl3, hg3⟩ := at_T164 (Kd.C_below HR0.out BW.out) x p1 q1
   cases e0
   have hcall := HP.out wr (rd_T164 l0 x) E3 d3 b BW.out hl3 hg3 HB.out
   have p1' := eq_true p1
   have q1' := eq_true q1
   clear p1 q1 hlt hl3 hg3
   cases b with
   | true =>
    have HT := Aside0.mk (ht rfl)
    clear ht hf
    go_wp2_with fail
    refine hcall.mono ?_
    rintro e w' ⟨rfl, hb'⟩
    clear hcall hx0 hx1 hx2 hx3 eg HP HB
    go_wp2
    go_ret
    exact ⟨by rw [HT.out]; rfl, hb'⟩
   | false =>
    have HF := Aside0.mk (hf rfl)
    clear ht hf
    go_wp2_with fail
    refine hcall.mono ?_
    rintro e w' ⟨rfl, hb'⟩
    clear hcall hx0 hx1 hx2 hx3 eg HP HB
    go_wp2
    have he : wrap64 (x + 1) = x + 1 := wrap_up HX.out.1 HQ.out HLEN.out
    go_roundg (l0.length - (x + 1).toNat)
    case measure => have := HX.out; have := HQ.out; omega
    case rel =>
     refine ⟨x + 1, ?_, ⟨by have := HX.out; omega, by have := HQ.out; omega, Nat.le_refl _⟩, ⟨hb'⟩, HF⟩
     simp [he]
  ·have c2b0 : decide (x < (l0.length : Int)) = false := decide_eq_false hlt
   have HN := Aside0.mk hlt
   clear hlt
   go_wp2
   go_ret
   exact ⟨by rw [← idxO_end HA.out HX.out.2.1 (by have := HN.out; omega)]; rfl, BW.out⟩

/-! ### ctf200: function 200 -/
set_option maxHeartbeats 8000000 in
set_option maxRecDepth 100000 in
open Go.Proofs.YtineejdlpcgnkaaGreatH in
theorem ctf200.calls (g : Nat) (lb : Array Value) (eg : ∀ args w, (callFunc g args).run Tryz.prog w = .ok (.enter g args) w) (p : S164 → Option Bool) (A0 : Option Addr) (c0 : Nat) (l0 : List S164) (r : Int) (w : World)
  (hp : ∀ (W : World) (x : S164) (E3 : Option Addr) (d3 : Nat) (b : Bool), Below w.heap.size w W → (x).f3.length ≤ d3 → Kd.C k164 W E3 (x).f3.length ((x).f3) → p x = some b → Calls Tryz.prog g (#[.agg #[.int .i64 ((x).f0), .int .i64 ((x).f1), .int .i64 ((x).f2), .slice E3 (x).f3.length d3]] ++ lb) W fun e w' => e = .returned (.bool b) ∧ Below w.heap.size w w')
  (hr0 : Kd.C k164 w A0 l0.length l0) (hc0 : l0.length ≤ c0) (h : idxO p l0 0 = some r) :
  Calls Tryz.prog 200 #[.slice A0 l0.length c0, .func (.func g) #[] lb] w fun e w' => e = .returned (.bool (decide (r ≥ 0))) ∧ Below w.heap.size w w' := by
 have hcon := ixf205.calls g lb eg p A0 c0 l0 r w hp hr0 hc0 h
 clear hp hr0 hc0 h eg
 go_enter Tryz.func200, Tryz.ntmps200
 go_wp2_with fail
 refine hcon.mono ?_
 rintro e w' ⟨rfl, hb'⟩
 clear hcon
 go_wp2
 go_ret
 exact ⟨rfl, hb'⟩

/-! ### impl_areNodes: function 193 -/
open Go.Proofs.YtineejdlpcgnkaaGreatH in
def impl_areNodes.f : Nat → Int → Int → Int → List (S164) → Option (Bool)
 | 0, _, _, _, _ => none
 | k + 1, a0_0, a0_1, a0_2, l0_3 => (impl_isNode.f a0_0 a0_1 a0_2 l0_3).bind fun t => (if t = true then ((idxO (fun x : S164 => (impl_areNodes.f k x.f0 x.f1 x.f2 x.f3).bind fun b => some (!b)) l0_3 0).bind fun i => some (!(decide (i ≥ 0)))) else (some false))
open Go.Proofs.YtineejdlpcgnkaaGreatH Go.Proofs.YtineejdlpcgnkaaGreatM in
set_option maxHeartbeats 8000000 in
set_option maxRecDepth 100000 in
theorem impl_areNodes.calls (k : Nat) : ∀ (a0_0 : Int) (a0_1 : Int) (a0_2 : Int) (A0_3 : Option Addr) (c0_3 : Nat) (l0_3 : List (S164)) (r : Bool) (w : World) (hr0_3 : Kd.C k164 w A0_3 l0_3.length l0_3) (hc0_3 : l0_3.length ≤ c0_3) (h : impl_areNodes.f k a0_0 a0_1 a0_2 l0_3 = some r),
  Calls Tryz.prog 193 #[.agg #[.int .i64 a0_0, .int .i64 a0_1, .int .i64 a0_2, .slice A0_3 l0_3.length c0_3]] w fun e w' => e = .returned (.bool r) ∧ Below w.heap.size w w' := by
 induction k using Nat.strongRecOn with
 | _ k ih =>
 intro a0_0 a0_1 a0_2 A0_3 c0_3 l0_3 r w hr0_3 hc0_3 h
 cases k with
 | zero => exact absurd h (by simp [impl_areNodes.f])
 | succ k =>
 have hp : ∀ (V W : World) (x : S164) (E3 : Option Addr) (d3 : Nat) (b : Bool), Below V.heap.size V W → (x).f3.length ≤ d3 → Kd.C k164 W E3 (x).f3.length ((x).f3) → (impl_areNodes.f k x.f0 x.f1 x.f2 x.f3).bind (fun b => some (!b)) = some b → Calls Tryz.prog 201 (#[.agg #[.int .i64 ((x).f0), .int .i64 ((x).f1), .int .i64 ((x).f2), .slice E3 (x).f3.length d3]] ++ #[]) W fun e w' => e = .returned (.bool b) ∧ Below V.heap.size V w' := by
  clear h hr0_3 hc0_3
  rintro V w ⟨y0, y1, y2, y3⟩ E3 d3 b hW hd hC hb
  obtain ⟨b', hm, hb'⟩ := Option.bind_eq_some_iff.mp hb
  obtain rfl := Option.some.inj hb'
  dsimp only at hd hC hm
  have HC := Aside0.mk hC
  have HD := Aside0.mk hd
  have HW := Aside0.mk hW
  have HM := Aside0.mk hm
  have HB := Aside0.mk (Below.refl w.heap.size w)
  clear hb hb' hC hd hW hm
  change Calls Tryz.prog 201 #[.agg #[.int .i64 y0, .int .i64 y1, .int .i64 y2, .slice E3 y3.length d3]] w _
  have hu164 := Tryz.underlying164
  go_enter Tryz.func201, Tryz.ntmps201
  go_upto_region 1 with (first | ((with_reducible refine gate_dst (N := 1) rfl ?_); refine box_event ?hg (N := 1) ?hd (cs := #[.int .i64 y0, .int .i64 y1, .int .i64 y2, .slice E3 y3.length d3]) (t := 164) ?hr ?_; (case hd => rfl); (case hg => rfl); (case hr => first | (go_simp; done) | (go_simp; rfl)); intro gb1 hg W1 hbox hb; replace HB := bH HB hb; clear hb; have BK1 := Aside0.mk hbox; have c_BK1 := blk_cell hbox; have z_BK1 := blk_frozen hbox; clear hg hbox))
  have hcall := ih k (Nat.lt_succ_self k) _ _ _ _ _ _ _ W1 (Kd.C_below HC.out HB.out) HD.out HM.out
  go_wp2_with fail
  refine hcall.mono ?_
  rintro e W2 ⟨rfl, hb⟩
  clear hcall
  replace HB := bH HB hb; clear hb BK1 c_BK1 z_BK1
  go_wp2
  go_ret
  exact ⟨rfl, (bH HW HB.out).out⟩
 simp only [impl_areNodes.f] at h
 have HR0_3 := Aside0.mk hr0_3
 have HC0_3 := Aside0.mk hc0_3
 clear hr0_3 hc0_3
 have HB := Aside0.mk (Below.refl w.heap.size w)
 have HP := Aside0.mk hp
 have H := Aside0.mk h
 clear h hp ih
 have hu164 := Tryz.underlying164
 go_enter Tryz.func193, Tryz.ntmps193
 go_upto_region 1 with (first | ((with_reducible refine gate_dst (N := 1) rfl ?_); refine box_event ?hg (N := 1) ?hd (cs := #[.int .i64 a0_0, .int .i64 a0_1, .int .i64 a0_2, .slice A0_3 l0_3.length c0_3]) (t := 164) ?hr ?_; (case hd => rfl); (case hg => rfl); (case hr => first | (go_simp; done) | (go_simp; rfl)); intro gb1 hg W1 hbox hb; replace HB := bH HB hb; clear hb; have BK1 := Aside0.mk hbox; have c_BK1 := blk_cell hbox; have z_BK1 := blk_frozen hbox; clear hg hbox))
 replace H := H.out
 obtain ⟨t, hm, H⟩ := Option.bind_eq_some_iff.mp H
 replace H := Aside0.mk H
 have hcall := impl_isNode.calls _ _ _ _ _ _ _ W1 (Kd.C_below HR0_3.out HB.out) HC0_3.out hm
 clear hm
 go_wp2_with fail
 refine hcall.mono ?_
 rintro e W2 ⟨rfl, hb⟩
 clear hcall
 replace BK1 := bK BK1 hb; replace c_BK1 := blk_cell BK1.out; replace z_BK1 := blk_frozen BK1.out
 replace HB := bH HB hb; clear hb
 replace H := H.out
 replace H := ifD H; rcases H with ⟨c3, H⟩ | ⟨c3, H⟩
 ·subst c3
  obtain ⟨i, hm, H⟩ := Option.bind_eq_some_iff.mp H
  obtain rfl := Option.some.inj H
  clear H
  have eg : ∀ args w, (callFunc 201 args).run Tryz.prog w = .ok (.enter 201 args) w := Go.Proofs.YtineejdlpcgnkaaGreatH.enters Tryz.func201 (by kernel_rfl) rfl
  have hcall := ctf200.calls 201 #[] eg (fun x : S164 => (impl_areNodes.f k x.f0 x.f1 x.f2 x.f3).bind fun b => some (!b)) _ _ _ _ W2 (HP.out W2) (Kd.C_below HR0_3.out HB.out) HC0_3.out hm
  clear hm HP
  go_wp2_with fail
  refine hcall.mono ?_
  rintro e W3 ⟨rfl, hb⟩
  clear hcall eg
  replace HB := bH HB hb; clear hb BK1 c_BK1 z_BK1
  go_wp2
  go_ret
  exact ⟨rfl, HB.out⟩
 ·replace c3 := (Bool.not_eq_true _).mp c3
  subst c3
  obtain rfl := Option.some.inj H
  clear H
  go_wp2
  go_ret
  exact ⟨rfl, HB.out⟩

/-! ### impl_IsCond: function 181 -/
def impl_IsCond.f (k : Nat) (a0_0 : Int) (a0_1 : Int) (a0_2 : Int) (l0_3 : List (S164)) : Option (Bool) := (impl_SizeOf.f k a0_0 a0_1 a0_2 l0_3).bind fun t683 => (if t683 ≤ 15 then ((impl_areNodes.f k a0_0 a0_1 a0_2 l0_3).bind fun t684 => (some t684)) else (some false))
open Go.Proofs.YtineejdlpcgnkaaGreatM in
set_option maxHeartbeats 8000000 in
set_option maxRecDepth 100000 in
theorem impl_IsCond.calls (k : Nat) (a0_0 : Int) (a0_1 : Int) (a0_2 : Int) (A0_3 : Option Addr) (c0_3 : Nat) (l0_3 : List (S164)) (r : Bool) (w : World) (hr0_3 : Kd.C k164 w A0_3 l0_3.length l0_3) (hc0_3 : l0_3.length ≤ c0_3) (h : impl_IsCond.f k a0_0 a0_1 a0_2 l0_3 = some r) :
  Calls Tryz.prog 181 #[.agg #[.int .i64 a0_0, .int .i64 a0_1, .int .i64 a0_2, .slice A0_3 l0_3.length c0_3]] w fun e w' => e = .returned (.bool r) ∧ Below w.heap.size w w' := by
 have HR0_3 := Aside0.mk hr0_3
 have HC0_3 := Aside0.mk hc0_3
 clear hr0_3 hc0_3
 have HB := Aside0.mk (Below.refl w.heap.size w)
 have H := h
 clear h
 unfold impl_IsCond.f at H
 have hu164 := Tryz.underlying164
 go_enter Tryz.func181, Tryz.ntmps181
 replace H := Aside0.mk H
 go_upto_region 1 with (first | ((with_reducible refine gate_dst (N := 1) rfl ?_); refine box_event ?hg (N := 1) ?hd (cs := #[.int .i64 a0_0, .int .i64 a0_1, .int .i64 a0_2, .slice A0_3 l0_3.length c0_3]) (t := 164) ?hr ?_; (case hd => rfl); (case hg => rfl); (case hr => first | (go_simp; done) | (go_simp; rfl)); intro gb1 hg W1 hbox hb; replace HB := bH HB hb; clear hb; have BK1 := Aside0.mk hbox; have c_BK1 := blk_cell hbox; have z_BK1 := blk_frozen hbox; clear hg hbox))
 replace H := H.out
 replace H := Option.bind_eq_some_iff.mp H
 obtain ⟨t683, hm, H⟩ := H
 try dsimp only at H
 replace H := Aside0.mk H
 have hcall := impl_SizeOf.calls k _ _ _ _ _ _ _ W1 (Kd.C_below HR0_3.out HB.out) HC0_3.out hm
 clear hm
 go_wp2_with fail
 refine hcall.mono ?_
 rintro e W2 ⟨rfl, hb⟩
 clear hcall
 replace BK1 := bK BK1 hb; replace c_BK1 := blk_cell BK1.out; replace z_BK1 := blk_frozen BK1.out
 replace HB := bH HB hb; clear hb
 replace H := H.out
 replace H := ifD H; rcases H with ⟨c3, H⟩ | ⟨c3, H⟩
 ·have c3_0 := decT c3
  replace c3 := Aside0.mk c3
  first | rw [c3_0] | skip
  replace H := Option.bind_eq_some_iff.mp H
  obtain ⟨t684, hm, H⟩ := H
  try dsimp only at H
  replace H := Aside0.mk H
  have hcall := impl_areNodes.calls k _ _ _ _ _ _ _ W2 (Kd.C_below HR0_3.out HB.out) HC0_3.out hm
  clear hm
  go_wp2_with fail
  refine hcall.mono ?_
  rintro e W4 ⟨rfl, hb⟩
  clear hcall
  replace BK1 := bK BK1 hb; replace c_BK1 := blk_cell BK1.out; replace z_BK1 := blk_frozen BK1.out
  replace HB := bH HB hb; clear hb
  replace H := H.out
  obtain rfl := Option.some.inj H
  clear H
  go_wp2
  go_ret
  exact ⟨rfl, HB.out⟩
 ·have c3_0 := decF c3
  replace c3 := Aside0.mk c3
  first | rw [c3_0] | skip
  obtain rfl := Option.some.inj H
  clear H
  go_wp2
  go_ret
  exact ⟨rfl, HB.out⟩

/-! ### impl_IsRule: function 168 -/
def impl_IsRule.f (k : Nat) (a0_0 : Int) (a0_1 : Int) (a0_2 : Int) (a0_3 : Int) (a0_4 : Int) (a0_5 : Int) (l0_6 : List (S164)) : Option (Bool) := (impl_InRange.f a0_0 0 1).bind fun t686 => (if t686 = true then ((impl_InRange.f a0_1 (-1) 5).bind fun t687 => (if t687 = true then (if a0_2 = (-1) then ((impl_IsCond.f k a0_3 a0_4 a0_5 l0_6).bind fun t688 => (some t688)) else ((impl_HasKind.f a0_2 4).bind fun t689 => (if t689 = true then ((impl_IsCond.f k a0_3 a0_4 a0_5 l0_6).bind fun t690 => (some t690)) else (some false)))) else (some false))) else (some false))
open Go.Proofs.YtineejdlpcgnkaaGreatM in
set_option maxHeartbeats 8000000 in
set_option maxRecDepth 100000 in
theorem impl_IsRule.calls (k : Nat) (a0_0 : Int) (a0_1 : Int) (a0_2 : Int) (a0_3 : Int) (a0_4 : Int) (a0_5 : Int) (A0_6 : Option Addr) (c0_6 : Nat) (l0_6 : List (S164)) (r : Bool) (w : World) (hr0_6 : Kd.C k164 w A0_6 l0_6.length l0_6) (hc0_6 : l0_6.length ≤ c0_6) (h : impl_IsRule.f k a0_0 a0_1 a0_2 a0_3 a0_4 a0_5 l0_6 = some r) :
  Calls Tryz.prog 168 #[.agg #[.int .i64 a0_0, .int .i64 a0_1, .int .i64 a0_2, .int .i64 a0_3, .int .i64 a0_4, .int .i64 a0_5, .slice A0_6 l0_6.length c0_6]] w fun e w' => e = .returned (.bool r) ∧ Below w.heap.size w w' := by
 have HR0_6 := Aside0.mk hr0_6
 have HC0_6 := Aside0.mk hc0_6
 clear hr0_6 hc0_6
 have HB := Aside0.mk (Below.refl w.heap.size w)
 have H := h
 clear h
 unfold impl_IsRule.f at H
 have hu164 := Tryz.underlying164
 have hu166 := Tryz.underlying166
 go_enter Tryz.func168, Tryz.ntmps168
 replace H := Aside0.mk H
 go_upto_region 1 with (first | ((with_reducible refine gate_dst (N := 1) rfl ?_); refine box_event ?hg (N := 1) ?hd (cs := #[.int .i64 a0_0, .int .i64 a0_1, .int .i64 a0_2, .int .i64 a0_3, .int .i64 a0_4, .int .i64 a0_5, .slice A0_6 l0_6.length c0_6]) (t := 166) ?hr ?_; (case hd => rfl); (case hg => rfl); (case hr => first | (go_simp; done) | (go_simp; rfl)); intro gb1 hg W1 hbox hb; replace HB := bH HB hb; clear hb; have BK1 := Aside0.mk hbox; have c_BK1 := blk_cell hbox; have z_BK1 := blk_frozen hbox; clear hg hbox))
 replace H := H.out
 replace H := Option.bind_eq_some_iff.mp H
 obtain ⟨t686, hm, H⟩ := H
 try dsimp only at H
 replace H := Aside0.mk H
 have hcall := impl_InRange.calls _ _ _ _ W1  hm
 clear hm
 go_wp2_with fail
 refine hcall.mono ?_
 rintro e W2 ⟨rfl, hb⟩
 clear hcall
 replace BK1 := bK BK1 hb; replace c_BK1 := blk_cell BK1.out; replace z_BK1 := blk_frozen BK1.out
 replace HB := bH HB hb; clear hb
 replace H := H.out
 replace H := ifD H; rcases H with ⟨c3, H⟩ | ⟨c3, H⟩
 ·subst c3
  replace H := Option.bind_eq_some_iff.mp H
  obtain ⟨t687, hm, H⟩ := H
  try dsimp only at H
  replace H := Aside0.mk H
  have hcall := impl_InRange.calls _ _ _ _ W2  hm
  clear hm
  go_wp2_with fail
  refine hcall.mono ?_
  rintro e W4 ⟨rfl, hb⟩
  clear hcall
  replace BK1 := bK BK1 hb; replace c_BK1 := blk_cell BK1.out; replace z_BK1 := blk_frozen BK1.out
  replace HB := bH HB hb; clear hb
  replace H := H.out
  replace H := ifD H; rcases H with ⟨c5, H⟩ | ⟨c5, H⟩
  ·subst c5
   replace H := ifD H; rcases H with ⟨c6, H⟩ | ⟨c6, H⟩
   ·have c6_0 := decT c6; have c6_1 := eqT c6; have c6_2 := neT c6
    clear c6
    first | rw [c6_1] | rw [c6_2] | skip
    replace H := Option.bind_eq_some_iff.mp H
    obtain ⟨t688, hm, H⟩ := H
    try dsimp only at H
    replace H := Aside0.mk H
    have hcall := impl_IsCond.calls k _ _ _ _ _ _ _ W4 (Kd.C_below HR0_6.out HB.out) HC0_6.out hm
    clear hm
    go_wp2_with fail
    refine hcall.mono ?_
    rintro e W7 ⟨rfl, hb⟩
    clear hcall
    replace BK1 := bK BK1 hb; replace c_BK1 := blk_cell BK1.out; replace z_BK1 := blk_frozen BK1.out
    replace HB := bH HB hb; clear hb
    replace H := H.out
    obtain rfl := Option.some.inj H
    clear H
    go_wp2
    go_ret
    exact ⟨rfl, HB.out⟩
   ·have c6_0 := decF c6; have c6_1 := eqF c6; have c6_2 := neF c6
    clear c6
    first | rw [c6_1] | rw [c6_2] | skip
    replace H := Option.bind_eq_some_iff.mp H
    obtain ⟨t689, hm, H⟩ := H
    try dsimp only at H
    replace H := Aside0.mk H
    have hcall := impl_HasKind.calls _ _ _ W4  hm
    clear hm
    go_wp2_with fail
    refine hcall.mono ?_
    rintro e W8 ⟨rfl, hb⟩
    clear hcall
    replace BK1 := bK BK1 hb; replace c_BK1 := blk_cell BK1.out; replace z_BK1 := blk_frozen BK1.out
    replace HB := bH HB hb; clear hb
    replace H := H.out
    replace H := ifD H; rcases H with ⟨c9, H⟩ | ⟨c9, H⟩
    ·subst c9
     replace H := Option.bind_eq_some_iff.mp H
     obtain ⟨t690, hm, H⟩ := H
     try dsimp only at H
     replace H := Aside0.mk H
     have hcall := impl_IsCond.calls k _ _ _ _ _ _ _ W8 (Kd.C_below HR0_6.out HB.out) HC0_6.out hm
     clear hm
     go_wp2_with fail
     refine hcall.mono ?_
     rintro e W10 ⟨rfl, hb⟩
     clear hcall
     replace BK1 := bK BK1 hb; replace c_BK1 := blk_cell BK1.out; replace z_BK1 := blk_frozen BK1.out
     replace HB := bH HB hb; clear hb
     replace H := H.out
     obtain rfl := Option.some.inj H
     clear H
     go_wp2
     go_ret
     exact ⟨rfl, HB.out⟩
    ·replace c9 := (Bool.not_eq_true _).mp c9
     subst c9
     obtain rfl := Option.some.inj H
     clear H
     go_wp2
     go_ret
     exact ⟨rfl, HB.out⟩
  ·replace c5 := (Bool.not_eq_true _).mp c5
   subst c5
   obtain rfl := Option.some.inj H
   clear H
   go_wp2
   go_ret
   exact ⟨rfl, HB.out⟩
 ·replace c3 := (Bool.not_eq_true _).mp c3
  subst c3
  obtain rfl := Option.some.inj H
  clear H
  go_wp2
  go_ret
  exact ⟨rfl, HB.out⟩

/-! ### cl167: function 167 -/
def cl167.f (k : Nat) (a0_0 : Int) (a0_1 : Int) (a0_2 : Int) (a0_3 : Int) (a0_4 : Int) (a0_5 : Int) (l0_6 : List (S164)) : Option (Bool) := (impl_IsRule.f k a0_0 a0_1 a0_2 a0_3 a0_4 a0_5 l0_6).bind fun t692 => (some (!t692))
open Go.Proofs.YtineejdlpcgnkaaGreatM in
set_option maxHeartbeats 8000000 in
set_option maxRecDepth 100000 in
theorem cl167.calls (k : Nat) (a0_0 : Int) (a0_1 : Int) (a0_2 : Int) (a0_3 : Int) (a0_4 : Int) (a0_5 : Int) (A0_6 : Option Addr) (c0_6 : Nat) (l0_6 : List (S164))   (r : Bool) (w0 w : World) (hr0_6 : Kd.C k164 w A0_6 l0_6.length l0_6) (hc0_6 : l0_6.length ≤ c0_6) (hb : Below w0.heap.size w0 w) (h : cl167.f k a0_0 a0_1 a0_2 a0_3 a0_4 a0_5 l0_6 = some r) :
  Calls Tryz.prog 167 #[.agg #[.int .i64 a0_0, .int .i64 a0_1, .int .i64 a0_2, .int .i64 a0_3, .int .i64 a0_4, .int .i64 a0_5, .slice A0_6 l0_6.length c0_6]] w fun e w' => e = .returned (.bool r) ∧ Below w0.heap.size w0 w' := by
 have HR0_6 := Aside0.mk hr0_6
 have HC0_6 := Aside0.mk hc0_6
 clear hr0_6 hc0_6
 have HB0 := Aside0.mk hb; clear hb
 have HB := Aside0.mk (Below.refl w.heap.size w)
 have H := h
 clear h
 unfold cl167.f at H
 have hu166 := Tryz.underlying166
 go_enter Tryz.func167, Tryz.ntmps167
 replace H := Aside0.mk H
 go_upto_region 1 with (first | ((with_reducible refine gate_dst (N := 1) rfl ?_); refine box_event ?hg (N := 1) ?hd (cs := #[.int .i64 a0_0, .int .i64 a0_1, .int .i64 a0_2, .int .i64 a0_3, .int .i64 a0_4, .int .i64 a0_5, .slice A0_6 l0_6.length c0_6]) (t := 166) ?hr ?_; (case hd => rfl); (case hg => rfl); (case hr => first | (go_simp; done) | (go_simp; rfl)); intro gb1 hg W1 hbox hb; replace HB := bH HB hb; clear hb; have BK1 := Aside0.mk hbox; have c_BK1 := blk_cell hbox; have z_BK1 := blk_frozen hbox; clear hg hbox))
 replace H := H.out
 replace H := Option.bind_eq_some_iff.mp H
 obtain ⟨t692, hm, H⟩ := H
 try dsimp only at H
 replace H := Aside0.mk H
 have hcall := impl_IsRule.calls k _ _ _ _ _ _ _ _ _ _ W1 (Kd.C_below HR0_6.out HB.out) HC0_6.out hm
 clear hm
 go_wp2_with fail
 refine hcall.mono ?_
 rintro e W2 ⟨rfl, hb⟩
 clear hcall
 replace BK1 := bK BK1 hb; replace c_BK1 := blk_cell BK1.out; replace z_BK1 := blk_frozen BK1.out
 replace HB := bH HB hb; clear hb
 replace H := H.out
 obtain rfl := Option.some.inj H
 clear H
 go_wp2
 go_ret
 exact ⟨rfl, below_step HB0.out HB.out⟩

/-! ### ixf180: function 180 -/
set_option maxHeartbeats 8000000 in
set_option maxRecDepth 100000 in
open Go.Proofs.YtineejdlpcgnkaaGreatH in
theorem ixf180.calls (g : Nat) (lb : Array Value) (eg : ∀ args w, (callFunc g args).run Tryz.prog w = .ok (.enter g args) w) (p : S166 → Option Bool) (A0 : Option Addr) (c0 : Nat) (l0 : List S166) (r : Int) (w : World)
  (hp : ∀ (W : World) (x : S166) (E6 : Option Addr) (d6 : Nat) (b : Bool), Below w.heap.size w W → (x).f3.f3.length ≤ d6 → Kd.C k164 W E6 (x).f3.f3.length ((x).f3.f3) → p x = some b → Calls Tryz.prog g (#[.agg #[.int .i64 ((x).f0), .int .i64 ((x).f1), .int .i64 ((x).f2), .int .i64 ((x).f3.f0), .int .i64 ((x).f3.f1), .int .i64 ((x).f3.f2), .slice E6 (x).f3.f3.length d6]] ++ lb) W fun e w' => e = .returned (.bool b) ∧ Below w.heap.size w w')
  (hr0 : Kd.C k166 w A0 l0.length l0) (hc0 : l0.length ≤ c0) (h : idxO p l0 0 = some r) :
  Calls Tryz.prog 180 #[.slice A0 l0.length c0, .func (.func g) #[] lb] w fun e w' => e = .returned (.int .i64 r) ∧ Below w.heap.size w w' := by
 have hu166 := Tryz.underlying166
 have HLEN : Aside0 (l0.length ≤ 9223372036854775807) := ⟨hr0.2.1⟩
 have HR0 := Aside0.mk hr0
 have HC0 := Aside0.mk hc0
 have HP := Aside0.mk hp
 have H' := Aside0.mk (show idxO p (l0.drop (0 : Int).toNat) 0 = some r from h)
 clear hr0 hc0 h hp
 go_enter Tryz.func180, Tryz.ntmps180
 go_wp2
 go_loopg [5, 8] l0.length (fun gg _ v8 wr => ∃ x : Int, v8 = .int .i64 x ∧ Aside0 (0 ≤ x ∧ x ≤ l0.length ∧ l0.length - x.toNat ≤ gg) ∧ Aside0 (Below w.heap.size w wr) ∧ Aside0 (idxO p (l0.drop x.toNat) x = some r))
 case atStart => exact ⟨0, rfl, ⟨by omega, by omega, by omega⟩, ⟨Below.refl _ w⟩, H'⟩
 case round =>
  clear H'
  obtain ⟨x, rfl, HX, BW, HA⟩ := hrel
  by_cases hlt : x < (l0.length : Int)
  ·have c2b0 : decide (x < (l0.length : Int)) = true := decide_eq_true hlt
   have p1 : 0 ≤ x := HX.out.1
   have q1 : x < (l0.length : Int) := hlt
   obtain ⟨b, hb, ht, hf⟩ := idxO_at (z := z166) HA.out p1 q1
   have HB := Aside0.mk hb
   have HQ := Aside0.mk hlt
   clear hb HA
   obtain ⟨ad, E6, d6, e0, hx0, hx1, hx2, hx3, hx4, hx5, hx6, hl6, hg6⟩ := at_T166 (Kd.C_below HR0.out BW.out) x p1 q1
   cases e0
   have hcall := HP.out wr (rd_T166 l0 x) E6 d6 b BW.out hl6 hg6 HB.out
   have p1' := eq_true p1
   have q1' := eq_true q1
   clear p1 q1 hlt hl6 hg6
   cases b with
   | true =>
    have HT := Aside0.mk (ht rfl)
    clear ht hf
    go_wp2_with fail
    refine hcall.mono ?_
    rintro e w' ⟨rfl, hb'⟩
    clear hcall hx0 hx1 hx2 hx3 hx4 hx5 hx6 eg HP HB
    go_wp2
    go_ret
    exact ⟨by rw [HT.out]; rfl, hb'⟩
   | false =>
    have HF := Aside0.mk (hf rfl)
    clear ht hf
    go_wp2_with fail
    refine hcall.mono ?_
    rintro e w' ⟨rfl, hb'⟩
    clear hcall hx0 hx1 hx2 hx3 hx4 hx5 hx6 eg HP HB
    go_wp2
    have he : wrap64 (x + 1) = x + 1 := wrap_up HX.out.1 HQ.out HLEN.out
    go_roundg (l0.length - (x + 1).toNat)
    case measure => have := HX.out; have := HQ.out; omega
    case rel =>
     refine ⟨x + 1, ?_, ⟨by have := HX.out; omega, by have := HQ.out; omega, Nat.le_refl _⟩, ⟨hb'⟩, HF⟩
     simp [he]
  ·have c2b0 : decide (x < (l0.length : Int)) = false := decide_eq_false hlt
   have HN := Aside0.mk hlt
   clear hlt
   go_wp2
   go_ret
   exact ⟨by rw [← idxO_end HA.out HX.out.2.1 (by have := HN.out; omega)]; rfl, BW.out⟩

/-! ### ctf166: function 166 -/
set_option maxHeartbeats 8000000 in
set_option maxRecDepth 100000 in
open Go.Proofs.YtineejdlpcgnkaaGreatH in
theorem ctf166.calls (g : Nat) (lb : Array Value) (eg : ∀ args w, (callFunc g args).run Tryz.prog w = .ok (.enter g args) w) (p : S166 → Option Bool) (A0 : Option Addr) (c0 : Nat) (l0 : List S166) (r : Int) (w : World)
  (hp : ∀ (W : World) (x : S166) (E6 : Option Addr) (d6 : Nat) (b : Bool), Below w.heap.size w W → (x).f3.f3.length ≤ d6 → Kd.C k164 W E6 (x).f3.f3.length ((x).f3.f3) → p x = some b → Calls Tryz.prog g (#[.agg #[.int .i64 ((x).f0), .int .i64 ((x).f1), .int .i64 ((x).f2), .int .i64 ((x).f3.f0), .int .i64 ((x).f3.f1), .int .i64 ((x).f3.f2), .slice E6 (x).f3.f3.length d6]] ++ lb) W fun e w' => e = .returned (.bool b) ∧ Below w.heap.size w w')
  (hr0 : Kd.C k166 w A0 l0.length l0) (hc0 : l0.length ≤ c0) (h : idxO p l0 0 = some r) :
  Calls Tryz.prog 166 #[.slice A0 l0.length c0, .func (.func g) #[] lb] w fun e w' => e = .returned (.bool (decide (r ≥ 0))) ∧ Below w.heap.size w w' := by
 have hcon := ixf180.calls g lb eg p A0 c0 l0 r w hp hr0 hc0 h
 clear hp hr0 hc0 h eg
 go_enter Tryz.func166, Tryz.ntmps166
 go_wp2_with fail
 refine hcon.mono ?_
 rintro e w' ⟨rfl, hb'⟩
 clear hcon
 go_wp2
 go_ret
 exact ⟨rfl, hb'⟩

/-! ### impl_IsPolicy: function 136 -/
def impl_IsPolicy.f (k : Nat) (a0_0 : Int) (l0_1 : List (S166)) : Option (Bool) := (impl_InRange.f a0_0 0 999).bind fun t694 => (if t694 = true then (if (l0_1.length : Int) ≤ 8 then ((Go.Proofs.YtineejdlpcgnkaaGreatH.idxO (fun x => cl167.f k x.f0 x.f1 x.f2 x.f3.f0 x.f3.f1 x.f3.f2 x.f3.f3) l0_1 0).bind fun t695 => (some (!(decide (t695 ≥ 0))))) else (some false)) else (some false))
open Go.Proofs.YtineejdlpcgnkaaGreatM in
set_option maxHeartbeats 8000000 in
set_option maxRecDepth 100000 in
theorem impl_IsPolicy.calls (k : Nat) (a0_0 : Int) (A0_1 : Option Addr) (c0_1 : Nat) (l0_1 : List (S166)) (r : Bool) (w : World) (hr0_1 : Kd.C k166 w A0_1 l0_1.length l0_1) (hc0_1 : l0_1.length ≤ c0_1) (h : impl_IsPolicy.f k a0_0 l0_1 = some r) :
  Calls Tryz.prog 136 #[.agg #[.int .i64 a0_0, .slice A0_1 l0_1.length c0_1]] w fun e w' => e = .returned (.bool r) ∧ Below w.heap.size w w' := by
 have HR0_1 := Aside0.mk hr0_1
 have HC0_1 := Aside0.mk hc0_1
 clear hr0_1 hc0_1
 have HB := Aside0.mk (Below.refl w.heap.size w)
 have H := h
 clear h
 unfold impl_IsPolicy.f at H
 have hu115 := Tryz.underlying115
 go_enter Tryz.func136, Tryz.ntmps136
 replace H := Aside0.mk H
 go_upto_region 1 with (first | ((with_reducible refine gate_dst (N := 1) rfl ?_); refine box_event ?hg (N := 1) ?hd (cs := #[.int .i64 a0_0, .slice A0_1 l0_1.length c0_1]) (t := 115) ?hr ?_; (case hd => rfl); (case hg => rfl); (case hr => first | (go_simp; done) | (go_simp; rfl)); intro gb1 hg W1 hbox hb; replace HB := bH HB hb; clear hb; have BK1 := Aside0.mk hbox; have c_BK1 := blk_cell hbox; have z_BK1 := blk_frozen hbox; clear hg hbox))
 replace H := H.out
 replace H := Option.bind_eq_some_iff.mp H
 obtain ⟨t694, hm, H⟩ := H
 try dsimp only at H
 replace H := Aside0.mk H
 have hcall := impl_InRange.calls _ _ _ _ W1  hm
 clear hm
 go_wp2_with fail
 refine hcall.mono ?_
 rintro e W2 ⟨rfl, hb⟩
 clear hcall
 replace BK1 := bK BK1 hb; replace c_BK1 := blk_cell BK1.out; replace z_BK1 := blk_frozen BK1.out
 replace HB := bH HB hb; clear hb
 replace H := H.out
 replace H := ifD H; rcases H with ⟨c3, H⟩ | ⟨c3, H⟩
 ·subst c3
  replace H := ifD H; rcases H with ⟨c4, H⟩ | ⟨c4, H⟩
  ·have c4_x0 : decide (l0_1.length ≤ 8) = true := decide_eq_true (by omega)
   have c4_0 := decT c4
   replace c4 := Aside0.mk c4
   first | rw [c4_0] | skip
   replace H := Option.bind_eq_some_iff.mp H
   obtain ⟨t695, hm, H⟩ := H
   try dsimp only at H
   replace hm := Aside0.mk hm
   replace H := Aside0.mk H
   have eg : ∀ args w, (callFunc 167 args).run Tryz.prog w = .ok (.enter 167 args) w := Go.Proofs.YtineejdlpcgnkaaGreatH.enters Tryz.func167 (by kernel_rfl) rfl
   have hcall := ctf166.calls 167 #[] eg _ _ _ _ _ W2 (fun W_ x_ E6 d6 b_ hW_ u6 v6 hp_ => cl167.calls k _ _ _ _ _ _ E6 d6 _  b_ W2 W_   v6 u6 hW_ hp_) (Kd.C_below HR0_1.out HB.out) HC0_1.out hm.out
   clear hm
   go_wp2_with fail
   refine hcall.mono ?_
   rintro e W5 ⟨rfl, hb⟩
   clear hcall eg
   replace BK1 := bK BK1 hb; replace c_BK1 := blk_cell BK1.out; replace z_BK1 := blk_frozen BK1.out
   replace HB := bH HB hb; clear hb
   replace H := H.out
   obtain rfl := Option.some.inj H
   clear H
   go_wp2
   go_ret
   exact ⟨rfl, HB.out⟩
  ·have c4_x0 : decide (l0_1.length ≤ 8) = false := decide_eq_false (by omega)
   have c4_0 := decF c4
   replace c4 := Aside0.mk c4
   first | rw [c4_0] | skip
   obtain rfl := Option.some.inj H
   clear H
   go_wp2
   go_ret
   exact ⟨rfl, HB.out⟩
 ·replace c3 := (Bool.not_eq_true _).mp c3
  subst c3
  obtain rfl := Option.some.inj H
  clear H
  go_wp2
  go_ret
  exact ⟨rfl, HB.out⟩

/-! ### impl_IsEpoch: function 90 -/
def impl_IsEpoch.f (k : Nat) (a0_0 : Int) (a0_1 : Int) (l0_2 : List (S161)) (a0_3 : Int) (l0_4 : List (S166)) : Option (Bool) := (impl_InRange.f a0_0 0 999).bind fun t697 => (if t697 = true then ((impl_IsTime.f a0_1).bind fun t698 => (if t698 = true then ((impl_ArePairs.f k l0_2).bind fun t699 => (if t699 = true then ((impl_IsPolicy.f k a0_3 l0_4).bind fun t700 => (if t700 = true then (some (a0_3 == a0_0)) else (some false))) else (some false))) else (some false))) else (some false))
open Go.Proofs.YtineejdlpcgnkaaGreatM in
set_option maxHeartbeats 8000000 in
set_option maxRecDepth 100000 in
theorem impl_IsEpoch.calls (k : Nat) (a0_0 : Int) (a0_1 : Int) (A0_2 : Option Addr) (c0_2 : Nat) (l0_2 : List (S161)) (a0_3 : Int) (A0_4 : Option Addr) (c0_4 : Nat) (l0_4 : List (S166)) (r : Bool) (w : World) (hr0_2 : Kd.C k161 w A0_2 l0_2.length l0_2) (hc0_2 : l0_2.length ≤ c0_2) (hr0_4 : Kd.C k166 w A0_4 l0_4.length l0_4) (hc0_4 : l0_4.length ≤ c0_4) (h : impl_IsEpoch.f k a0_0 a0_1 l0_2 a0_3 l0_4 = some r) :
  Calls Tryz.prog 90 #[.agg #[.int .i64 a0_0, .int .i64 a0_1, .slice A0_2 l0_2.length c0_2, .int .i64 a0_3, .slice A0_4 l0_4.length c0_4]] w fun e w' => e = .returned (.bool r) ∧ Below w.heap.size w w' := by
 have HR0_2 := Aside0.mk hr0_2
 have HC0_2 := Aside0.mk hc0_2
 clear hr0_2 hc0_2
 have HR0_4 := Aside0.mk hr0_4
 have HC0_4 := Aside0.mk hc0_4
 clear hr0_4 hc0_4
 have HB := Aside0.mk (Below.refl w.heap.size w)
 have H := h
 clear h
 unfold impl_IsEpoch.f at H
 have hu115 := Tryz.underlying115
 have hu117 := Tryz.underlying117
 go_enter Tryz.func90, Tryz.ntmps90
 replace H := Aside0.mk H
 go_upto_region 1 with (first | ((with_reducible refine gate_dst (N := 1) rfl ?_); refine box_event ?hg (N := 1) ?hd (cs := #[.int .i64 a0_0, .int .i64 a0_1, .slice A0_2 l0_2.length c0_2, .int .i64 a0_3, .slice A0_4 l0_4.length c0_4]) (t := 117) ?hr ?_; (case hd => rfl); (case hg => rfl); (case hr => first | (go_simp; done) | (go_simp; rfl)); intro gb1 hg W1 hbox hb; replace HB := bH HB hb; clear hb; have BK1 := Aside0.mk hbox; have c_BK1 := blk_cell hbox; have z_BK1 := blk_frozen hbox; clear hg hbox))
 replace H := H.out
 replace H := Option.bind_eq_some_iff.mp H
 obtain ⟨t697, hm, H⟩ := H
 try dsimp only at H
 replace H := Aside0.mk H
 have hcall := impl_InRange.calls _ _ _ _ W1  hm
 clear hm
 go_wp2_with fail
 refine hcall.mono ?_
 rintro e W2 ⟨rfl, hb⟩
 clear hcall
 replace BK1 := bK BK1 hb; replace c_BK1 := blk_cell BK1.out; replace z_BK1 := blk_frozen BK1.out
 replace HB := bH HB hb; clear hb
 replace H := H.out
 replace H := ifD H; rcases H with ⟨c3, H⟩ | ⟨c3, H⟩
 ·subst c3
  replace H := Option.bind_eq_some_iff.mp H
  obtain ⟨t698, hm, H⟩ := H
  try dsimp only at H
  replace H := Aside0.mk H
  have hcall := impl_IsTime.calls _ _ W2  hm
  clear hm
  go_wp2_with fail
  refine hcall.mono ?_
  rintro e W4 ⟨rfl, hb⟩
  clear hcall
  replace BK1 := bK BK1 hb; replace c_BK1 := blk_cell BK1.out; replace z_BK1 := blk_frozen BK1.out
  replace HB := bH HB hb; clear hb
  replace H := H.out
  replace H := ifD H; rcases H with ⟨c5, H⟩ | ⟨c5, H⟩
  ·subst c5
   replace H := Option.bind_eq_some_iff.mp H
   obtain ⟨t699, hm, H⟩ := H
   try dsimp only at H
   replace H := Aside0.mk H
   have hcall := impl_ArePairs.calls k _ _ _ _ W4 (Kd.C_below HR0_2.out HB.out) HC0_2.out hm
   clear hm
   go_wp2_with fail
   refine hcall.mono ?_
   rintro e W6 ⟨rfl, hb⟩
   clear hcall
   replace BK1 := bK BK1 hb; replace c_BK1 := blk_cell BK1.out; replace z_BK1 := blk_frozen BK1.out
   replace HB := bH HB hb; clear hb
   replace H := H.out
   replace H := ifD H; rcases H with ⟨c7, H⟩ | ⟨c7, H⟩
   ·subst c7
    replace H := Option.bind_eq_some_iff.mp H
    obtain ⟨t700, hm, H⟩ := H
    try dsimp only at H
    replace H := Aside0.mk H
    have hcall := impl_IsPolicy.calls k _ _ _ _ _ W6 (Kd.C_below HR0_4.out HB.out) HC0_4.out hm
    clear hm
    go_wp2_with fail
    refine hcall.mono ?_
    rintro e W8 ⟨rfl, hb⟩
    clear hcall
    replace BK1 := bK BK1 hb; replace c_BK1 := blk_cell BK1.out; replace z_BK1 := blk_frozen BK1.out
    replace HB := bH HB hb; clear hb
    replace H := H.out
    replace H := ifD H; rcases H with ⟨c9, H⟩ | ⟨c9, H⟩
    ·subst c9
     obtain rfl := Option.some.inj H
     clear H
     go_wp2
     go_ret
     exact ⟨rfl, HB.out⟩
    ·replace c9 := (Bool.not_eq_true _).mp c9
     subst c9
     obtain rfl := Option.some.inj H
     clear H
     go_wp2
     go_ret
     exact ⟨rfl, HB.out⟩
   ·replace c7 := (Bool.not_eq_true _).mp c7
    subst c7
    obtain rfl := Option.some.inj H
    clear H
    go_wp2
    go_ret
    exact ⟨rfl, HB.out⟩
  ·replace c5 := (Bool.not_eq_true _).mp c5
   subst c5
   obtain rfl := Option.some.inj H
   clear H
   go_wp2
   go_ret
   exact ⟨rfl, HB.out⟩
 ·replace c3 := (Bool.not_eq_true _).mp c3
  subst c3
  obtain rfl := Option.some.inj H
  clear H
  go_wp2
  go_ret
  exact ⟨rfl, HB.out⟩

/-! ### impl_AreEpochs: function 41 -/
def impl_AreEpochs.l0 : Nat → List (S117) → List (S117) → Int → Int → Option (Bool)
 | 0, _, _, _, _ => none
 | k + 1, x0, x5, x6, x7 => if x7 < x6 then (if 0 ≤ x7 then (if x7 < (x5.length : Int) then ((impl_IsEpoch.f k ((rd_T117 x5 x7).f0) ((rd_T117 x5 x7).f1) ((rd_T117 x5 x7).f2) ((rd_T117 x5 x7).f3.f0) ((rd_T117 x5 x7).f3.f1)).bind fun t703 => (if t703 = true then (if x7 > 0 then (if 0 ≤ (wrap64 (x7 - 1)) then (if (wrap64 (x7 - 1)) < (x0.length : Int) then (if ((rd_T117 x0 (wrap64 (x7 - 1))).f0) ≥ ((rd_T117 x5 x7).f0) then (some false) else (if ((rd_T117 x0 (wrap64 (x7 - 1))).f1) > ((rd_T117 x5 x7).f1) then (some false) else (impl_AreEpochs.l0 k x0 x5 x6 (wrap64 (x7 + 1))))) else (none)) else (none)) else (impl_AreEpochs.l0 k x0 x5 x6 (wrap64 (x7 + 1)))) else (some false))) else (none)) else (none)) else (some (decide ((x0.length : Int) ≤ 6)))
def impl_AreEpochs.f (k : Nat) (l0 : List (S117)) : Option (Bool) := impl_AreEpochs.l0 k l0 l0 (l0.length : Int) 0
open Go.Proofs.YtineejdlpcgnkaaGreatM in
set_option maxHeartbeats 8000000 in
set_option maxRecDepth 100000 in
theorem impl_AreEpochs.calls (k : Nat) (A0 : Option Addr) (c0 : Nat) (l0 : List (S117)) (r : Bool) (w : World) (hr0 : Kd.C k117 w A0 l0.length l0) (hc0 : l0.length ≤ c0) (h : impl_AreEpochs.f k l0 = some r) :
  Calls Tryz.prog 41 #[.slice A0 l0.length c0] w fun e w' => e = .returned (.bool r) ∧ Below w.heap.size w w' := by
 have HR0 := Aside0.mk hr0
 have HC0 := Aside0.mk hc0
 clear hr0 hc0
 have HB := Aside0.mk (Below.refl w.heap.size w)
 have H := h
 clear h
 unfold impl_AreEpochs.f at H
 have hu117 := Tryz.underlying117
 go_enter Tryz.func41, Tryz.ntmps41
 replace H := Aside0.mk H
 go_wp2
 go_loopg [7] k (fun kq v7 w' => ∃ (x7_1 : Int), v7 = .int .i64 x7_1 ∧ Aside0 (impl_AreEpochs.l0 kq l0 l0 (l0.length : Int) x7_1 = some r) ∧ Aside0 (kq ≤ k) ∧ Aside0 (Below w.heap.size w w'))
 case atStart => exact ⟨(0), (by first | rfl | (simp; done) | (simp [*]; done)), H, ⟨Nat.le_refl _⟩, HB⟩
 case round =>
  clear H HB 
  obtain ⟨x7_1, rfl, HA, Hk1, HB⟩ := hrel
  cases gk with
  | zero => exact absurd HA.out (by simp [impl_AreEpochs.l0])
  | succ k1 =>
   have H := HA.out
   clear HA
   simp only [impl_AreEpochs.l0] at H
   replace H := ifD H; rcases H with ⟨c2, H⟩ | ⟨c2, H⟩
   ·have c2_0 := decT c2
    replace c2 := Aside0.mk c2
    first | rw [c2_0] | skip
    replace H := ifN H; obtain ⟨c3, H⟩ := H
    have c3_0 := decT c3
    replace c3 := Aside0.mk c3
    first | rw [c3_0] | skip
    replace H := ifN H; obtain ⟨c4, H⟩ := H
    have c4_0 := decT c4
    replace c4 := Aside0.mk c4
    first | rw [c4_0] | skip
    have p701 : 0 ≤ (x7_1 : Int) := (of_decide_eq_true (by assumption))
    have q701 : x7_1 < (l0.length : Int) := (of_decide_eq_true (by assumption))
    obtain ⟨ad701, A701_2, c701_2, A701_4, c701_4, e701, hx701_0, hx701_1, hx701_2, hx701_3, hx701_4, hl701_2, hi701_2, hl701_4, hi701_4⟩ := at_T117 HR0.out x7_1 p701 q701
    cases e701
    have HR701_2 := Aside0.mk hi701_2; have HC701_2 := Aside0.mk hl701_2; clear hi701_2 hl701_2
    have HR701_4 := Aside0.mk hi701_4; have HC701_4 := Aside0.mk hl701_4; clear hi701_4 hl701_4
    replace hx701_0 := Aside0.mk hx701_0
    have y701_0 := xC HB hx701_0
    replace hx701_1 := Aside0.mk hx701_1
    have y701_1 := xC HB hx701_1
    replace hx701_2 := Aside0.mk hx701_2
    have y701_2 := xC HB hx701_2
    replace hx701_3 := Aside0.mk hx701_3
    have y701_3 := xC HB hx701_3
    replace hx701_4 := Aside0.mk hx701_4
    have y701_4 := xC HB hx701_4
    have r701 := eq_true p701; have s701 := eq_true q701
    replace p701 := Aside0.mk p701; replace q701 := Aside0.mk q701
    replace H := Aside0.mk H
    go_upto_region 4 with (first | ((with_reducible refine gate_dst (N := 4) rfl ?_); refine box_event ?hg (N := 4) ?hd (cs := #[.int .i64 0, .int .i64 0, .slice none 0 0, .int .i64 0, .slice none 0 0]) (t := 117) ?hr ?_; (case hd => rfl); (case hg => rfl); (case hr => first | (go_simp; done) | (go_simp; rfl)); intro gb5 hg W5 hbox hb; have G5 := Aside0.mk hg; have b0_ := Aside0.mk hb; have BK5 := Aside0.mk hbox; have c_BK5 := blk_cell hbox; have z_BK5 := blk_frozen hbox; clear hg hb hbox) | ((with_reducible refine gate_store (t := 117) (p := 4) rfl ?_); refine store_event (t := 117) (p := 4) (v := ?vo_s6) (w1 := (((((W5.setCell ⟨gb5, 0, none⟩ (.int .i64 ((rd_T117 l0 x7_1).f0))).setCell ⟨gb5, 1, none⟩ (.int .i64 ((rd_T117 l0 x7_1).f1))).setCell ⟨gb5, 2, none⟩ (.slice A701_2 ((rd_T117 l0 x7_1).f2).length c701_2)).setCell ⟨gb5, 3, none⟩ (.int .i64 ((rd_T117 l0 x7_1).f3.f0))).setCell ⟨gb5, 4, none⟩ (.slice A701_4 ((rd_T117 l0 x7_1).f3.f1).length c701_4))) ?hg ?ho ?hn ?hr ?_; (case ho => rfl); (case hg => rfl); (case hn => rfl); (case hr => first | (go_simp; done) | (go_simp; rfl)); intro W6 hw; have hb : Below wr.heap.size wr W6 := (by rw [hw]; exact bSet (bSet (bSet (bSet (bSet (b0_.out) (Nat.le_of_eq G5.out.symm)) (Nat.le_of_eq G5.out.symm)) (Nat.le_of_eq G5.out.symm)) (Nat.le_of_eq G5.out.symm)) (Nat.le_of_eq G5.out.symm)); clear b0_; have h_ := blk_set (blk_set (blk_set (blk_set (blk_set (BK5.out) 0 (.int .i64 ((rd_T117 l0 x7_1).f0))) 1 (.int .i64 ((rd_T117 l0 x7_1).f1))) 2 (.slice A701_2 ((rd_T117 l0 x7_1).f2).length c701_2)) 3 (.int .i64 ((rd_T117 l0 x7_1).f3.f0))) 4 (.slice A701_4 ((rd_T117 l0 x7_1).f3.f1).length c701_4); rw [← hw] at h_; simp only [List.setIfInBounds_toArray, List.set_cons_zero, List.set_cons_succ] at h_; clear BK5 c_BK5 z_BK5 hw; replace HB := bH HB hb; clear hb; have BK5 := Aside0.mk h_; have c_BK5 := blk_cell h_; have z_BK5 := blk_frozen h_; clear h_ G5))
    try clear y701_0 y701_1 y701_2 y701_3 y701_4
    clear c_BK5 z_BK5; have rBK5 := BK5; replace BK5 := dK BK5
    have HBr := HB; replace HB := dH HB
    refine stA (n := 29) (S := fun w' => Below W6.heap.size W6 w') (by kernel_rfl) rfl (below_drew1 (Below.refl _ W6)) (by kernel_rfl) (fun hHeld => ?_)
    generalize W6.drew = W7 at HB BK5 hHeld ⊢
    replace H := H.out
    replace H := Option.bind_eq_some_iff.mp H
    obtain ⟨t703, hm, H⟩ := H
    try dsimp only at H
    replace hm := Aside0.mk hm
    replace H := Aside0.mk H
    refine ld 0 (some 12) 1 hHeld ?_ (hr := by (intro w' h_; have y_ := kD rBK5 h_; go_simp; with_reducible rfl))
    refine on 1 (some 13) 3 (fun K hK => ?_)
    have hcall := impl_IsEpoch.calls k1 _ _ _ _ _ _ _ _ _ _ W7 (Kd.C_below HR701_2.out HB.out) HC701_2.out (Kd.C_below HR701_4.out HB.out) HC701_4.out hm.out
    refine goes_ Tryz.func90 (by kernel_rfl) rfl #[.agg #[.int .i64 ((rd_T117 l0 x7_1).f0), .int .i64 ((rd_T117 l0 x7_1).f1), .slice A701_2 ((rd_T117 l0 x7_1).f2).length c701_2, .int .i64 ((rd_T117 l0 x7_1).f3.f0), .slice A701_4 ((rd_T117 l0 x7_1).f3.f1).length c701_4]] (by rfl) rfl rfl (by (try simp only [List.map_toArray, List.map_cons, List.map_nil]); first | done | rfl) ?_
    refine hcall.mono ?_
    rintro e W9 ⟨rfl, hb⟩
    refine ⟨_, rfl, ?_⟩
    clear hcall hm
    replace hHeld := below_step hHeld hb
    replace BK5 := bK BK5 hb
    replace HB := bH HB hb; clear hb
    refine hK.out _ _ hHeld (fun hHeld => ?_)
    clear hK K
    refine nr 13 ?_
    replace H := H.out
    replace H := ifD H; rcases H with ⟨c10, H⟩ | ⟨c10, H⟩
    ·subst c10
     replace H := ifD H; rcases H with ⟨c11, H⟩ | ⟨c11, H⟩
     ·replace c11 : 0 < x7_1 := c11
      have c11_0 := decT c11
      replace c11 := Aside0.mk c11
      first | rw [c11_0] | skip
      replace H := ifN H; obtain ⟨c12, H⟩ := H
      have c12_0 := decT c12
      replace c12 := Aside0.mk c12
      first | rw [c12_0] | skip
      replace H := ifN H; obtain ⟨c13, H⟩ := H
      have c13_0 := decT c13
      replace c13 := Aside0.mk c13
      first | rw [c13_0] | skip
      have p704 : 0 ≤ ((wrap64 (x7_1 - 1)) : Int) := (of_decide_eq_true (by assumption))
      have q704 : (wrap64 (x7_1 - 1)) < (l0.length : Int) := (of_decide_eq_true (by assumption))
      obtain ⟨ad704, A704_2, c704_2, A704_4, c704_4, e704, hx704_0, hx704_1, hx704_2, hx704_3, hx704_4, hl704_2, hi704_2, hl704_4, hi704_4⟩ := at_T117 HR0.out (wrap64 (x7_1 - 1)) p704 q704
      obtain rfl : ad701 = ad704 := by injection e704
      have HR704_2 := Aside0.mk hi704_2; have HC704_2 := Aside0.mk hl704_2; clear hi704_2 hl704_2
      have HR704_4 := Aside0.mk hi704_4; have HC704_4 := Aside0.mk hl704_4; clear hi704_4 hl704_4
      replace hx704_0 := Aside0.mk hx704_0
      replace hx704_1 := Aside0.mk hx704_1
      replace hx704_2 := Aside0.mk hx704_2
      replace hx704_3 := Aside0.mk hx704_3
      replace hx704_4 := Aside0.mk hx704_4
      have r704 := eq_true p704; have s704 := eq_true q704
      replace p704 := Aside0.mk p704; replace q704 := Aside0.mk q704
      replace H := ifD H; rcases H with ⟨c14, H⟩ | ⟨c14, H⟩
      ·replace c14 : ((rd_T117 l0 x7_1).f0) ≤ ((rd_T117 l0 (wrap64 (x7_1 - 1))).f0) := c14
       have c14_0 := decT c14
       replace c14 := Aside0.mk c14
       first | rw [c14_0] | skip
       replace H := Aside0.mk H
       refine pu 2 (some 14) 7 ?_; refine pu 3 (some 15) 15 ?_; refine pu 4 (some 16) 31 ?_; refine pu 5 (some 17) 63 ?_; refine pu 6 (some 18) 127 ?_; refine pu 7 (some 19) 255 ?_; refine pu 8 (some 20) 511 ?_; refine pu 9 (some 21) 1023 ?_; refine pu 10 (some 22) 2047 ?_; refine pu 11 (some 23) 4095 ?_; refine pu 13 (some 25) 12287 ?_; refine ld 12 (some 24) 16383 hHeld ?_ (hr := by (intro w' h_; have y0_ := xD HBr h_ hx704_0; have y1_ := xD HBr h_ hx704_1; have y2_ := xD HBr h_ hx704_2; have y3_ := xD HBr h_ hx704_3; have y4_ := xD HBr h_ hx704_4; go_simp; with_reducible rfl)); refine ld 14 (some 26) 32767 hHeld ?_ (hr := by (intro w' h_; have y_ := kD rBK5 h_; go_simp; with_reducible rfl)); refine pu 15 (some 27) 65535 ?_; refine pu 16 (some 28) 131071 ?_; refine sk 17 (some 29) 262143 ?_; refine sk 18 (some 30) 524287 ?_; refine sk 19 (some 31) 1048575 ?_; refine sk 20 (some 32) 2097151 ?_; refine sk 21 (some 33) 4194303 ?_; refine sk 22 (some 34) 8388607 ?_; refine sk 23 (some 35) 16777215 ?_; refine sk 24 (some 36) 33554431 ?_; refine sk 25 (some 37) 67108863 ?_; refine pu 26 (some 38) 134217727 ?_; refine pu 27 (some 39) 268435455 ?_; refine pu 28 (some 40) 536870911 ?_
       refine dn (by kernel_rfl) ?_
       clear hHeld HBr rBK5
       have c_BK5 := blk_cell BK5.out; have z_BK5 := blk_frozen BK5.out
       replace H := H.out
       obtain rfl := Option.some.inj H
       clear H
       go_wp2
       go_ret
       exact ⟨rfl, HB.out⟩
      ·replace c14 : ¬ (((rd_T117 l0 x7_1).f0) ≤ ((rd_T117 l0 (wrap64 (x7_1 - 1))).f0)) := c14
       have c14_0 := decF c14
       replace c14 := Aside0.mk c14
       first | rw [c14_0] | skip
       replace H := Aside0.mk H
       refine pu 2 (some 14) 7 ?_; refine pu 3 (some 15) 15 ?_; refine pu 4 (some 16) 31 ?_; refine pu 5 (some 17) 63 ?_; refine pu 6 (some 18) 127 ?_; refine pu 7 (some 19) 255 ?_; refine pu 8 (some 20) 511 ?_; refine pu 9 (some 21) 1023 ?_; refine pu 10 (some 22) 2047 ?_; refine pu 11 (some 23) 4095 ?_; refine pu 13 (some 25) 12287 ?_; refine ld 12 (some 24) 16383 hHeld ?_ (hr := by (intro w' h_; have y0_ := xD HBr h_ hx704_0; have y1_ := xD HBr h_ hx704_1; have y2_ := xD HBr h_ hx704_2; have y3_ := xD HBr h_ hx704_3; have y4_ := xD HBr h_ hx704_4; go_simp; with_reducible rfl)); refine ld 14 (some 26) 32767 hHeld ?_ (hr := by (intro w' h_; have y_ := kD rBK5 h_; go_simp; with_reducible rfl)); refine pu 15 (some 27) 65535 ?_; refine pu 16 (some 28) 131071 ?_; refine pu 17 (some 29) 262143 ?_; refine pu 18 (some 30) 524287 ?_; refine pu 19 (some 31) 1048575 ?_; refine pu 20 (some 32) 2097151 ?_; refine pu 21 (some 33) 4194303 ?_; refine pu 23 (some 35) 12582911 ?_; refine ld 22 (some 34) 16777215 hHeld ?_ (hr := by (intro w' h_; have y0_ := xD HBr h_ hx704_0; have y1_ := xD HBr h_ hx704_1; have y2_ := xD HBr h_ hx704_2; have y3_ := xD HBr h_ hx704_3; have y4_ := xD HBr h_ hx704_4; go_simp; with_reducible rfl)); refine ld 24 (some 36) 33554431 hHeld ?_ (hr := by (intro w' h_; have y_ := kD rBK5 h_; go_simp; with_reducible rfl)); refine pu 25 (some 37) 67108863 ?_; refine pu 26 (some 38) 134217727 ?_; refine pu 27 (some 39) 268435455 ?_; refine pu 28 (some 40) 536870911 ?_
       refine dn (by kernel_rfl) ?_
       clear hHeld HBr rBK5
       have c_BK5 := blk_cell BK5.out; have z_BK5 := blk_frozen BK5.out
       replace H := H.out
       replace H := ifD H; rcases H with ⟨c15, H⟩ | ⟨c15, H⟩
       ·replace c15 : ((rd_T117 l0 x7_1).f1) < ((rd_T117 l0 (wrap64 (x7_1 - 1))).f1) := c15
        have c15_0 := decT c15
        replace c15 := Aside0.mk c15
        first | rw [c15_0] | skip
        obtain rfl := Option.some.inj H
        clear H
        go_wp2
        go_ret
        exact ⟨rfl, HB.out⟩
       ·replace c15 : ¬ (((rd_T117 l0 x7_1).f1) < ((rd_T117 l0 (wrap64 (x7_1 - 1))).f1)) := c15
        have c15_0 := decF c15
        replace c15 := Aside0.mk c15
        first | rw [c15_0] | skip
        replace H := Aside0.mk H
        go_wp2
        go_roundg k1
        case measure => have := Hk1.out; omega
        case rel => exact ⟨(wrap64 (x7_1 + 1)), (by first | rfl | (simp; done) | (simp [*]; done)), H, ⟨by have := Hk1.out; omega⟩, HB⟩
     ·replace c11 : ¬ (0 < x7_1) := c11
      have c11_0 := decF c11
      replace c11 := Aside0.mk c11
      first | rw [c11_0] | skip
      replace H := Aside0.mk H
      refine pu 2 (some 14) 7 ?_; refine pu 3 (some 15) 15 ?_; refine pu 4 (some 16) 31 ?_; refine pu 5 (some 17) 63 ?_; refine pu 6 (some 18) 127 ?_; refine sk 7 (some 19) 255 ?_; refine sk 8 (some 20) 511 ?_; refine sk 9 (some 21) 1023 ?_; refine sk 10 (some 22) 2047 ?_; refine sk 11 (some 23) 4095 ?_; refine sk 12 (some 24) 8191 ?_; refine sk 13 (some 25) 16383 ?_; refine sk 14 (some 26) 32767 ?_; refine sk 15 (some 27) 65535 ?_; refine sk 16 (some 28) 131071 ?_; refine sk 17 (some 29) 262143 ?_; refine sk 18 (some 30) 524287 ?_; refine sk 19 (some 31) 1048575 ?_; refine sk 20 (some 32) 2097151 ?_; refine sk 21 (some 33) 4194303 ?_; refine sk 22 (some 34) 8388607 ?_; refine sk 23 (some 35) 16777215 ?_; refine sk 24 (some 36) 33554431 ?_; refine sk 25 (some 37) 67108863 ?_; refine sk 26 (some 38) 134217727 ?_; refine pu 27 (some 39) 268435455 ?_; refine pu 28 (some 40) 536870911 ?_
      refine dn (by kernel_rfl) ?_
      clear hHeld HBr rBK5
      have c_BK5 := blk_cell BK5.out; have z_BK5 := blk_frozen BK5.out
      go_wp2
      go_roundg k1
      case measure => have := Hk1.out; omega
      case rel => exact ⟨(wrap64 (x7_1 + 1)), (by first | rfl | (simp; done) | (simp [*]; done)), H, ⟨by have := Hk1.out; omega⟩, HB⟩
    ·replace c10 := (Bool.not_eq_true _).mp c10
     subst c10
     replace H := Aside0.mk H
     refine pu 2 (some 14) 7 ?_; refine pu 3 (some 15) 15 ?_; refine sk 4 (some 16) 31 ?_; refine sk 5 (some 17) 63 ?_; refine sk 6 (some 18) 127 ?_; refine sk 7 (some 19) 255 ?_; refine sk 8 (some 20) 511 ?_; refine sk 9 (some 21) 1023 ?_; refine sk 10 (some 22) 2047 ?_; refine sk 11 (some 23) 4095 ?_; refine sk 12 (some 24) 8191 ?_; refine sk 13 (some 25) 16383 ?_; refine sk 14 (some 26) 32767 ?_; refine sk 15 (some 27) 65535 ?_; refine sk 16 (some 28) 131071 ?_; refine sk 17 (some 29) 262143 ?_; refine sk 18 (some 30) 524287 ?_; refine sk 19 (some 31) 1048575 ?_; refine sk 20 (some 32) 2097151 ?_; refine sk 21 (some 33) 4194303 ?_; refine sk 22 (some 34) 8388607 ?_; refine sk 23 (some 35) 16777215 ?_; refine sk 24 (some 36) 33554431 ?_; refine sk 25 (some 37) 67108863 ?_; refine sk 26 (some 38) 134217727 ?_; refine sk 27 (some 39) 268435455 ?_; refine pu 28 (some 40) 536870911 ?_
     refine dn (by kernel_rfl) ?_
     clear hHeld HBr rBK5
     have c_BK5 := blk_cell BK5.out; have z_BK5 := blk_frozen BK5.out
     replace H := H.out
     obtain rfl := Option.some.inj H
     clear H
     go_wp2
     go_ret
     exact ⟨rfl, HB.out⟩
   ·have c2_0 := decF c2
    replace c2 := Aside0.mk c2
    first | rw [c2_0] | skip
    obtain rfl := Option.some.inj H
    clear H
    go_wp2
    go_ret
    exact ⟨rfl, HB.out⟩

/-! ### impl_isClaim: function 137 -/
def impl_isClaim.f (a0_0 : Int) (a0_1 : Int) (a0_2 : Int) (a0_3 : Int) (a0_4 : Int) (a0_5 : Int) : Option (Bool) := if a0_0 = 1 then ((impl_HasKind.f a0_1 1).bind fun t707 => (if t707 = true then ((impl_InRange.f a0_2 0 5).bind fun t708 => (some t708)) else (some false))) else (if a0_0 = 2 then ((impl_HasKind.f a0_1 1).bind fun t709 => (if t709 = true then ((impl_HasKind.f a0_2 2).bind fun t710 => (some t710)) else (some false))) else (if a0_0 = 3 then ((impl_HasKind.f a0_1 2).bind fun t711 => (if t711 = true then ((impl_InRange.f a0_2 0 3).bind fun t712 => (some t712)) else (some false))) else (if a0_0 = 4 then ((impl_HasKind.f a0_1 3).bind fun t713 => (if t713 = true then ((impl_InRange.f a0_2 0 3).bind fun t714 => (some t714)) else (some false))) else (some false))))
open Go.Proofs.YtineejdlpcgnkaaGreatM in
set_option maxHeartbeats 8000000 in
set_option maxRecDepth 100000 in
theorem impl_isClaim.calls (a0_0 : Int) (a0_1 : Int) (a0_2 : Int) (a0_3 : Int) (a0_4 : Int) (a0_5 : Int) (r : Bool) (w : World) (h : impl_isClaim.f a0_0 a0_1 a0_2 a0_3 a0_4 a0_5 = some r) :
  Calls Tryz.prog 137 #[.agg #[.int .i64 a0_0, .int .i64 a0_1, .int .i64 a0_2, .int .i64 a0_3, .int .i64 a0_4, .int .i64 a0_5]] w fun e w' => e = .returned (.bool r) ∧ Below w.heap.size w w' := by
 have HB := Aside0.mk (Below.refl w.heap.size w)
 have H := h
 clear h
 unfold impl_isClaim.f at H
 have hu53 := Tryz.underlying53
 go_enter Tryz.func137, Tryz.ntmps137
 replace H := Aside0.mk H
 go_upto_region 1 with (first | ((with_reducible refine gate_dst (N := 1) rfl ?_); refine box_event ?hg (N := 1) ?hd (cs := #[.int .i64 a0_0, .int .i64 a0_1, .int .i64 a0_2, .int .i64 a0_3, .int .i64 a0_4, .int .i64 a0_5]) (t := 53) ?hr ?_; (case hd => rfl); (case hg => rfl); (case hr => first | (go_simp; done) | (go_simp; rfl)); intro gb1 hg W1 hbox hb; replace HB := bH HB hb; clear hb; have BK1 := Aside0.mk hbox; have c_BK1 := blk_cell hbox; have z_BK1 := blk_frozen hbox; clear hg hbox))
 replace H := H.out
 replace H := ifD H; rcases H with ⟨c2, H⟩ | ⟨c2, H⟩
 ·have c2_0 := decT c2; have c2_1 := eqT c2; have c2_2 := neT c2
  clear c2
  first | rw [c2_1] | rw [c2_2] | skip
  replace H := Option.bind_eq_some_iff.mp H
  obtain ⟨t707, hm, H⟩ := H
  try dsimp only at H
  replace H := Aside0.mk H
  have hcall := impl_HasKind.calls _ _ _ W1  hm
  clear hm
  go_wp2_with fail
  refine hcall.mono ?_
  rintro e W3 ⟨rfl, hb⟩
  clear hcall
  replace BK1 := bK BK1 hb; replace c_BK1 := blk_cell BK1.out; replace z_BK1 := blk_frozen BK1.out
  replace HB := bH HB hb; clear hb
  replace H := H.out
  replace H := ifD H; rcases H with ⟨c4, H⟩ | ⟨c4, H⟩
  ·subst c4
   replace H := Option.bind_eq_some_iff.mp H
   obtain ⟨t708, hm, H⟩ := H
   try dsimp only at H
   replace H := Aside0.mk H
   have hcall := impl_InRange.calls _ _ _ _ W3  hm
   clear hm
   go_wp2_with fail
   refine hcall.mono ?_
   rintro e W5 ⟨rfl, hb⟩
   clear hcall
   replace BK1 := bK BK1 hb; replace c_BK1 := blk_cell BK1.out; replace z_BK1 := blk_frozen BK1.out
   replace HB := bH HB hb; clear hb
   replace H := H.out
   obtain rfl := Option.some.inj H
   clear H
   go_wp2
   go_ret
   exact ⟨rfl, HB.out⟩
  ·replace c4 := (Bool.not_eq_true _).mp c4
   subst c4
   obtain rfl := Option.some.inj H
   clear H
   go_wp2
   go_ret
   exact ⟨rfl, HB.out⟩
 ·have c2_0 := decF c2; have c2_1 := eqF c2; have c2_2 := neF c2
  clear c2
  first | rw [c2_1] | rw [c2_2] | skip
  replace H := ifD H; rcases H with ⟨c6, H⟩ | ⟨c6, H⟩
  ·have c6_0 := decT c6; have c6_1 := eqT c6; have c6_2 := neT c6
   clear c6
   first | rw [c6_1] | rw [c6_2] | skip
   replace H := Option.bind_eq_some_iff.mp H
   obtain ⟨t709, hm, H⟩ := H
   try dsimp only at H
   replace H := Aside0.mk H
   have hcall := impl_HasKind.calls _ _ _ W1  hm
   clear hm
   go_wp2_with fail
   refine hcall.mono ?_
   rintro e W7 ⟨rfl, hb⟩
   clear hcall
   replace BK1 := bK BK1 hb; replace c_BK1 := blk_cell BK1.out; replace z_BK1 := blk_frozen BK1.out
   replace HB := bH HB hb; clear hb
   replace H := H.out
   replace H := ifD H; rcases H with ⟨c8, H⟩ | ⟨c8, H⟩
   ·subst c8
    replace H := Option.bind_eq_some_iff.mp H
    obtain ⟨t710, hm, H⟩ := H
    try dsimp only at H
    replace H := Aside0.mk H
    have hcall := impl_HasKind.calls _ _ _ W7  hm
    clear hm
    go_wp2_with fail
    refine hcall.mono ?_
    rintro e W9 ⟨rfl, hb⟩
    clear hcall
    replace BK1 := bK BK1 hb; replace c_BK1 := blk_cell BK1.out; replace z_BK1 := blk_frozen BK1.out
    replace HB := bH HB hb; clear hb
    replace H := H.out
    obtain rfl := Option.some.inj H
    clear H
    go_wp2
    go_ret
    exact ⟨rfl, HB.out⟩
   ·replace c8 := (Bool.not_eq_true _).mp c8
    subst c8
    obtain rfl := Option.some.inj H
    clear H
    go_wp2
    go_ret
    exact ⟨rfl, HB.out⟩
  ·have c6_0 := decF c6; have c6_1 := eqF c6; have c6_2 := neF c6
   clear c6
   first | rw [c6_1] | rw [c6_2] | skip
   replace H := ifD H; rcases H with ⟨c10, H⟩ | ⟨c10, H⟩
   ·have c10_0 := decT c10; have c10_1 := eqT c10; have c10_2 := neT c10
    clear c10
    first | rw [c10_1] | rw [c10_2] | skip
    replace H := Option.bind_eq_some_iff.mp H
    obtain ⟨t711, hm, H⟩ := H
    try dsimp only at H
    replace H := Aside0.mk H
    have hcall := impl_HasKind.calls _ _ _ W1  hm
    clear hm
    go_wp2_with fail
    refine hcall.mono ?_
    rintro e W11 ⟨rfl, hb⟩
    clear hcall
    replace BK1 := bK BK1 hb; replace c_BK1 := blk_cell BK1.out; replace z_BK1 := blk_frozen BK1.out
    replace HB := bH HB hb; clear hb
    replace H := H.out
    replace H := ifD H; rcases H with ⟨c12, H⟩ | ⟨c12, H⟩
    ·subst c12
     replace H := Option.bind_eq_some_iff.mp H
     obtain ⟨t712, hm, H⟩ := H
     try dsimp only at H
     replace H := Aside0.mk H
     have hcall := impl_InRange.calls _ _ _ _ W11  hm
     clear hm
     go_wp2_with fail
     refine hcall.mono ?_
     rintro e W13 ⟨rfl, hb⟩
     clear hcall
     replace BK1 := bK BK1 hb; replace c_BK1 := blk_cell BK1.out; replace z_BK1 := blk_frozen BK1.out
     replace HB := bH HB hb; clear hb
     replace H := H.out
     obtain rfl := Option.some.inj H
     clear H
     go_wp2
     go_ret
     exact ⟨rfl, HB.out⟩
    ·replace c12 := (Bool.not_eq_true _).mp c12
     subst c12
     obtain rfl := Option.some.inj H
     clear H
     go_wp2
     go_ret
     exact ⟨rfl, HB.out⟩
   ·have c10_0 := decF c10; have c10_1 := eqF c10; have c10_2 := neF c10
    clear c10
    first | rw [c10_1] | rw [c10_2] | skip
    replace H := ifD H; rcases H with ⟨c14, H⟩ | ⟨c14, H⟩
    ·have c14_0 := decT c14; have c14_1 := eqT c14; have c14_2 := neT c14
     clear c14
     first | rw [c14_1] | rw [c14_2] | skip
     replace H := Option.bind_eq_some_iff.mp H
     obtain ⟨t713, hm, H⟩ := H
     try dsimp only at H
     replace H := Aside0.mk H
     have hcall := impl_HasKind.calls _ _ _ W1  hm
     clear hm
     go_wp2_with fail
     refine hcall.mono ?_
     rintro e W15 ⟨rfl, hb⟩
     clear hcall
     replace BK1 := bK BK1 hb; replace c_BK1 := blk_cell BK1.out; replace z_BK1 := blk_frozen BK1.out
     replace HB := bH HB hb; clear hb
     replace H := H.out
     replace H := ifD H; rcases H with ⟨c16, H⟩ | ⟨c16, H⟩
     ·subst c16
      replace H := Option.bind_eq_some_iff.mp H
      obtain ⟨t714, hm, H⟩ := H
      try dsimp only at H
      replace H := Aside0.mk H
      have hcall := impl_InRange.calls _ _ _ _ W15  hm
      clear hm
      go_wp2_with fail
      refine hcall.mono ?_
      rintro e W17 ⟨rfl, hb⟩
      clear hcall
      replace BK1 := bK BK1 hb; replace c_BK1 := blk_cell BK1.out; replace z_BK1 := blk_frozen BK1.out
      replace HB := bH HB hb; clear hb
      replace H := H.out
      obtain rfl := Option.some.inj H
      clear H
      go_wp2
      go_ret
      exact ⟨rfl, HB.out⟩
     ·replace c16 := (Bool.not_eq_true _).mp c16
      subst c16
      obtain rfl := Option.some.inj H
      clear H
      go_wp2
      go_ret
      exact ⟨rfl, HB.out⟩
    ·have c14_0 := decF c14; have c14_1 := eqF c14; have c14_2 := neF c14
     clear c14
     first | rw [c14_1] | rw [c14_2] | skip
     obtain rfl := Option.some.inj H
     clear H
     go_wp2
     go_ret
     exact ⟨rfl, HB.out⟩

end Go.Proofs.YtineejdlpcgnkaaGreat.QFnExactIsCenter
