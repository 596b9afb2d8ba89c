/- The machine side of FnExactSaveDecision: what each function that it reaches computes, and that the machine's call gives just that. -/
import Derived.Test.YtmgfklmhelabcaaGreatQFnExactSaveDecisionx0
import Derived.Test.YtmgfklmhelabcaaGreatQFnExactSaveDecisionx10
import Derived.Test.YtmgfklmhelabcaaGreatQFnExactSaveDecisionx11
import Derived.Test.YtmgfklmhelabcaaGreatQFnExactSaveDecisionx12
namespace Go.Proofs.YtmgfklmhelabcaaGreat.QFnExactSaveDecision
open Go.RowKit Go.Proofs.YtmgfklmhelabcaaGreatW.PrintWords Go.Proofs.YtmgfklmhelabcaaGreatW.PrintLast Go.Proofs.YtmgfklmhelabcaaGreatW.PrintMore
attribute [local go_sem] max2_int min2_int max_two min_two max_three min_three max_four min_four
set_option maxHeartbeats 8000000
set_option maxRecDepth 100000
open Go.Proofs.YtmgfklmhelabcaaGreatM
set_option linter.unusedVariables false
set_option linter.unusedSimpArgs false
open Go.Proofs.YtmgfklmhelabcaaGreatH in
theorem ixf389.calls (g : Nat) (lb : Array Value) (eg : ∀ args w, (callFunc g args).run Tryz.prog w = .ok (.enter g args) w) (p : S172 → Option Bool) (A0 : Option Addr) (c0 : Nat) (l0 : List S172) (r : Int) (w : World)
  (hp : ∀ (W : World) (x : S172) (E3 : Option Addr) (d3 : Nat) (b : Bool), Below w.heap.size w W → (x).f3.length ≤ d3 → Kd.C k172 W E3 (x).f3.length ((x).f3) → p x = some b → Calls Tryz.prog g (#[.agg #[.int .i64 ((x).f0), .int .i64 ((x).f1), .int .i64 ((x).f2), .slice E3 (x).f3.length d3]] ++ lb) W fun e w' => e = .returned (.bool b) ∧ Below w.heap.size w w')
  (hr0 : Kd.C k172 w A0 l0.length l0) (hc0 : l0.length ≤ c0) (h : idxO p l0 0 = some r) :
  Calls Tryz.prog 389 #[.slice A0 l0.length c0, .func (.func g) #[] lb] w fun e w' => e = .returned (.int .i64 r) ∧ Below w.heap.size w w' := by
 have hu172 := Tryz.underlying172
 have HLEN : Aside0 (l0.length ≤ 9223372036854775807) := ⟨hr0.2.1⟩
 have HR0 := Aside0.mk hr0
 have HC0 := Aside0.mk hc0
 have HP := Aside0.mk hp
 have H' := Aside0.mk (show idxO p (l0.drop (0 : Int).toNat) 0 = some r from h)
 clear hr0 hc0 h hp
 go_enter Tryz.func389, Tryz.ntmps389
 go_wp2
 go_loopg [5, 8] l0.length (fun gg _ v8 wr => ∃ x : Int, v8 = .int .i64 x ∧ Aside0 (0 ≤ x ∧ x ≤ l0.length ∧ l0.length - x.toNat ≤ gg) ∧ Aside0 (Below w.heap.size w wr) ∧ Aside0 (idxO p (l0.drop x.toNat) x = some r))
 case atStart => exact ⟨0, rfl, ⟨by omega, by omega, by omega⟩, ⟨Below.refl _ w⟩, H'⟩
 case round =>
  clear H'
  obtain ⟨x, rfl, HX, BW, HA⟩ := hrel
  by_cases hlt : x < (l0.length : Int)
  rotate_left
  ·have c2b0 := decF hlt; have HN := Aside0.mk hlt; clear hlt; go_wp2; go_ret; exact ⟨by rw [← idxO_end HA.out HX.out.2.1 (by have := HN.out; omega)]; rfl, BW.out⟩
  have c2b0 := decT hlt
  have p1 : 0 ≤ x := HX.out.1
  have q1 : x < (l0.length : Int) := hlt
  obtain ⟨b, hb, ht, hf⟩ := idxO_at (z := z172) HA.out p1 q1
  have HB := Aside0.mk hb
  have HQ := Aside0.mk hlt
  clear hb HA
  obtain ⟨ad, E3, d3, e0, hx0, hx1, hx2, hx3, hl3, hg3⟩ := at_T172 (Kd.C_below HR0.out BW.out) x p1 q1
  cases e0
  have hcall := HP.out wr (rd_T172 l0 x) E3 d3 b BW.out hl3 hg3 HB.out
  have p1' := eq_true p1
  have q1' := eq_true q1
  clear p1 q1 hlt hl3 hg3
  cases b with
  | true =>
   have HT := Aside0.mk (ht rfl); clear ht hf; (go_wp2_with fail)
   refine hcall.mono ?_; rintro e w' ⟨rfl, hb'⟩; clear hcall hx0 hx1 hx2 hx3 eg HP HB; go_wp2; go_ret; exact ⟨by rw [HT.out]; rfl, hb'⟩
  | false =>
   have HF := Aside0.mk (hf rfl); clear ht hf; (go_wp2_with fail)
   refine hcall.mono ?_; rintro e w' ⟨rfl, hb'⟩; clear hcall hx0 hx1 hx2 hx3 eg HP HB; go_wp2; have he : wrap64 (x + 1) = x + 1 := wrap_up HX.out.1 HQ.out HLEN.out; go_roundg (l0.length - (x + 1).toNat)
   case measure => have := HX.out; have := HQ.out; omega
   case rel =>
    refine ⟨x + 1, ?_, ⟨by have := HX.out; omega, by have := HQ.out; omega, Nat.le_refl _⟩, ⟨hb'⟩, HF⟩; simp [he]
open Go.Proofs.YtmgfklmhelabcaaGreatH in
theorem ctf370.calls (g : Nat) (lb : Array Value) (eg : ∀ args w, (callFunc g args).run Tryz.prog w = .ok (.enter g args) w) (p : S172 → Option Bool) (A0 : Option Addr) (c0 : Nat) (l0 : List S172) (r : Int) (w : World)
  (hp : ∀ (W : World) (x : S172) (E3 : Option Addr) (d3 : Nat) (b : Bool), Below w.heap.size w W → (x).f3.length ≤ d3 → Kd.C k172 W E3 (x).f3.length ((x).f3) → p x = some b → Calls Tryz.prog g (#[.agg #[.int .i64 ((x).f0), .int .i64 ((x).f1), .int .i64 ((x).f2), .slice E3 (x).f3.length d3]] ++ lb) W fun e w' => e = .returned (.bool b) ∧ Below w.heap.size w w')
  (hr0 : Kd.C k172 w A0 l0.length l0) (hc0 : l0.length ≤ c0) (h : idxO p l0 0 = some r) :
  Calls Tryz.prog 370 #[.slice A0 l0.length c0, .func (.func g) #[] lb] w fun e w' => e = .returned (.bool (decide (r ≥ 0))) ∧ Below w.heap.size w w' := by
 have hcon := ixf389.calls g lb eg p A0 c0 l0 r w hp hr0 hc0 h
 clear hp hr0 hc0 h eg
 go_enter Tryz.func370, Tryz.ntmps370
 (go_wp2_with fail)
 refine hcon.mono ?_
 rintro e w' ⟨rfl, hb'⟩
 clear hcon
 go_wp2
 go_ret
 exact ⟨rfl, hb'⟩
open Go.Proofs.YtmgfklmhelabcaaGreatH in
def impl_areNodes.f : Nat → Int → Int → Int → List (S172) → Option (Bool)
 | 0, _, _, _, _ => none
 | k + 1, a0_0, a0_1, a0_2, l0_3 => (impl_isNode.f a0_0 a0_1 a0_2 l0_3).bind fun t => (if t = true then ((idxO (fun x : S172 => (impl_areNodes.f k x.f0 x.f1 x.f2 x.f3).bind fun b => some (!b)) l0_3 0).bind fun i => some (!(decide (i ≥ 0)))) else (some false))
open Go.Proofs.YtmgfklmhelabcaaGreatH Go.Proofs.YtmgfklmhelabcaaGreatM in
theorem impl_areNodes.calls (k : Nat) : ∀ (a0_0 : Int) (a0_1 : Int) (a0_2 : Int) (A0_3 : Option Addr) (c0_3 : Nat) (l0_3 : List (S172)) (r : Bool) (w : World) (hr0_3 : Kd.C k172 w A0_3 l0_3.length l0_3) (hc0_3 : l0_3.length ≤ c0_3) (h : impl_areNodes.f k a0_0 a0_1 a0_2 l0_3 = some r),
  Calls Tryz.prog 325 #[.agg #[.int .i64 a0_0, .int .i64 a0_1, .int .i64 a0_2, .slice A0_3 l0_3.length c0_3]] w fun e w' => e = .returned (.bool r) ∧ Below w.heap.size w w' := by
 induction k using Nat.strongRecOn with
 | _ k ih =>
 intro a0_0 a0_1 a0_2 A0_3 c0_3 l0_3 r w hr0_3 hc0_3 h
 cases k with
 | zero => exact absurd h (by simp [impl_areNodes.f])
 | succ k =>
 have hp : ∀ (V W : World) (x : S172) (E3 : Option Addr) (d3 : Nat) (b : Bool), Below V.heap.size V W → (x).f3.length ≤ d3 → Kd.C k172 W E3 (x).f3.length ((x).f3) → (impl_areNodes.f k x.f0 x.f1 x.f2 x.f3).bind (fun b => some (!b)) = some b → Calls Tryz.prog 371 (#[.agg #[.int .i64 ((x).f0), .int .i64 ((x).f1), .int .i64 ((x).f2), .slice E3 (x).f3.length d3]] ++ #[]) W fun e w' => e = .returned (.bool b) ∧ Below V.heap.size V w' := by
  clear h hr0_3 hc0_3
  rintro V w ⟨y0, y1, y2, y3⟩ E3 d3 b hW hd hC hb
  obtain ⟨b', hm, hb'⟩ := Option.bind_eq_some_iff.mp hb
  obtain rfl := Option.some.inj hb'
  dsimp only at hd hC hm
  have HC := Aside0.mk hC
  have HD := Aside0.mk hd
  have HW := Aside0.mk hW
  have HM := Aside0.mk hm
  have HB := Aside0.mk (Below.refl w.heap.size w)
  clear hb hb' hC hd hW hm
  change Calls Tryz.prog 371 #[.agg #[.int .i64 y0, .int .i64 y1, .int .i64 y2, .slice E3 y3.length d3]] w _
  have hu172 := Tryz.underlying172
  go_enter Tryz.func371, Tryz.ntmps371
  go_upto_region 1 with (first | ((with_reducible refine gate_dst (N := 1) rfl ?_); refine box_event ?hg (N := 1) ?hd (cs := #[.int .i64 y0, .int .i64 y1, .int .i64 y2, .slice E3 y3.length d3]) (t := 172) ?hr ?_; (case hd => rfl); (case hg => rfl); (case hr => first | (go_simp; done) | (go_simp; rfl)); intro gb1 hg W1 hbox hb; replace HB := bH HB hb; clear hb; have BK1 := Aside0.mk hbox; have c_BK1 := blk_cell hbox; have z_BK1 := blk_frozen hbox; clear hg hbox))
  have hcall := ih k (Nat.lt_succ_self k) _ _ _ _ _ _ _ W1 (Kd.C_below HC.out HB.out) HD.out HM.out
  (go_wp2_with fail)
  refine hcall.mono ?_
  rintro e W2 ⟨rfl, hb⟩
  clear hcall
  replace HB := bH HB hb; clear hb BK1 c_BK1 z_BK1
  go_wp2
  go_ret
  exact ⟨rfl, (bH HW HB.out).out⟩
 simp only [impl_areNodes.f] at h
 have HR0_3 := Aside0.mk hr0_3
 have HC0_3 := Aside0.mk hc0_3
 clear hr0_3 hc0_3
 have HB := Aside0.mk (Below.refl w.heap.size w)
 have HP := Aside0.mk hp
 have H := Aside0.mk h
 clear h hp ih
 have hu172 := Tryz.underlying172
 go_enter Tryz.func325, Tryz.ntmps325
 go_upto_region 1 with (first | ((with_reducible refine gate_dst (N := 1) rfl ?_); refine box_event ?hg (N := 1) ?hd (cs := #[.int .i64 a0_0, .int .i64 a0_1, .int .i64 a0_2, .slice A0_3 l0_3.length c0_3]) (t := 172) ?hr ?_; (case hd => rfl); (case hg => rfl); (case hr => first | (go_simp; done) | (go_simp; rfl)); intro gb1 hg W1 hbox hb; replace HB := bH HB hb; clear hb; have BK1 := Aside0.mk hbox; have c_BK1 := blk_cell hbox; have z_BK1 := blk_frozen hbox; clear hg hbox))
 replace H := H.out
 obtain ⟨t, hm, H⟩ := Option.bind_eq_some_iff.mp H
 replace H := Aside0.mk H
 have hcall := impl_isNode.calls _ _ _ _ _ _ _ W1 (Kd.C_below HR0_3.out HB.out) HC0_3.out hm
 clear hm
 (go_wp2_with fail)
 refine hcall.mono ?_
 rintro e W2 ⟨rfl, hb⟩
 clear hcall
 replace BK1 := bK BK1 hb; replace c_BK1 := bcl BK1; replace z_BK1 := bfr BK1
 replace HB := bH HB hb; clear hb
 replace H := ifD H.out; rcases H with ⟨c3, H⟩ | ⟨c3, H⟩
 rotate_left
 ·replace c3 := nT c3
  subst c3
  cases H
  go_wp2
  go_ret
  exact ⟨rfl, HB.out⟩
 subst c3
 obtain ⟨i, hm, H⟩ := Option.bind_eq_some_iff.mp H
 cases H
 have eg : ∀ args w, (callFunc 371 args).run Tryz.prog w = .ok (.enter 371 args) w := Go.Proofs.YtmgfklmhelabcaaGreatH.enters Tryz.func371 (by kernel_rfl) rfl
 have hcall := ctf370.calls 371 #[] eg (fun x : S172 => (impl_areNodes.f k x.f0 x.f1 x.f2 x.f3).bind fun b => some (!b)) _ _ _ _ W2 (HP.out W2) (Kd.C_below HR0_3.out HB.out) HC0_3.out hm
 clear hm HP
 (go_wp2_with fail)
 refine hcall.mono ?_
 rintro e W3 ⟨rfl, hb⟩
 clear hcall eg
 replace HB := bH HB hb; clear hb BK1 c_BK1 z_BK1
 go_wp2
 go_ret
 exact ⟨rfl, HB.out⟩
def impl_IsCond.f (k : Nat) (a0_0 : Int) (a0_1 : Int) (a0_2 : Int) (l0_3 : List (S172)) : Option (Bool) := (impl_SizeOf.f k a0_0 a0_1 a0_2 l0_3).bind fun t526 => (if t526 ≤ 15 then ((impl_areNodes.f k a0_0 a0_1 a0_2 l0_3).bind fun t527 => (some t527)) else (some false))
theorem impl_IsCond.calls (k : Nat) (a0_0 : Int) (a0_1 : Int) (a0_2 : Int) (A0_3 : Option Addr) (c0_3 : Nat) (l0_3 : List (S172)) (r : Bool) (w : World) (hr0_3 : Kd.C k172 w A0_3 l0_3.length l0_3) (hc0_3 : l0_3.length ≤ c0_3) (h : impl_IsCond.f k a0_0 a0_1 a0_2 l0_3 = some r) :
  Calls Tryz.prog 233 #[.agg #[.int .i64 a0_0, .int .i64 a0_1, .int .i64 a0_2, .slice A0_3 l0_3.length c0_3]] w fun e w' => e = .returned (.bool r) ∧ Below w.heap.size w w' := by
 have HR0_3 := Aside0.mk hr0_3
 have HC0_3 := Aside0.mk hc0_3
 clear hr0_3 hc0_3
 have HB := Aside0.mk (Below.refl w.heap.size w)
 have H := h
 clear h
 unfold impl_IsCond.f at H
 have hu172 := Tryz.underlying172
 go_enter Tryz.func233, Tryz.ntmps233
 replace H := Aside0.mk H
 go_upto_region 1 with (first | ((with_reducible refine gate_dst (N := 1) rfl ?_); refine box_event ?hg (N := 1) ?hd (cs := #[.int .i64 a0_0, .int .i64 a0_1, .int .i64 a0_2, .slice A0_3 l0_3.length c0_3]) (t := 172) ?hr ?_; (case hd => rfl); (case hg => rfl); (case hr => first | (go_simp; done) | (go_simp; rfl)); intro gb1 hg W1 hbox hb; replace HB := bH HB hb; clear hb; have BK1 := Aside0.mk hbox; have c_BK1 := blk_cell hbox; have z_BK1 := blk_frozen hbox; clear hg hbox))
 replace H := H.out
 replace H := obs H
 obtain ⟨t526, hm, H⟩ := H
 (try dsimp only at H)
 replace H := Aside0.mk H
 have hcall := impl_SizeOf.calls k _ _ _ _ _ _ _ W1 (Kd.C_below HR0_3.out HB.out) HC0_3.out hm
 clear hm
 (go_wp2_with fail)
 refine hcall.mono ?_
 rintro e W2 ⟨rfl, hb⟩
 clear hcall
 replace BK1 := bK BK1 hb; replace c_BK1 := bcl BK1; replace z_BK1 := bfr BK1
 replace HB := bH HB hb; clear hb
 replace H := ifD H.out; rcases H with ⟨c3, H⟩ | ⟨c3, H⟩
 rotate_left
 ·have c3_0 := decF c3
  replace c3 := Aside0.mk c3
  (try rw [c3_0])
  cases H
  go_wp2
  go_ret
  exact ⟨rfl, HB.out⟩
 have c3_0 := decT c3
 replace c3 := Aside0.mk c3
 (try rw [c3_0])
 replace H := obs H
 obtain ⟨t527, hm, H⟩ := H
 (try dsimp only at H)
 replace H := Aside0.mk H
 have hcall := impl_areNodes.calls k _ _ _ _ _ _ _ W2 (Kd.C_below HR0_3.out HB.out) HC0_3.out hm
 clear hm
 (go_wp2_with fail)
 refine hcall.mono ?_
 rintro e W4 ⟨rfl, hb⟩
 clear hcall
 replace BK1 := bK BK1 hb; replace c_BK1 := bcl BK1; replace z_BK1 := bfr BK1
 replace HB := bH HB hb; clear hb
 replace H := H.out
 cases H
 go_wp2
 go_ret
 exact ⟨rfl, HB.out⟩
def impl_IsRule.f (k : Nat) (a0_0 : Int) (a0_1 : Int) (a0_2 : Int) (a0_3 : Int) (a0_4 : Int) (a0_5 : Int) (l0_6 : List (S172)) : Option (Bool) := (impl_InRange.f a0_0 0 1).bind fun t529 => (if t529 = true then ((impl_InRange.f a0_1 (-1) 5).bind fun t530 => (if t530 = true then (if a0_2 = (-1) then ((impl_IsCond.f k a0_3 a0_4 a0_5 l0_6).bind fun t531 => (some t531)) else ((impl_HasKind.f a0_2 4).bind fun t532 => (if t532 = true then ((impl_IsCond.f k a0_3 a0_4 a0_5 l0_6).bind fun t533 => (some t533)) else (some false)))) else (some false))) else (some false))
theorem impl_IsRule.calls (k : Nat) (a0_0 : Int) (a0_1 : Int) (a0_2 : Int) (a0_3 : Int) (a0_4 : Int) (a0_5 : Int) (A0_6 : Option Addr) (c0_6 : Nat) (l0_6 : List (S172)) (r : Bool) (w : World) (hr0_6 : Kd.C k172 w A0_6 l0_6.length l0_6) (hc0_6 : l0_6.length ≤ c0_6) (h : impl_IsRule.f k a0_0 a0_1 a0_2 a0_3 a0_4 a0_5 l0_6 = some r) :
  Calls Tryz.prog 112 #[.agg #[.int .i64 a0_0, .int .i64 a0_1, .int .i64 a0_2, .int .i64 a0_3, .int .i64 a0_4, .int .i64 a0_5, .slice A0_6 l0_6.length c0_6]] w fun e w' => e = .returned (.bool r) ∧ Below w.heap.size w w' := by
 have HR0_6 := Aside0.mk hr0_6
 have HC0_6 := Aside0.mk hc0_6
 clear hr0_6 hc0_6
 have HB := Aside0.mk (Below.refl w.heap.size w)
 have H := h
 clear h
 unfold impl_IsRule.f at H
 have hu172 := Tryz.underlying172
 have hu174 := Tryz.underlying174
 go_enter Tryz.func112, Tryz.ntmps112
 replace H := Aside0.mk H
 go_upto_region 1 with (first | ((with_reducible refine gate_dst (N := 1) rfl ?_); refine box_event ?hg (N := 1) ?hd (cs := #[.int .i64 a0_0, .int .i64 a0_1, .int .i64 a0_2, .int .i64 a0_3, .int .i64 a0_4, .int .i64 a0_5, .slice A0_6 l0_6.length c0_6]) (t := 174) ?hr ?_; (case hd => rfl); (case hg => rfl); (case hr => first | (go_simp; done) | (go_simp; rfl)); intro gb1 hg W1 hbox hb; replace HB := bH HB hb; clear hb; have BK1 := Aside0.mk hbox; have c_BK1 := blk_cell hbox; have z_BK1 := blk_frozen hbox; clear hg hbox))
 replace H := H.out
 replace H := obs H
 obtain ⟨t529, hm, H⟩ := H
 (try dsimp only at H)
 replace H := Aside0.mk H
 have hcall := impl_InRange.calls _ _ _ _ W1  hm
 clear hm
 (go_wp2_with fail)
 refine hcall.mono ?_
 rintro e W2 ⟨rfl, hb⟩
 clear hcall
 replace BK1 := bK BK1 hb; replace c_BK1 := bcl BK1; replace z_BK1 := bfr BK1
 replace HB := bH HB hb; clear hb
 replace H := ifD H.out; rcases H with ⟨c3, H⟩ | ⟨c3, H⟩
 rotate_left
 ·replace c3 := nT c3
  subst c3
  cases H
  go_wp2
  go_ret
  exact ⟨rfl, HB.out⟩
 subst c3
 replace H := obs H
 obtain ⟨t530, hm, H⟩ := H
 (try dsimp only at H)
 replace H := Aside0.mk H
 have hcall := impl_InRange.calls _ _ _ _ W2  hm
 clear hm
 (go_wp2_with fail)
 refine hcall.mono ?_
 rintro e W4 ⟨rfl, hb⟩
 clear hcall
 replace BK1 := bK BK1 hb; replace c_BK1 := bcl BK1; replace z_BK1 := bfr BK1
 replace HB := bH HB hb; clear hb
 replace H := ifD H.out; rcases H with ⟨c5, H⟩ | ⟨c5, H⟩
 rotate_left
 ·replace c5 := nT c5
  subst c5
  cases H
  go_wp2
  go_ret
  exact ⟨rfl, HB.out⟩
 subst c5
 replace H := ifD H; rcases H with ⟨c6, H⟩ | ⟨c6, H⟩
 ·obtain ⟨c6_0, c6_1, c6_2⟩ := d3T c6
  clear c6
  (first | rw [c6_1] | rw [c6_2] | skip)
  replace H := obs H
  obtain ⟨t531, hm, H⟩ := H
  (try dsimp only at H)
  replace H := Aside0.mk H
  have hcall := impl_IsCond.calls k _ _ _ _ _ _ _ W4 (Kd.C_below HR0_6.out HB.out) HC0_6.out hm
  clear hm
  (go_wp2_with fail)
  refine hcall.mono ?_
  rintro e W7 ⟨rfl, hb⟩
  clear hcall
  replace BK1 := bK BK1 hb; replace c_BK1 := bcl BK1; replace z_BK1 := bfr BK1
  replace HB := bH HB hb; clear hb
  replace H := H.out
  cases H
  go_wp2
  go_ret
  exact ⟨rfl, HB.out⟩
 obtain ⟨c6_0, c6_1, c6_2⟩ := d3F c6
 clear c6
 (first | rw [c6_1] | rw [c6_2] | skip)
 replace H := obs H
 obtain ⟨t532, hm, H⟩ := H
 (try dsimp only at H)
 replace H := Aside0.mk H
 have hcall := impl_HasKind.calls _ _ _ W4  hm
 clear hm
 (go_wp2_with fail)
 refine hcall.mono ?_
 rintro e W8 ⟨rfl, hb⟩
 clear hcall
 replace BK1 := bK BK1 hb; replace c_BK1 := bcl BK1; replace z_BK1 := bfr BK1
 replace HB := bH HB hb; clear hb
 replace H := ifD H.out; rcases H with ⟨c9, H⟩ | ⟨c9, H⟩
 rotate_left
 ·replace c9 := nT c9
  subst c9
  cases H
  go_wp2
  go_ret
  exact ⟨rfl, HB.out⟩
 subst c9
 replace H := obs H
 obtain ⟨t533, hm, H⟩ := H
 (try dsimp only at H)
 replace H := Aside0.mk H
 have hcall := impl_IsCond.calls k _ _ _ _ _ _ _ W8 (Kd.C_below HR0_6.out HB.out) HC0_6.out hm
 clear hm
 (go_wp2_with fail)
 refine hcall.mono ?_
 rintro e W10 ⟨rfl, hb⟩
 clear hcall
 replace BK1 := bK BK1 hb; replace c_BK1 := bcl BK1; replace z_BK1 := bfr BK1
 replace HB := bH HB hb; clear hb
 replace H := H.out
 cases H
 go_wp2
 go_ret
 exact ⟨rfl, HB.out⟩
def cl111.f (k : Nat) (a0_0 : Int) (a0_1 : Int) (a0_2 : Int) (a0_3 : Int) (a0_4 : Int) (a0_5 : Int) (l0_6 : List (S172)) : Option (Bool) := (impl_IsRule.f k a0_0 a0_1 a0_2 a0_3 a0_4 a0_5 l0_6).bind fun t535 => (some (!t535))
theorem cl111.calls (k : Nat) (a0_0 : Int) (a0_1 : Int) (a0_2 : Int) (a0_3 : Int) (a0_4 : Int) (a0_5 : Int) (A0_6 : Option Addr) (c0_6 : Nat) (l0_6 : List (S172))   (r : Bool) (w0 w : World) (hr0_6 : Kd.C k172 w A0_6 l0_6.length l0_6) (hc0_6 : l0_6.length ≤ c0_6) (hb : Below w0.heap.size w0 w) (h : cl111.f k a0_0 a0_1 a0_2 a0_3 a0_4 a0_5 l0_6 = some r) :
  Calls Tryz.prog 111 #[.agg #[.int .i64 a0_0, .int .i64 a0_1, .int .i64 a0_2, .int .i64 a0_3, .int .i64 a0_4, .int .i64 a0_5, .slice A0_6 l0_6.length c0_6]] w fun e w' => e = .returned (.bool r) ∧ Below w0.heap.size w0 w' := by
 have HR0_6 := Aside0.mk hr0_6
 have HC0_6 := Aside0.mk hc0_6
 clear hr0_6 hc0_6
 have HB0 := Aside0.mk hb; clear hb
 have HB := Aside0.mk (Below.refl w.heap.size w)
 have H := h
 clear h
 unfold cl111.f at H
 have hu174 := Tryz.underlying174
 go_enter Tryz.func111, Tryz.ntmps111
 replace H := Aside0.mk H
 go_upto_region 1 with (first | ((with_reducible refine gate_dst (N := 1) rfl ?_); refine box_event ?hg (N := 1) ?hd (cs := #[.int .i64 a0_0, .int .i64 a0_1, .int .i64 a0_2, .int .i64 a0_3, .int .i64 a0_4, .int .i64 a0_5, .slice A0_6 l0_6.length c0_6]) (t := 174) ?hr ?_; (case hd => rfl); (case hg => rfl); (case hr => first | (go_simp; done) | (go_simp; rfl)); intro gb1 hg W1 hbox hb; replace HB := bH HB hb; clear hb; have BK1 := Aside0.mk hbox; have c_BK1 := blk_cell hbox; have z_BK1 := blk_frozen hbox; clear hg hbox))
 replace H := H.out
 replace H := obs H
 obtain ⟨t535, hm, H⟩ := H
 (try dsimp only at H)
 replace H := Aside0.mk H
 have hcall := impl_IsRule.calls k _ _ _ _ _ _ _ _ _ _ W1 (Kd.C_below HR0_6.out HB.out) HC0_6.out hm
 clear hm
 (go_wp2_with fail)
 refine hcall.mono ?_
 rintro e W2 ⟨rfl, hb⟩
 clear hcall
 replace BK1 := bK BK1 hb; replace c_BK1 := bcl BK1; replace z_BK1 := bfr BK1
 replace HB := bH HB hb; clear hb
 replace H := H.out
 cases H
 go_wp2
 go_ret
 exact ⟨rfl, below_step HB0.out HB.out⟩
open Go.Proofs.YtmgfklmhelabcaaGreatH in
theorem ixf232.calls (g : Nat) (lb : Array Value) (eg : ∀ args w, (callFunc g args).run Tryz.prog w = .ok (.enter g args) w) (p : S174 → Option Bool) (A0 : Option Addr) (c0 : Nat) (l0 : List S174) (r : Int) (w : World)
  (hp : ∀ (W : World) (x : S174) (E6 : Option Addr) (d6 : Nat) (b : Bool), Below w.heap.size w W → (x).f3.f3.length ≤ d6 → Kd.C k172 W E6 (x).f3.f3.length ((x).f3.f3) → p x = some b → Calls Tryz.prog g (#[.agg #[.int .i64 ((x).f0), .int .i64 ((x).f1), .int .i64 ((x).f2), .int .i64 ((x).f3.f0), .int .i64 ((x).f3.f1), .int .i64 ((x).f3.f2), .slice E6 (x).f3.f3.length d6]] ++ lb) W fun e w' => e = .returned (.bool b) ∧ Below w.heap.size w w')
  (hr0 : Kd.C k174 w A0 l0.length l0) (hc0 : l0.length ≤ c0) (h : idxO p l0 0 = some r) :
  Calls Tryz.prog 232 #[.slice A0 l0.length c0, .func (.func g) #[] lb] w fun e w' => e = .returned (.int .i64 r) ∧ Below w.heap.size w w' := by
 have hu174 := Tryz.underlying174
 have HLEN : Aside0 (l0.length ≤ 9223372036854775807) := ⟨hr0.2.1⟩
 have HR0 := Aside0.mk hr0
 have HC0 := Aside0.mk hc0
 have HP := Aside0.mk hp
 have H' := Aside0.mk (show idxO p (l0.drop (0 : Int).toNat) 0 = some r from h)
 clear hr0 hc0 h hp
 go_enter Tryz.func232, Tryz.ntmps232
 go_wp2
 go_loopg [5, 8] l0.length (fun gg _ v8 wr => ∃ x : Int, v8 = .int .i64 x ∧ Aside0 (0 ≤ x ∧ x ≤ l0.length ∧ l0.length - x.toNat ≤ gg) ∧ Aside0 (Below w.heap.size w wr) ∧ Aside0 (idxO p (l0.drop x.toNat) x = some r))
 case atStart => exact ⟨0, rfl, ⟨by omega, by omega, by omega⟩, ⟨Below.refl _ w⟩, H'⟩
 case round =>
  clear H'
  obtain ⟨x, rfl, HX, BW, HA⟩ := hrel
  by_cases hlt : x < (l0.length : Int)
  rotate_left
  ·have c2b0 := decF hlt; have HN := Aside0.mk hlt; clear hlt; go_wp2; go_ret; exact ⟨by rw [← idxO_end HA.out HX.out.2.1 (by have := HN.out; omega)]; rfl, BW.out⟩
  have c2b0 := decT hlt
  have p1 : 0 ≤ x := HX.out.1
  have q1 : x < (l0.length : Int) := hlt
  obtain ⟨b, hb, ht, hf⟩ := idxO_at (z := z174) HA.out p1 q1
  have HB := Aside0.mk hb
  have HQ := Aside0.mk hlt
  clear hb HA
  obtain ⟨ad, E6, d6, e0, hx0, hx1, hx2, hx3, hx4, hx5, hx6, hl6, hg6⟩ := at_T174 (Kd.C_below HR0.out BW.out) x p1 q1
  cases e0
  have hcall := HP.out wr (rd_T174 l0 x) E6 d6 b BW.out hl6 hg6 HB.out
  have p1' := eq_true p1
  have q1' := eq_true q1
  clear p1 q1 hlt hl6 hg6
  cases b with
  | true =>
   have HT := Aside0.mk (ht rfl); clear ht hf; (go_wp2_with fail)
   refine hcall.mono ?_; rintro e w' ⟨rfl, hb'⟩; clear hcall hx0 hx1 hx2 hx3 hx4 hx5 hx6 eg HP HB; go_wp2; go_ret; exact ⟨by rw [HT.out]; rfl, hb'⟩
  | false =>
   have HF := Aside0.mk (hf rfl); clear ht hf; (go_wp2_with fail)
   refine hcall.mono ?_; rintro e w' ⟨rfl, hb'⟩; clear hcall hx0 hx1 hx2 hx3 hx4 hx5 hx6 eg HP HB; go_wp2; have he : wrap64 (x + 1) = x + 1 := wrap_up HX.out.1 HQ.out HLEN.out; go_roundg (l0.length - (x + 1).toNat)
   case measure => have := HX.out; have := HQ.out; omega
   case rel =>
    refine ⟨x + 1, ?_, ⟨by have := HX.out; omega, by have := HQ.out; omega, Nat.le_refl _⟩, ⟨hb'⟩, HF⟩; simp [he]
open Go.Proofs.YtmgfklmhelabcaaGreatH in
theorem ctf110.calls (g : Nat) (lb : Array Value) (eg : ∀ args w, (callFunc g args).run Tryz.prog w = .ok (.enter g args) w) (p : S174 → Option Bool) (A0 : Option Addr) (c0 : Nat) (l0 : List S174) (r : Int) (w : World)
  (hp : ∀ (W : World) (x : S174) (E6 : Option Addr) (d6 : Nat) (b : Bool), Below w.heap.size w W → (x).f3.f3.length ≤ d6 → Kd.C k172 W E6 (x).f3.f3.length ((x).f3.f3) → p x = some b → Calls Tryz.prog g (#[.agg #[.int .i64 ((x).f0), .int .i64 ((x).f1), .int .i64 ((x).f2), .int .i64 ((x).f3.f0), .int .i64 ((x).f3.f1), .int .i64 ((x).f3.f2), .slice E6 (x).f3.f3.length d6]] ++ lb) W fun e w' => e = .returned (.bool b) ∧ Below w.heap.size w w')
  (hr0 : Kd.C k174 w A0 l0.length l0) (hc0 : l0.length ≤ c0) (h : idxO p l0 0 = some r) :
  Calls Tryz.prog 110 #[.slice A0 l0.length c0, .func (.func g) #[] lb] w fun e w' => e = .returned (.bool (decide (r ≥ 0))) ∧ Below w.heap.size w w' := by
 have hcon := ixf232.calls g lb eg p A0 c0 l0 r w hp hr0 hc0 h
 clear hp hr0 hc0 h eg
 go_enter Tryz.func110, Tryz.ntmps110
 (go_wp2_with fail)
 refine hcon.mono ?_
 rintro e w' ⟨rfl, hb'⟩
 clear hcon
 go_wp2
 go_ret
 exact ⟨rfl, hb'⟩
def impl_IsPolicy.f (k : Nat) (a0_0 : Int) (l0_1 : List (S174)) : Option (Bool) := (impl_InRange.f a0_0 0 999).bind fun t537 => (if t537 = true then (if (l0_1.length : Int) ≤ 8 then ((Go.Proofs.YtmgfklmhelabcaaGreatH.idxO (fun x => cl111.f k x.f0 x.f1 x.f2 x.f3.f0 x.f3.f1 x.f3.f2 x.f3.f3) l0_1 0).bind fun t538 => (some (!(decide (t538 ≥ 0))))) else (some false)) else (some false))
theorem impl_IsPolicy.calls (k : Nat) (a0_0 : Int) (A0_1 : Option Addr) (c0_1 : Nat) (l0_1 : List (S174)) (r : Bool) (w : World) (hr0_1 : Kd.C k174 w A0_1 l0_1.length l0_1) (hc0_1 : l0_1.length ≤ c0_1) (h : impl_IsPolicy.f k a0_0 l0_1 = some r) :
  Calls Tryz.prog 34 #[.agg #[.int .i64 a0_0, .slice A0_1 l0_1.length c0_1]] w fun e w' => e = .returned (.bool r) ∧ Below w.heap.size w w' := by
 have HR0_1 := Aside0.mk hr0_1
 have HC0_1 := Aside0.mk hc0_1
 clear hr0_1 hc0_1
 have HB := Aside0.mk (Below.refl w.heap.size w)
 have H := h
 clear h
 unfold impl_IsPolicy.f at H
 have hu39 := Tryz.underlying39
 go_enter Tryz.func34, Tryz.ntmps34
 replace H := Aside0.mk H
 go_upto_region 1 with (first | ((with_reducible refine gate_dst (N := 1) rfl ?_); refine box_event ?hg (N := 1) ?hd (cs := #[.int .i64 a0_0, .slice A0_1 l0_1.length c0_1]) (t := 39) ?hr ?_; (case hd => rfl); (case hg => rfl); (case hr => first | (go_simp; done) | (go_simp; rfl)); intro gb1 hg W1 hbox hb; replace HB := bH HB hb; clear hb; have BK1 := Aside0.mk hbox; have c_BK1 := blk_cell hbox; have z_BK1 := blk_frozen hbox; clear hg hbox))
 replace H := H.out
 replace H := obs H
 obtain ⟨t537, hm, H⟩ := H
 (try dsimp only at H)
 replace H := Aside0.mk H
 have hcall := impl_InRange.calls _ _ _ _ W1  hm
 clear hm
 (go_wp2_with fail)
 refine hcall.mono ?_
 rintro e W2 ⟨rfl, hb⟩
 clear hcall
 replace BK1 := bK BK1 hb; replace c_BK1 := bcl BK1; replace z_BK1 := bfr BK1
 replace HB := bH HB hb; clear hb
 replace H := ifD H.out; rcases H with ⟨c3, H⟩ | ⟨c3, H⟩
 rotate_left
 ·replace c3 := nT c3
  subst c3
  cases H
  go_wp2
  go_ret
  exact ⟨rfl, HB.out⟩
 subst c3
 replace H := ifD H; rcases H with ⟨c4, H⟩ | ⟨c4, H⟩
 rotate_left
 ·have c4_x0 := decF (by omega)
  have c4_0 := decF c4
  replace c4 := Aside0.mk c4
  (try rw [c4_0])
  cases H
  go_wp2
  go_ret
  exact ⟨rfl, HB.out⟩
 have c4_x0 := decT (by omega)
 have c4_0 := decT c4
 replace c4 := Aside0.mk c4
 (try rw [c4_0])
 replace H := obs H
 obtain ⟨t538, hm, H⟩ := H
 (try dsimp only at H)
 replace hm := Aside0.mk hm
 replace H := Aside0.mk H
 have eg : ∀ args w, (callFunc 111 args).run Tryz.prog w = .ok (.enter 111 args) w := Go.Proofs.YtmgfklmhelabcaaGreatH.enters Tryz.func111 (by kernel_rfl) rfl
 have hcall := ctf110.calls 111 #[] eg _ _ _ _ _ W2 (fun W_ x_ E6 d6 b_ hW_ u6 v6 hp_ => cl111.calls k _ _ _ _ _ _ E6 d6 _  b_ W2 W_   v6 u6 hW_ hp_) (Kd.C_below HR0_1.out HB.out) HC0_1.out hm.out
 clear hm
 (go_wp2_with fail)
 refine hcall.mono ?_
 rintro e W5 ⟨rfl, hb⟩
 clear hcall eg
 replace BK1 := bK BK1 hb; replace c_BK1 := bcl BK1; replace z_BK1 := bfr BK1
 replace HB := bH HB hb; clear hb
 replace H := H.out
 cases H
 go_wp2
 go_ret
 exact ⟨rfl, HB.out⟩
def impl_AtTime.f (a0_0 : Int) (a0_1 : Int) (a0_2 : Int) (a0_3 : Int) (a0_4 : Int) (a0_5 : Int) (a1 : Int) : Option (Int × Int × Int × Int × Int × Int) := some (a0_0, a0_1, a0_2, a0_3, a0_4, a1)
theorem impl_AtTime.calls (a0_0 : Int) (a0_1 : Int) (a0_2 : Int) (a0_3 : Int) (a0_4 : Int) (a0_5 : Int) (a1 : Int) (r1 : Int) (r2 : Int) (r3 : Int) (r4 : Int) (r5 : Int) (r6 : Int) (w : World) (h : impl_AtTime.f a0_0 a0_1 a0_2 a0_3 a0_4 a0_5 a1 = some (r1, r2, r3, r4, r5, r6)) :
  Calls Tryz.prog 35 #[.agg #[.int .i64 a0_0, .int .i64 a0_1, .int .i64 a0_2, .int .i64 a0_3, .int .i64 a0_4, .int .i64 a0_5], .int .i64 a1] w fun e w' => e = .returned (.agg #[.int .i64 r1, .int .i64 r2, .int .i64 r3, .int .i64 r4, .int .i64 r5, .int .i64 r6]) ∧ Below w.heap.size w w' := by
 have hu41 := Tryz.underlying41
 have HB := Aside0.mk (Below.refl w.heap.size w)
 (try unfold impl_AtTime.f at h)
 have H := h
 clear h
 simp only [Option.some.injEq, Prod.mk.injEq] at H
 obtain ⟨rfl, rfl, rfl, rfl, rfl, rfl⟩ := H
 go_enter Tryz.func35, Tryz.ntmps35
 go_wp2_with (first | ((with_reducible refine gate_dst (N := 2) rfl ?_); refine box_event ?hg (N := 2) ?hd (cs := #[.int .i64 a0_0, .int .i64 a0_1, .int .i64 a0_2, .int .i64 a0_3, .int .i64 a0_4, .int .i64 a0_5]) (t := 41) ?hr ?_; (case hd => rfl); (case hg => rfl); (case hr => first | (go_simp; done) | (go_simp; rfl)); intro gb539 hg w3 hbox hb; have n0_ := Aside0.mk (below_step zB hb); have n1_ := Aside0.mk (hbox); have n2_ := Aside0.mk ((by rw [hg]; exact (below_size zB) : w.heap.size ≤ gb539)); have n3_ := Aside0.mk ((by rw [hg]; exact (below_size zB) : w.heap.size ≤ gb539)); clear HB; have HB := n0_; have BK539 := n1_; have GW539 := n2_; have GE539 := n3_; clear n0_ n1_ n2_ n3_; clear hb hbox hg) | ((with_reducible refine gate_dst (N := 4) rfl ?_); refine box_event ?hg (N := 4) ?hd (cs := #[.int .i64 0, .int .i64 0, .int .i64 0, .int .i64 0, .int .i64 0, .int .i64 0]) (t := 41) ?hr ?_; (case hd => rfl); (case hg => rfl); (case hr => first | (go_simp; done) | (go_simp; rfl)); intro gb540 hg w4 hbox hb; have n0_ := Aside0.mk (blk_below (g := gb539) (o := .cells #[.int .i64 a0_0, .int .i64 a0_1, .int .i64 a0_2, .int .i64 a0_3, .int .i64 a0_4, .int .i64 a0_5] 41 (0, 0)) (zX BK539) hb); have n1_ := Aside0.mk (below_step zB hb); have n2_ := Aside0.mk (hbox); have n3_ := Aside0.mk ((by rw [hg]; exact (below_size zB) : w.heap.size ≤ gb540)); have n4_ := Aside0.mk ((by rw [hg]; exact (below_size zB) : w.heap.size ≤ gb540)); have n5_ := Aside0.mk ((by rw [hg]; exact Nat.ne_of_lt (blk_lt (g := gb539) (o := .cells #[.int .i64 a0_0, .int .i64 a0_1, .int .i64 a0_2, .int .i64 a0_3, .int .i64 a0_4, .int .i64 a0_5] 41 (0, 0)) (zX BK539)) : gb539 ≠ gb540)); have n6_ := Aside0.mk ((by rw [hg]; exact Nat.ne_of_gt (blk_lt (g := gb539) (o := .cells #[.int .i64 a0_0, .int .i64 a0_1, .int .i64 a0_2, .int .i64 a0_3, .int .i64 a0_4, .int .i64 a0_5] 41 (0, 0)) (zX BK539)) : gb540 ≠ gb539)); clear BK539; clear HB; have BK539 := n0_; have HB := n1_; have BK540 := n2_; have GW540 := n3_; have GE540 := n4_; have NB539_540 := n5_; have NB540_539 := n6_; clear n0_ n1_ n2_ n3_ n4_ n5_ n6_; clear hb hbox hg; have hnb5 := NB539_540.out; have hnc5 := NB540_539.out; have hcz6_0 : w4.cell? ⟨gb539, 0, none⟩ = some (.int .i64 a0_0) := (blk_cell BK539.out 0).trans rfl; have hcz6_1 : w4.cell? ⟨gb539, 1, none⟩ = some (.int .i64 a0_1) := (blk_cell BK539.out 1).trans rfl; have hcz6_2 : w4.cell? ⟨gb539, 2, none⟩ = some (.int .i64 a0_2) := (blk_cell BK539.out 2).trans rfl; have hcz6_3 : w4.cell? ⟨gb539, 3, none⟩ = some (.int .i64 a0_3) := (blk_cell BK539.out 3).trans rfl; have hcz6_4 : w4.cell? ⟨gb539, 4, none⟩ = some (.int .i64 a0_4) := (blk_cell BK539.out 4).trans rfl; have hcz6_5 : w4.cell? ⟨gb539, 5, none⟩ = some (.int .i64 a0_5) := (blk_cell BK539.out 5).trans rfl; have hfz6_0 := blk_frozen BK539.out 0; have hfz6_1 := blk_frozen BK539.out 1; have hfz6_2 := blk_frozen BK539.out 2; have hfz6_3 := blk_frozen BK539.out 3; have hfz6_4 := blk_frozen BK539.out 4; have hfz6_5 := blk_frozen BK539.out 5; have hcz7_0 : w4.cell? ⟨gb540, 0, none⟩ = some (.int .i64 0) := (blk_cell BK540.out 0).trans rfl; have hcz7_1 : w4.cell? ⟨gb540, 1, none⟩ = some (.int .i64 0) := (blk_cell BK540.out 1).trans rfl; have hcz7_2 : w4.cell? ⟨gb540, 2, none⟩ = some (.int .i64 0) := (blk_cell BK540.out 2).trans rfl; have hcz7_3 : w4.cell? ⟨gb540, 3, none⟩ = some (.int .i64 0) := (blk_cell BK540.out 3).trans rfl; have hcz7_4 : w4.cell? ⟨gb540, 4, none⟩ = some (.int .i64 0) := (blk_cell BK540.out 4).trans rfl; have hcz7_5 : w4.cell? ⟨gb540, 5, none⟩ = some (.int .i64 0) := (blk_cell BK540.out 5).trans rfl; have hfz7_0 := blk_frozen BK540.out 0; have hfz7_1 := blk_frozen BK540.out 1; have hfz7_2 := blk_frozen BK540.out 2; have hfz7_3 := blk_frozen BK540.out 3; have hfz7_4 := blk_frozen BK540.out 4; have hfz7_5 := blk_frozen BK540.out 5))
 refine bodyPost_ret (results_cell_row rfl _ _ gb540 41 #[.int .i64 a0_0, .int .i64 a0_1, .int .i64 a0_2, .int .i64 a0_3, .int .i64 a0_4, .int .i64 a1] (0, 0) _ rfl (zP) Tryz.underlying41 rfl (by kernel_rfl)) rfl ?_
 exact ⟨zE, zB⟩
def impl_decided.l0 : Nat → Int → List Int → Int → Int → Int → List (S174) → Option (Int)
 | 0, _, _, _, _, _, _ => none
 | k + 1, x5, x8, x9, x10, x542000, x542001 => if x10 < x9 then (if 0 ≤ x10 then (if x10 < (x8.length : Int) then (if 0 ≤ (rd x8 x10) then (if (rd x8 x10) < (x542001.length : Int) then (if ((rd_T174 x542001 (rd x8 x10)).f0) = 0 then (some 0) else (if ((rd_T174 x542001 (rd x8 x10)).f0) = 1 then (impl_decided.l0 k 1 x8 x9 (wrap64 (x10 + 1)) x542000 x542001) else (impl_decided.l0 k x5 x8 x9 (wrap64 (x10 + 1)) x542000 x542001))) else (none)) else (none)) else (none)) else (none)) else (some x5)
def impl_decided.f (k : Nat) (a0_0 : Int) (l0_1 : List (S174)) (l1 : List Int) : Option (Int) := impl_decided.l0 k 0 l1 (l1.length : Int) 0 a0_0 l0_1
theorem impl_decided.calls (k : Nat) (a0_0 : Int) (A0_1 : Option Addr) (c0_1 : Nat) (l0_1 : List (S174)) (A1 : Option Addr) (c1 : Nat) (l1 : List Int) (r : Int) (w : World) (hr0_1 : Kd.C k174 w A0_1 l0_1.length l0_1) (hc0_1 : l0_1.length ≤ c0_1) (hr1 : Kd.C (Kd.int .i64) w A1 l1.length l1) (hc1 : l1.length ≤ c1) (h : impl_decided.f k a0_0 l0_1 l1 = some r) :
  Calls Tryz.prog 113 #[.agg #[.int .i64 a0_0, .slice A0_1 l0_1.length c0_1], .slice A1 l1.length c1] w fun e w' => e = .returned (.int .i64 r) ∧ Below w.heap.size w w' := by
 have HR0_1 := Aside0.mk hr0_1
 have HC0_1 := Aside0.mk hc0_1
 clear hr0_1 hc0_1
 have HR1 := Aside0.mk hr1
 have HC1 := Aside0.mk hc1
 clear hr1 hc1
 have HB := Aside0.mk (Below.refl w.heap.size w)
 have H := h
 clear h
 unfold impl_decided.f at H
 have hu39 := Tryz.underlying39
 have hu174 := Tryz.underlying174
 go_enter Tryz.func113, Tryz.ntmps113
 replace H := Aside0.mk H
 go_upto_region 1 with (first | ((with_reducible refine gate_dst (N := 2) rfl ?_); refine box_event ?hg (N := 2) ?hd (cs := #[.int .i64 a0_0, .slice A0_1 l0_1.length c0_1]) (t := 39) ?hr ?_; (case hd => rfl); (case hg => rfl); (case hr => first | (go_simp; done) | (go_simp; rfl)); intro gb1 hg W1 hbox hb; replace HB := bH HB hb; clear hb; have BK1 := Aside0.mk hbox; have c_BK1 := blk_cell hbox; have z_BK1 := blk_frozen hbox; clear hg hbox))
 go_wp2
 go_loopg [5, 10] k (fun kq v5 v10 w' => ∃ (x5_2 : Int) (x10_2 : Int), v5 = .int .i64 x5_2 ∧ v10 = .int .i64 x10_2 ∧ Aside0 (impl_decided.l0 kq x5_2 l1 (l1.length : Int) x10_2 a0_0 l0_1 = some r) ∧ Aside0 (kq ≤ k) ∧ Aside0 (w'.heap[gb1]? = some (.cells #[.int .i64 a0_0, .slice A0_1 l0_1.length c0_1] 39 (0, 0))) ∧ Aside0 (Below w.heap.size w w'))
 case atStart => exact ⟨(0), (0), zT, zT, H, ⟨Nat.le_refl _⟩, BK1, HB⟩
 case round =>
  clear H HB BK1 c_BK1 z_BK1
  obtain ⟨x5_2, x10_2, rfl, rfl, HA, Hk2, BK1, HB⟩ := hrel
  have c_BK1 := bcl BK1; have z_BK1 := bfr BK1
  cases gk with
  | zero => exact absurd HA.out (by simp [impl_decided.l0])
  | succ k2 =>
   have H := HA.out; clear HA; simp only [impl_decided.l0] at H; replace H := ifD H; rcases H with ⟨c3, H⟩ | ⟨c3, H⟩; rotate_left
   ·have c3_0 := decF c3; replace c3 := Aside0.mk c3; (try rw [c3_0]); cases H; go_wp2; go_ret; exact ⟨rfl, HB.out⟩
   have c3_0 := decT c3; replace c3 := Aside0.mk c3; (try rw [c3_0]); replace H := ifN H; obtain ⟨c4, H⟩ := H; have c4_0 := decT c4; replace c4 := Aside0.mk c4; (try rw [c4_0]); replace H := ifN H; obtain ⟨c5, H⟩ := H; have c5_0 := decT c5; replace c5 := Aside0.mk c5; (try rw [c5_0]); have p542 : 0 ≤ (x10_2 : Int) := (of_decide_eq_true (by assumption)); have q542 : x10_2 < (l1.length : Int) := (of_decide_eq_true (by assumption)); obtain ⟨ad542, e542, hx542_0⟩ := Kd.at_int HR1.out x10_2 p542 q542; cases e542; replace hx542_0 := Aside0.mk hx542_0; have y542_0 := xC HB hx542_0; have r542 := eq_true p542; have s542 := eq_true q542; replace p542 := Aside0.mk p542; replace q542 := Aside0.mk q542; replace H := ifN H; obtain ⟨c6, H⟩ := H; have c6_0 := decT c6; replace c6 := Aside0.mk c6; (try rw [c6_0]); replace H := ifN H; obtain ⟨c7, H⟩ := H; have c7_0 := decT c7; replace c7 := Aside0.mk c7; (try rw [c7_0]); have p543 : 0 ≤ ((rd l1 x10_2) : Int) := (of_decide_eq_true (by assumption)); have q543 : (rd l1 x10_2) < (l0_1.length : Int) := (of_decide_eq_true (by assumption)); obtain ⟨ad543, A543_6, c543_6, e543, hx543_0, hx543_1, hx543_2, hx543_3, hx543_4, hx543_5, hx543_6, hl543_6, hi543_6⟩ := at_T174 HR0_1.out (rd l1 x10_2) p543 q543; cases e543; have HR543_6 := Aside0.mk hi543_6; have HC543_6 := Aside0.mk hl543_6; clear hi543_6 hl543_6; replace hx543_0 := Aside0.mk hx543_0; have y543_0 := xC HB hx543_0; replace hx543_1 := Aside0.mk hx543_1; have y543_1 := xC HB hx543_1; replace hx543_2 := Aside0.mk hx543_2; have y543_2 := xC HB hx543_2; replace hx543_3 := Aside0.mk hx543_3; have y543_3 := xC HB hx543_3; replace hx543_4 := Aside0.mk hx543_4; have y543_4 := xC HB hx543_4; replace hx543_5 := Aside0.mk hx543_5; have y543_5 := xC HB hx543_5; replace hx543_6 := Aside0.mk hx543_6; have y543_6 := xC HB hx543_6; have r543 := eq_true p543; have s543 := eq_true q543; replace p543 := Aside0.mk p543; replace q543 := Aside0.mk q543; replace H := ifD H; rcases H with ⟨c8, H⟩ | ⟨c8, H⟩
   ·obtain ⟨c8_0, c8_1, c8_2⟩ := d3T c8; clear c8; (first | rw [c8_1] | rw [c8_2] | skip); cases H; go_wp2; go_ret; exact ⟨rfl, HB.out⟩
   obtain ⟨c8_0, c8_1, c8_2⟩ := d3F c8; clear c8; (first | rw [c8_1] | rw [c8_2] | skip); replace H := ifD H; rcases H with ⟨c9, H⟩ | ⟨c9, H⟩
   ·obtain ⟨c9_0, c9_1, c9_2⟩ := d3T c9; clear c9; (first | rw [c9_1] | rw [c9_2] | skip); replace H := Aside0.mk H; go_wp2; go_roundg k2
    case measure => have := Hk2.out; omega
    case rel => exact ⟨(1), (wrap64 (x10_2 + 1)), zT, zT, H, ⟨by have := Hk2.out; omega⟩, BK1, HB⟩
   obtain ⟨c9_0, c9_1, c9_2⟩ := d3F c9; clear c9; (first | rw [c9_1] | rw [c9_2] | skip); replace H := Aside0.mk H; go_wp2; go_roundg k2
   case measure => have := Hk2.out; omega
   case rel => exact ⟨(x5_2), (wrap64 (x10_2 + 1)), zT, zT, H, ⟨by have := Hk2.out; omega⟩, BK1, HB⟩
def impl_IsFor.f (a0_0 : Int) (a0_1 : Int) (a0_2 : Int) (a0_3 : Int) (a0_4 : Int) (a0_5 : Int) (l0_6 : List (S172)) (a1 : Int) (a2 : Int) : Option (Bool) := if a0_1 = (-1) then (if a0_2 = (-1) then (some true) else (some (a0_2 == a2))) else (if a0_1 = a1 then (if a0_2 = (-1) then (some true) else (some (a0_2 == a2))) else (some false))
theorem impl_IsFor.calls (a0_0 : Int) (a0_1 : Int) (a0_2 : Int) (a0_3 : Int) (a0_4 : Int) (a0_5 : Int) (A0_6 : Option Addr) (c0_6 : Nat) (l0_6 : List (S172)) (a1 : Int) (a2 : Int) (r : Bool) (w : World) (hr0_6 : Kd.C k172 w A0_6 l0_6.length l0_6) (hc0_6 : l0_6.length ≤ c0_6) (h : impl_IsFor.f a0_0 a0_1 a0_2 a0_3 a0_4 a0_5 l0_6 a1 a2 = some r) :
  Calls Tryz.prog 234 #[.agg #[.int .i64 a0_0, .int .i64 a0_1, .int .i64 a0_2, .int .i64 a0_3, .int .i64 a0_4, .int .i64 a0_5, .slice A0_6 l0_6.length c0_6], .int .i64 a1, .int .i64 a2] w fun e w' => e = .returned (.bool r) ∧ Below w.heap.size w w' := by
 have HR0_6 := Aside0.mk hr0_6
 have HC0_6 := Aside0.mk hc0_6
 clear hr0_6 hc0_6
 have HB := Aside0.mk (Below.refl w.heap.size w)
 have H := h
 clear h
 unfold impl_IsFor.f at H
 have hu174 := Tryz.underlying174
 go_enter Tryz.func234, Tryz.ntmps234
 replace H := Aside0.mk H
 go_upto_region 1 with (first | ((with_reducible refine gate_dst (N := 3) rfl ?_); refine box_event ?hg (N := 3) ?hd (cs := #[.int .i64 a0_0, .int .i64 a0_1, .int .i64 a0_2, .int .i64 a0_3, .int .i64 a0_4, .int .i64 a0_5, .slice A0_6 l0_6.length c0_6]) (t := 174) ?hr ?_; (case hd => rfl); (case hg => rfl); (case hr => first | (go_simp; done) | (go_simp; rfl)); intro gb1 hg W1 hbox hb; replace HB := bH HB hb; clear hb; have BK1 := Aside0.mk hbox; have c_BK1 := blk_cell hbox; have z_BK1 := blk_frozen hbox; clear hg hbox))
 replace H := ifD H.out; rcases H with ⟨c2, H⟩ | ⟨c2, H⟩
 ·obtain ⟨c2_0, c2_1, c2_2⟩ := d3T c2
  clear c2
  (first | rw [c2_1] | rw [c2_2] | skip)
  replace H := ifD H; rcases H with ⟨c3, H⟩ | ⟨c3, H⟩
  ·obtain ⟨c3_0, c3_1, c3_2⟩ := d3T c3; clear c3; (first | rw [c3_1] | rw [c3_2] | skip); cases H; go_wp2; go_ret; exact ⟨rfl, HB.out⟩
  obtain ⟨c3_0, c3_1, c3_2⟩ := d3F c3
  clear c3
  (first | rw [c3_1] | rw [c3_2] | skip)
  cases H
  go_wp2
  go_ret
  exact ⟨rfl, HB.out⟩
 obtain ⟨c2_0, c2_1, c2_2⟩ := d3F c2
 clear c2
 (first | rw [c2_1] | rw [c2_2] | skip)
 replace H := ifD H; rcases H with ⟨c4, H⟩ | ⟨c4, H⟩
 rotate_left
 ·obtain ⟨c4_0, c4_1, c4_2⟩ := d3F c4
  clear c4
  (first | rw [c4_1] | rw [c4_2] | skip)
  cases H
  go_wp2
  go_ret
  exact ⟨rfl, HB.out⟩
 obtain ⟨c4_0, c4_1, c4_2⟩ := d3T c4
 clear c4
 (first | rw [c4_1] | rw [c4_2] | skip)
 replace H := ifD H; rcases H with ⟨c5, H⟩ | ⟨c5, H⟩
 ·obtain ⟨c5_0, c5_1, c5_2⟩ := d3T c5
  clear c5
  (first | rw [c5_1] | rw [c5_2] | skip)
  cases H
  go_wp2
  go_ret
  exact ⟨rfl, HB.out⟩
 obtain ⟨c5_0, c5_1, c5_2⟩ := d3F c5
 clear c5
 (first | rw [c5_1] | rw [c5_2] | skip)
 cases H
 go_wp2
 go_ret
 exact ⟨rfl, HB.out⟩
def impl_evalWith.x (L : Int → Int → Int → List S172 → Option Bool) : Nat → Int → Int → Int → List S172 → Option Bool
 | 0, _, _, _, _ => none
 | k + 1, a0, a1, a2, l => if a0 = 7 then (if 0 < (l.length : Int) then (impl_evalWith.x L k (rd_T172 l 0).f0 (rd_T172 l 0).f1 (rd_T172 l 0).f2 (rd_T172 l 0).f3).bind fun t => some (!t) else none) else if a0 = 8 then (if 0 < (l.length : Int) then (impl_evalWith.x L k (rd_T172 l 0).f0 (rd_T172 l 0).f1 (rd_T172 l 0).f2 (rd_T172 l 0).f3).bind fun t => (if t = true then (if 1 < (l.length : Int) then (impl_evalWith.x L k (rd_T172 l 1).f0 (rd_T172 l 1).f1 (rd_T172 l 1).f2 (rd_T172 l 1).f3) else none) else some false) else none) else if a0 = 9 then (if 0 < (l.length : Int) then (impl_evalWith.x L k (rd_T172 l 0).f0 (rd_T172 l 0).f1 (rd_T172 l 0).f2 (rd_T172 l 0).f3).bind fun t => (if t = true then some true else (if 1 < (l.length : Int) then (impl_evalWith.x L k (rd_T172 l 1).f0 (rd_T172 l 1).f1 (rd_T172 l 1).f2 (rd_T172 l 1).f3) else none)) else none) else L a0 a1 a2 l
theorem impl_evalWith.calls (g : Nat) (lb : Array Value) (eg : ∀ args w, (callFunc g args).run Tryz.prog w = .ok (.enter g args) w) (L : Int → Int → Int → List S172 → Option Bool) (w0 : World)
  (hL : ∀ (W : World) (a0 a1 a2 : Int) (A0 : Option Addr) (c : Nat) (l : List S172) (b : Bool), Below w0.heap.size w0 W → Kd.C k172 W A0 l.length l → l.length ≤ c → L a0 a1 a2 l = some b → Calls Tryz.prog g (#[.agg #[.int .i64 a0, .int .i64 a1, .int .i64 a2, .slice A0 l.length c]] ++ lb) W fun e w' => e = .returned (.bool b) ∧ Below W.heap.size W w') :
  ∀ (k : Nat) (a0 a1 a2 : Int) (A0 : Option Addr) (c : Nat) (l : List S172) (r : Bool) (w : World) (hw : Below w0.heap.size w0 w) (hr : Kd.C k172 w A0 l.length l) (hc : l.length ≤ c) (h : impl_evalWith.x L k a0 a1 a2 l = some r), Calls Tryz.prog 326 #[.agg #[.int .i64 a0, .int .i64 a1, .int .i64 a2, .slice A0 l.length c], .func (.func g) #[] lb] w fun e w' => e = .returned (.bool r) ∧ Below w.heap.size w w' := by
 intro k
 induction k with
 | zero => intro a0 a1 a2 A0 c l r w hw hr hc h; exact absurd h (by simp [impl_evalWith.x])
 | succ k ih =>
  intro a0 a1 a2 A0 c l r w hw hr hc h
  simp only [impl_evalWith.x] at h
  have H := Aside0.mk h; clear h
  have hu := Tryz.underlying172
  have HL := Aside0.mk hL; clear hL; have IH := Aside0.mk ih; clear ih; have EG := Aside0.mk eg; clear eg
  have HW1 := Aside0.mk (below_alloc hw (.cells #[.int .i64 a0, .int .i64 a1, .int .i64 a2, .slice A0 l.length c] 172)); have HB1 := Aside0.mk (below_alloc (Below.refl w.heap.size w) (.cells #[.int .i64 a0, .int .i64 a1, .int .i64 a2, .slice A0 l.length c] 172)); have HR1 := Aside0.mk (Kd.C_alloc hr (.cells #[.int .i64 a0, .int .i64 a1, .int .i64 a2, .slice A0 l.length c] 172)); have BK := heap_alloc_new w (.cells #[.int .i64 a0, .int .i64 a1, .int .i64 a2, .slice A0 l.length c] 172); replace hc := Aside0.mk hc; clear hw hr
  go_enter Tryz.func326, Tryz.ntmps326
  go_upto_region 1 with (fail)
  generalize w.alloc (.cells #[.int .i64 a0, .int .i64 a1, .int .i64 a2, .slice A0 l.length c] 172) = W1 at HW1 HB1 HR1 BK ⊢
  have c_ := blk_cell BK; replace BK := Aside0.mk BK
  have h := H.out; clear H
  replace h := ifD h; rcases h with ⟨c7, h⟩ | ⟨c7, h⟩
  ·have c7_ := eqT c7; clear c7; replace h := ifN h; obtain ⟨p, h⟩ := h; replace h := Option.bind_eq_some_iff.mp h; obtain ⟨t, m, h⟩ := h; try dsimp only at h
   have M := Aside0.mk m; clear m; obtain ⟨ad0, A0, d0, e_, x00, x01, x02, x03, l0, f0⟩ := at_T172 HR1.out 0 (by omega) (by omega); cases e_; have x00 : W1.cell? ad0 = _ := x00; have x01 : W1.cell? ⟨ad0.block, ad0.off + 1, none⟩ = _ := x01; have x02 : W1.cell? ⟨ad0.block, ad0.off + 2, none⟩ = _ := x02; have x03 : W1.cell? ⟨ad0.block, ad0.off + 3, none⟩ = _ := x03; have z0 : (0 < l.length) = True := eq_true (by omega); replace l0 := Aside0.mk l0; replace f0 := Aside0.mk f0; replace p := Aside0.mk p; obtain rfl := Option.some.inj h; clear h; go_wp2_with (go_at_call 326; refine (IH.out _ _ _ _ _ _ _ _ HW1.out f0.out l0.out M.out).mono ?_; rintro e W2 ⟨rfl, hb⟩; have HB2 := Aside0.mk (below_step HB1.out hb))
   go_ret; exact ⟨rfl, HB2.out⟩
  have c7_ := eqF c7; clear c7
  replace h := ifD h; rcases h with ⟨c8, h⟩ | ⟨c8, h⟩
  ·have c8_ := eqT c8; clear c8; replace h := ifN h; obtain ⟨p, h⟩ := h; replace h := Option.bind_eq_some_iff.mp h; obtain ⟨t, m, h⟩ := h; try dsimp only at h
   have M := Aside0.mk m; clear m; obtain ⟨ad0, A0, d0, e_, x00, x01, x02, x03, l0, f0⟩ := at_T172 HR1.out 0 (by omega) (by omega); cases e_; have x00 : W1.cell? ad0 = _ := x00; have x01 : W1.cell? ⟨ad0.block, ad0.off + 1, none⟩ = _ := x01; have x02 : W1.cell? ⟨ad0.block, ad0.off + 2, none⟩ = _ := x02; have x03 : W1.cell? ⟨ad0.block, ad0.off + 3, none⟩ = _ := x03; have z0 : (0 < l.length) = True := eq_true (by omega); replace l0 := Aside0.mk l0; replace f0 := Aside0.mk f0; replace p := Aside0.mk p; cases t with
   | true =>
    replace h := (if_pos rfl).symm.trans h; replace h := ifN h; obtain ⟨p2, h⟩ := h; have M2 := Aside0.mk h; clear h; replace p2 := Aside0.mk p2; go_wp2_with (first | (go_at_call 326; refine (IH.out _ _ _ _ _ _ _ _ HW2.out f1b.out l1b.out M2.out).mono ?_; rintro e W3 ⟨rfl, hb⟩; have HB3 := Aside0.mk (below_step HB2.out hb)) | (go_at_call 326; refine (IH.out _ _ _ _ _ _ _ _ HW1.out f0.out l0.out M.out).mono ?_; rintro e W2 ⟨rfl, hb⟩; have HB2 := Aside0.mk (below_step HB1.out hb); have HR2 := Kd.C_below HR1.out hb; have HW2 := Aside0.mk (below_step HW1.out hb); have BK2 := blk_below BK.out hb; have c2_ := blk_cell BK2; clear BK2 hb; have p1 := p2.out; obtain ⟨ad1b, A1b, d1b, e_, x1b0, x1b1, x1b2, x1b3, l1b, f1b⟩ := at_T172 HR2 1 (by omega) (by omega); obtain rfl := Option.some.inj e_; have x1b0 : W2.cell? ⟨ad0.block, ad0.off + 4, none⟩ = _ := x1b0; have x1b1 : W2.cell? ⟨ad0.block, ad0.off + 5, none⟩ = _ := x1b1; have x1b2 : W2.cell? ⟨ad0.block, ad0.off + 6, none⟩ = _ := x1b2; have x1b3 : W2.cell? ⟨ad0.block, ad0.off + 7, none⟩ = _ := x1b3; have z1b : (1 < l.length) = True := eq_true (by omega); have zz1b : ((1 : Int) < (l.length : Int)) = True := eq_true (by omega); replace l1b := Aside0.mk l1b; replace f1b := Aside0.mk f1b; clear HR2 p1 c_))
    go_ret; exact ⟨rfl, HB3.out⟩
   | false =>
    replace h := (if_neg (by decide)).symm.trans h; obtain rfl := Option.some.inj h; clear h; go_wp2_with (go_at_call 326; refine (IH.out _ _ _ _ _ _ _ _ HW1.out f0.out l0.out M.out).mono ?_; rintro e W2 ⟨rfl, hb⟩; have HB2 := Aside0.mk (below_step HB1.out hb))
    go_ret; exact ⟨rfl, HB2.out⟩
  have c8_ := eqF c8; clear c8
  replace h := ifD h; rcases h with ⟨c9, h⟩ | ⟨c9, h⟩
  rotate_left
  ·have c9_ := eqF c9; clear c9; have hcall := HL.out W1 a0 a1 a2 A0 c l r HW1.out HR1.out hc.out h; clear h; have eg := EG.out; (go_wp2_with fail)
   refine hcall.mono ?_; rintro e w' ⟨rfl, hb⟩; clear hcall eg; have HB2 := Aside0.mk (below_step HB1.out hb); clear hb; go_wp2; go_ret; exact ⟨rfl, HB2.out⟩
  have c9_ := eqT c9; clear c9
  replace h := ifN h; obtain ⟨p, h⟩ := h
  replace h := Option.bind_eq_some_iff.mp h; obtain ⟨t, m, h⟩ := h; try dsimp only at h
  have M := Aside0.mk m; clear m
  obtain ⟨ad0, A0, d0, e_, x00, x01, x02, x03, l0, f0⟩ := at_T172 HR1.out 0 (by omega) (by omega)
  cases e_
  have x00 : W1.cell? ad0 = _ := x00
  have x01 : W1.cell? ⟨ad0.block, ad0.off + 1, none⟩ = _ := x01
  have x02 : W1.cell? ⟨ad0.block, ad0.off + 2, none⟩ = _ := x02
  have x03 : W1.cell? ⟨ad0.block, ad0.off + 3, none⟩ = _ := x03
  have z0 : (0 < l.length) = True := eq_true (by omega)
  replace l0 := Aside0.mk l0; replace f0 := Aside0.mk f0
  replace p := Aside0.mk p
  cases t with
  | true =>
   replace h := (if_pos rfl).symm.trans h; obtain rfl := Option.some.inj h; clear h; go_wp2_with (go_at_call 326; refine (IH.out _ _ _ _ _ _ _ _ HW1.out f0.out l0.out M.out).mono ?_; rintro e W2 ⟨rfl, hb⟩; have HB2 := Aside0.mk (below_step HB1.out hb))
   go_ret; exact ⟨rfl, HB2.out⟩
  | false =>
   replace h := (if_neg (by decide)).symm.trans h; replace h := ifN h; obtain ⟨p2, h⟩ := h; have M2 := Aside0.mk h; clear h; replace p2 := Aside0.mk p2; go_wp2_with (first | (go_at_call 326; refine (IH.out _ _ _ _ _ _ _ _ HW2.out f1b.out l1b.out M2.out).mono ?_; rintro e W3 ⟨rfl, hb⟩; have HB3 := Aside0.mk (below_step HB2.out hb)) | (go_at_call 326; refine (IH.out _ _ _ _ _ _ _ _ HW1.out f0.out l0.out M.out).mono ?_; rintro e W2 ⟨rfl, hb⟩; have HB2 := Aside0.mk (below_step HB1.out hb); have HR2 := Kd.C_below HR1.out hb; have HW2 := Aside0.mk (below_step HW1.out hb); have BK2 := blk_below BK.out hb; have c2_ := blk_cell BK2; clear BK2 hb; have p1 := p2.out; obtain ⟨ad1b, A1b, d1b, e_, x1b0, x1b1, x1b2, x1b3, l1b, f1b⟩ := at_T172 HR2 1 (by omega) (by omega); obtain rfl := Option.some.inj e_; have x1b0 : W2.cell? ⟨ad0.block, ad0.off + 4, none⟩ = _ := x1b0; have x1b1 : W2.cell? ⟨ad0.block, ad0.off + 5, none⟩ = _ := x1b1; have x1b2 : W2.cell? ⟨ad0.block, ad0.off + 6, none⟩ = _ := x1b2; have x1b3 : W2.cell? ⟨ad0.block, ad0.off + 7, none⟩ = _ := x1b3; have z1b : (1 < l.length) = True := eq_true (by omega); have zz1b : ((1 : Int) < (l.length : Int)) = True := eq_true (by omega); replace l1b := Aside0.mk l1b; replace f1b := Aside0.mk f1b; clear HR2 p1 c_))
   go_ret; exact ⟨rfl, HB3.out⟩
def slices_Index_int_int.l0 : Nat → List Int → Int → Int → Int → Option (Int)
 | 0, _, _, _, _ => none
 | k + 1, x0, x1, x7, x8 => if x8 < x7 then (if 0 ≤ x8 then (if x8 < (x0.length : Int) then (if x1 = (rd x0 x8) then (some x8) else (slices_Index_int_int.l0 k x0 x1 x7 (wrap64 (x8 + 1)))) else (none)) else (none)) else (some (-1))
def slices_Index_int_int.f (k : Nat) (l0 : List Int) (a1 : Int) : Option (Int) := slices_Index_int_int.l0 k l0 a1 (l0.length : Int) 0
theorem slices_Index_int_int.calls (k : Nat) (A0 : Option Addr) (c0 : Nat) (l0 : List Int) (a1 : Int) (r : Int) (w : World) (hr0 : Kd.C (Kd.int .i64) w A0 l0.length l0) (hc0 : l0.length ≤ c0) (h : slices_Index_int_int.f k l0 a1 = some r) :
  Calls Tryz.prog 363 #[.slice A0 l0.length c0, .int .i64 a1] w fun e w' => e = .returned (.int .i64 r) ∧ Drawn0 w w' := by
 have HR0 := Aside0.mk hr0
 have HC0 := Aside0.mk hc0
 clear hr0 hc0
 have H : (slices_Index_int_int.l0 k l0 a1 (l0.length : Int) 0) = some r := h
 clear h
 have H' := Aside0.mk H
 clear H
 go_enter Tryz.func363, Tryz.ntmps363
 go_wp2
 go_loopg [8] k (fun kq v8 w' => ∃ (x8_1 : Int), v8 = .int .i64 x8_1 ∧ Aside0 (slices_Index_int_int.l0 kq l0 a1 (l0.length : Int) x8_1 = some r) ∧ Aside0 (kq ≤ k) ∧ Drawn0 w w')
 case atStart => exact ⟨(0), zT, H', ⟨Nat.le_refl _⟩, by repeat (first | exact Drawn0.refl _ | apply Drawn0.step)⟩
 case round =>
  clear H'
  (try clear p2)
  obtain ⟨x8_1, rfl, HA, HK1, ⟨m1, rfl⟩⟩ := hrel
  cases gk with
  | zero => exact absurd HA.out (by simp [slices_Index_int_int.l0])
  | succ k1 =>
   have H := HA.out; clear HA; simp only [slices_Index_int_int.l0] at H; replace H := ifD H; rcases H with ⟨c3, H⟩ | ⟨c3, H⟩; rotate_left
   ·have c3b0 := decF c3; clear c3; obtain rfl := Option.some.inj H; go_wp2; go_ret; exact ⟨by first | rfl | (simp; done) | (simp [*]; done), by repeat (first | exact Drawn0.refl _ | apply Drawn0.step)⟩
   have c3b0 := decT c3; clear c3; replace H := ifN H; obtain ⟨c4, H⟩ := H; have c4b0 := decT c4; clear c4; replace H := ifN H; obtain ⟨c5, H⟩ := H; have c5b0 := decT c5; clear c5; replace H := ifD H; rcases H with ⟨c6, H⟩ | ⟨c6, H⟩
   ·have c6b0 : (a1 == (rd l0 x8_1)) = true := beq_iff_eq.mpr c6; have c6b1 : (a1 != (rd l0 x8_1)) = false := bne_eq_false_iff_eq.mpr c6; clear c6; obtain rfl := Option.some.inj H; have p545 : 0 ≤ (x8_1 : Int) := of_decide_eq_true zA; have q545 : x8_1 < (l0.length : Int) := of_decide_eq_true zA; obtain ⟨ad545, e545, hx545_0⟩ := Kd.at_int HR0.out x8_1 p545 q545; cases e545; replace p545 := eq_true p545; replace q545 := eq_true q545; go_wp2; go_ret; exact ⟨by first | rfl | (simp; done) | (simp [*]; done), by repeat (first | exact Drawn0.refl _ | apply Drawn0.step)⟩
   have c6b0 : (a1 == (rd l0 x8_1)) = false := beq_eq_false_iff_ne.mpr c6; have c6b1 : (a1 != (rd l0 x8_1)) = true := bne_iff_ne.mpr c6; have H' := Aside0.mk H; clear H; have p545 : 0 ≤ (x8_1 : Int) := of_decide_eq_true zA; have q545 : x8_1 < (l0.length : Int) := of_decide_eq_true zA; obtain ⟨ad545, e545, hx545_0⟩ := Kd.at_int HR0.out x8_1 p545 q545; cases e545; replace p545 := eq_true p545; replace q545 := eq_true q545; go_wp2; go_roundg k1
   case measure => have := HK1.out; omega
   case rel => exact ⟨(wrap64 (x8_1 + 1)), zT, H', ⟨by have := HK1.out; omega⟩, by repeat (first | exact Drawn0.refl _ | apply Drawn0.step)⟩
def slices_Contains_int_int.f (k : Nat) (l0 : List Int) (a1 : Int) : Option (Bool) := (slices_Index_int_int.f k l0 a1).bind fun t546 => (some (decide (t546 ≥ 0)))
theorem slices_Contains_int_int.calls (k : Nat) (A0 : Option Addr) (c0 : Nat) (l0 : List Int) (a1 : Int) (r : Bool) (w : World) (hr0 : Kd.C (Kd.int .i64) w A0 l0.length l0) (hc0 : l0.length ≤ c0) (h : slices_Contains_int_int.f k l0 a1 = some r) :
  Calls Tryz.prog 314 #[.slice A0 l0.length c0, .int .i64 a1] w fun e w' => e = .returned (.bool r) ∧ Drawn0 w w' := by
 have HR0 := Aside0.mk hr0
 have HC0 := Aside0.mk hc0
 clear hr0 hc0
 (try unfold slices_Contains_int_int.f at h)
 have H := h
 clear h
 replace H := obs H
 obtain ⟨t546, A30, H⟩ := H
 (try dsimp only at H)
 have A3 := Aside0.mk A30
 clear A30
 obtain rfl := Option.some.inj H
 go_enter Tryz.func314, Tryz.ntmps314
 go_wp2_with (first | ((with_reducible refine gate_callee (f := 363) rfl ?_); refine goesL_ (some 7) rfl rfl Tryz.func363 (by kernel_rfl) rfl #[.slice A0 l0.length c0, .int .i64 a1] rfl zM ?_; (with_reducible refine (slices_Index_int_int.calls k _ _ l0 a1 t546 _ ?side1 ?side2 A3.out).mono ?_); (case side1 => repeat (first | exact HR0.out | (with_reducible refine Kd.C_alloc ?_ _) | (with_reducible refine Kd.C_drewN ?_ _) | (with_reducible refine Kd.C_drew ?_))); (case side2 => exact HC0.out); rintro e w' ⟨rfl, ⟨nd, rfl⟩⟩; refine ⟨_, rfl, ?_⟩))
 go_ret
 exact ⟨by first | rfl | (simp; done) | (simp [*]; done), by repeat (first | exact Drawn0.refl _ | apply Drawn0.step)⟩
def impl_IsWithin.f (a0 : Int) (a1 : Int) (a2 : Int) : Option (Bool) := (impl_IsTime.f a0).bind fun t547 => (if t547 = true then ((impl_IsTime.f a1).bind fun t548 => (if t548 = true then ((impl_IsTime.f a2).bind fun t549 => (if t549 = true then ((impl_InRange.f a2 a0 a1).bind fun t550 => (some t550)) else (some false))) else (some false))) else (some false))
theorem impl_IsWithin.calls (a0 : Int) (a1 : Int) (a2 : Int) (r : Bool) (w : World) (h : impl_IsWithin.f a0 a1 a2 = some r) :
  Calls Tryz.prog 180 #[.int .i64 a0, .int .i64 a1, .int .i64 a2] w fun e w' => e = .returned (.bool r) ∧ Below w.heap.size w w' := by
 have HB := Aside0.mk (Below.refl w.heap.size w)
 have H := h
 clear h
 unfold impl_IsWithin.f at H
 go_enter Tryz.func180, Tryz.ntmps180
 replace H := obs H
 obtain ⟨t547, hm, H⟩ := H
 (try dsimp only at H)
 replace H := Aside0.mk H
 have hcall := impl_IsTime.calls _ _ w  hm
 clear hm
 (go_wp2_with fail)
 refine hcall.mono ?_
 rintro e W1 ⟨rfl, hb⟩
 clear hcall
 replace HB := bH HB hb; clear hb
 replace H := ifD H.out; rcases H with ⟨c2, H⟩ | ⟨c2, H⟩
 rotate_left
 ·replace c2 := nT c2
  subst c2
  cases H
  go_wp2
  go_ret
  exact ⟨rfl, HB.out⟩
 subst c2
 replace H := obs H
 obtain ⟨t548, hm, H⟩ := H
 (try dsimp only at H)
 replace H := Aside0.mk H
 have hcall := impl_IsTime.calls _ _ W1  hm
 clear hm
 (go_wp2_with fail)
 refine hcall.mono ?_
 rintro e W3 ⟨rfl, hb⟩
 clear hcall
 replace HB := bH HB hb; clear hb
 replace H := ifD H.out; rcases H with ⟨c4, H⟩ | ⟨c4, H⟩
 rotate_left
 ·replace c4 := nT c4
  subst c4
  cases H
  go_wp2
  go_ret
  exact ⟨rfl, HB.out⟩
 subst c4
 replace H := obs H
 obtain ⟨t549, hm, H⟩ := H
 (try dsimp only at H)
 replace H := Aside0.mk H
 have hcall := impl_IsTime.calls _ _ W3  hm
 clear hm
 (go_wp2_with fail)
 refine hcall.mono ?_
 rintro e W5 ⟨rfl, hb⟩
 clear hcall
 replace HB := bH HB hb; clear hb
 replace H := ifD H.out; rcases H with ⟨c6, H⟩ | ⟨c6, H⟩
 rotate_left
 ·replace c6 := nT c6
  subst c6
  cases H
  go_wp2
  go_ret
  exact ⟨rfl, HB.out⟩
 subst c6
 replace H := obs H
 obtain ⟨t550, hm, H⟩ := H
 (try dsimp only at H)
 replace H := Aside0.mk H
 have hcall := impl_InRange.calls _ _ _ _ W5  hm
 clear hm
 (go_wp2_with fail)
 refine hcall.mono ?_
 rintro e W7 ⟨rfl, hb⟩
 clear hcall
 replace HB := bH HB hb; clear hb
 replace H := H.out
 cases H
 go_wp2
 go_ret
 exact ⟨rfl, HB.out⟩
end Go.Proofs.YtmgfklmhelabcaaGreat.QFnExactSaveDecision
