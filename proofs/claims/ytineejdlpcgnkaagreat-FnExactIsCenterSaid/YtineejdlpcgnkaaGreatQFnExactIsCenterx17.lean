/- The machine side of FnExactIsCenter: what each function that it reaches computes, and that the machine's call gives just that. -/
import Derived.Test.YtineejdlpcgnkaaGreatQFnExactIsCenterx0
import Derived.Test.YtineejdlpcgnkaaGreatQFnExactIsCenterx15
import Derived.Test.YtineejdlpcgnkaaGreatQFnExactIsCenterx16
namespace Go.Proofs.YtineejdlpcgnkaaGreat.QFnExactIsCenter
open Go.RowKit Go.Proofs.YtineejdlpcgnkaaGreatW.PrintWords Go.Proofs.YtineejdlpcgnkaaGreatW.PrintLast Go.Proofs.YtineejdlpcgnkaaGreatW.PrintMore
attribute [local go_sem] max2_int min2_int max_two min_two max_three min_three max_four min_four   -- for this text's walks alone
set_option linter.unusedVariables false
set_option linter.unusedSimpArgs false

/-! ### laws_eqFactS: function 47 -/
def laws_eqFactS.l0 : Nat → List (S53) → List (S53) → Int → Option (Bool)
 | 0, _, _, _ => none
 | k + 1, x0, x1, x5 => if x5 < (x0.length : Int) then (if 0 ≤ x5 then (if x5 < (x1.length : Int) then ((laws_eqFact.f ((rd_T53 x0 x5).f0) ((rd_T53 x0 x5).f1) ((rd_T53 x0 x5).f2) ((rd_T53 x0 x5).f3) ((rd_T53 x0 x5).f4) ((rd_T53 x0 x5).f5) ((rd_T53 x1 x5).f0) ((rd_T53 x1 x5).f1) ((rd_T53 x1 x5).f2) ((rd_T53 x1 x5).f3) ((rd_T53 x1 x5).f4) ((rd_T53 x1 x5).f5)).bind fun t787 => (if t787 = true then (laws_eqFactS.l0 k x0 x1 (wrap64 (x5 + 1))) else (some false))) else (none)) else (none)) else (some true)
def laws_eqFactS.f (k : Nat) (l0 : List (S53)) (l1 : List (S53)) : Option (Bool) := if (l0.length : Int) = (l1.length : Int) then (laws_eqFactS.l0 k l0 l1 0) else (some false)
open Go.Proofs.YtineejdlpcgnkaaGreatM in
set_option maxHeartbeats 8000000 in
set_option maxRecDepth 100000 in
theorem laws_eqFactS.calls (k : Nat) (A0 : Option Addr) (c0 : Nat) (l0 : List (S53)) (A1 : Option Addr) (c1 : Nat) (l1 : List (S53)) (r : Bool) (w : World) (hr0 : Kd.C k53 w A0 l0.length l0) (hc0 : l0.length ≤ c0) (hr1 : Kd.C k53 w A1 l1.length l1) (hc1 : l1.length ≤ c1) (h : laws_eqFactS.f k l0 l1 = some r) :
  Calls Tryz.prog 47 #[.slice A0 l0.length c0, .slice A1 l1.length c1] w fun e w' => e = .returned (.bool r) ∧ Below w.heap.size w w' := by
 have HR0 := Aside0.mk hr0
 have HC0 := Aside0.mk hc0
 clear hr0 hc0
 have HR1 := Aside0.mk hr1
 have HC1 := Aside0.mk hc1
 clear hr1 hc1
 have HB := Aside0.mk (Below.refl w.heap.size w)
 have H := h
 clear h
 unfold laws_eqFactS.f at H
 have hu53 := Tryz.underlying53
 go_enter Tryz.func47, Tryz.ntmps47
 replace H := ifD H; rcases H with ⟨c1, H⟩ | ⟨c1, H⟩
 ·have c1_x0 : (l0.length == l1.length) = true := by first | simpa using c1 | (simp at c1 ⊢; omega)
  have c1_0 := decT c1; have c1_1 := eqT c1; have c1_2 := neT c1
  clear c1
  first | rw [c1_1] | rw [c1_2] | skip
  replace H := Aside0.mk H
  go_wp2
  go_loopg [5] k (fun kq v5 w' => ∃ (x5_2 : Int), v5 = .int .i64 x5_2 ∧ Aside0 (laws_eqFactS.l0 kq l0 l1 x5_2 = some r) ∧ Aside0 (kq ≤ k) ∧ Aside0 (Below w.heap.size w w'))
  case atStart => exact ⟨(0), (by first | rfl | (simp; done) | (simp [*]; done)), H, ⟨Nat.le_refl _⟩, HB⟩
  case round =>
   clear H HB 
   try clear c1_x0 c1_0 c1_1 c1_2
   obtain ⟨x5_2, rfl, HA, Hk2, HB⟩ := hrel
   cases gk with
   | zero => exact absurd HA.out (by simp [laws_eqFactS.l0])
   | succ k2 =>
    have H := HA.out
    clear HA
    simp only [laws_eqFactS.l0] at H
    replace H := ifD H; rcases H with ⟨c3, H⟩ | ⟨c3, H⟩
    ·have c3_0 := decT c3
     replace c3 := Aside0.mk c3
     first | rw [c3_0] | skip
     replace H := Aside0.mk H
     try go_wp2
     have HBr := HB; replace HB := dH HB
     refine stA (n := 10) (S := fun w' => Below wr.heap.size wr w') (by kernel_rfl) rfl (below_drew1 (Below.refl _ wr)) (by kernel_rfl) (fun hHeld => ?_)
     generalize wr.drew = W4 at HB hHeld ⊢
     refine pu 0 (some 17) 1 ?_; refine pu 1 (some 18) 3 ?_
     replace H := H.out
     replace H := ifN H; obtain ⟨c5, H⟩ := H
     have c5_0 := decT c5
     replace c5 := Aside0.mk c5
     first | rw [c5_0] | skip
     have p785 : 0 ≤ (x5_2 : Int) := (of_decide_eq_true (by assumption))
     have q785 : x5_2 < (l0.length : Int) := (of_decide_eq_true (by assumption))
     obtain ⟨ad785, e785, hx785_0, hx785_1, hx785_2, hx785_3, hx785_4, hx785_5⟩ := at_T53 HR0.out x5_2 p785 q785
     cases e785
     replace hx785_0 := Aside0.mk hx785_0
     replace hx785_1 := Aside0.mk hx785_1
     replace hx785_2 := Aside0.mk hx785_2
     replace hx785_3 := Aside0.mk hx785_3
     replace hx785_4 := Aside0.mk hx785_4
     replace hx785_5 := Aside0.mk hx785_5
     have r785 := eq_true p785; have s785 := eq_true q785
     replace p785 := Aside0.mk p785; replace q785 := Aside0.mk q785
     replace H := Aside0.mk H
     refine pu 2 (some 19) 7 ?_; refine pu 4 (some 21) 23 ?_; refine pu 5 (some 22) 55 ?_; refine ld 3 (some 20) 63 hHeld ?_ (hr := by (intro w' h_; have y0_ := xD HBr h_ hx785_0; have y1_ := xD HBr h_ hx785_1; have y2_ := xD HBr h_ hx785_2; have y3_ := xD HBr h_ hx785_3; have y4_ := xD HBr h_ hx785_4; have y5_ := xD HBr h_ hx785_5; go_simp; with_reducible rfl))
     replace H := H.out
     replace H := ifN H; obtain ⟨c6, H⟩ := H
     have c6_0 := decT c6
     replace c6 := Aside0.mk c6
     first | rw [c6_0] | skip
     have p786 : 0 ≤ (x5_2 : Int) := (of_decide_eq_true (by assumption))
     have q786 : x5_2 < (l1.length : Int) := (of_decide_eq_true (by assumption))
     obtain ⟨ad786, e786, hx786_0, hx786_1, hx786_2, hx786_3, hx786_4, hx786_5⟩ := at_T53 HR1.out x5_2 p786 q786
     cases e786
     replace hx786_0 := Aside0.mk hx786_0
     replace hx786_1 := Aside0.mk hx786_1
     replace hx786_2 := Aside0.mk hx786_2
     replace hx786_3 := Aside0.mk hx786_3
     replace hx786_4 := Aside0.mk hx786_4
     replace hx786_5 := Aside0.mk hx786_5
     have r786 := eq_true p786; have s786 := eq_true q786
     replace p786 := Aside0.mk p786; replace q786 := Aside0.mk q786
     replace H := Option.bind_eq_some_iff.mp H
     obtain ⟨t787, hm, H⟩ := H
     try dsimp only at H
     replace hm := Aside0.mk hm
     replace H := Aside0.mk H
     refine pu 6 (some 23) 127 ?_; refine ld 7 (some 24) 255 hHeld ?_ (hr := by (intro w' h_; have y0_ := xD HBr h_ hx786_0; have y1_ := xD HBr h_ hx786_1; have y2_ := xD HBr h_ hx786_2; have y3_ := xD HBr h_ hx786_3; have y4_ := xD HBr h_ hx786_4; have y5_ := xD HBr h_ hx786_5; go_simp; with_reducible rfl))
     refine on 8 (some 25) 511 (fun K hK => ?_)
     have hcall := laws_eqFact.calls _ _ _ _ _ _ _ _ _ _ _ _ _ W4  hm.out
     refine goes_ Tryz.func95 (by kernel_rfl) rfl #[.agg #[.int .i64 ((rd_T53 l0 x5_2).f0), .int .i64 ((rd_T53 l0 x5_2).f1), .int .i64 ((rd_T53 l0 x5_2).f2), .int .i64 ((rd_T53 l0 x5_2).f3), .int .i64 ((rd_T53 l0 x5_2).f4), .int .i64 ((rd_T53 l0 x5_2).f5)], .agg #[.int .i64 ((rd_T53 l1 x5_2).f0), .int .i64 ((rd_T53 l1 x5_2).f1), .int .i64 ((rd_T53 l1 x5_2).f2), .int .i64 ((rd_T53 l1 x5_2).f3), .int .i64 ((rd_T53 l1 x5_2).f4), .int .i64 ((rd_T53 l1 x5_2).f5)]] (by rfl) rfl rfl (by (try simp only [List.map_toArray, List.map_cons, List.map_nil]); first | done | rfl) ?_
     refine hcall.mono ?_
     rintro e W8 ⟨rfl, hb⟩
     refine ⟨_, rfl, ?_⟩
     clear hcall hm
     replace hHeld := below_step hHeld hb
     replace HB := bH HB hb; clear hb
     refine hK.out _ _ hHeld (fun hHeld => ?_)
     clear hK K
     refine nr 25 ?_
     refine pu 9 (some 26) 1023 ?_
     refine dn (by kernel_rfl) ?_
     clear hHeld HBr
     replace H := H.out
     replace H := ifD H; rcases H with ⟨c9, H⟩ | ⟨c9, H⟩
     ·subst c9
      replace H := Aside0.mk H
      go_wp2
      go_roundg k2
      case measure => have := Hk2.out; omega
      case rel => exact ⟨(wrap64 (x5_2 + 1)), (by first | rfl | (simp; done) | (simp [*]; done)), H, ⟨by have := Hk2.out; omega⟩, HB⟩
     ·replace c9 := (Bool.not_eq_true _).mp c9
      subst c9
      obtain rfl := Option.some.inj H
      clear H
      go_wp2
      go_ret
      exact ⟨rfl, HB.out⟩
    ·have c3_0 := decF c3
     replace c3 := Aside0.mk c3
     first | rw [c3_0] | skip
     obtain rfl := Option.some.inj H
     clear H
     go_wp2
     go_ret
     exact ⟨rfl, HB.out⟩
 ·have c1_x0 : (l0.length == l1.length) = false := by first | simpa using c1 | (simp at c1 ⊢; omega)
  have c1_0 := decF c1; have c1_1 := eqF c1; have c1_2 := neF c1
  clear c1
  first | rw [c1_1] | rw [c1_2] | skip
  obtain rfl := Option.some.inj H
  clear H
  go_wp2
  go_ret
  exact ⟨rfl, HB.out⟩

/-! ### laws_eqRevoked: function 96 -/
def laws_eqRevoked.f (a0_0 : Int) (a0_1 : Int) (a1_0 : Int) (a1_1 : Int) : Option (Bool) := if a0_0 = a1_0 then (if a0_1 = a1_1 then (some true) else (some false)) else (some false)
open Go.Proofs.YtineejdlpcgnkaaGreatM in
set_option maxHeartbeats 8000000 in
set_option maxRecDepth 100000 in
theorem laws_eqRevoked.calls (a0_0 : Int) (a0_1 : Int) (a1_0 : Int) (a1_1 : Int) (r : Bool) (w : World) (h : laws_eqRevoked.f a0_0 a0_1 a1_0 a1_1 = some r) :
  Calls Tryz.prog 96 #[.agg #[.int .i64 a0_0, .int .i64 a0_1], .agg #[.int .i64 a1_0, .int .i64 a1_1]] w fun e w' => e = .returned (.bool r) ∧ Below w.heap.size w w' := by
 have HB := Aside0.mk (Below.refl w.heap.size w)
 have H := h
 clear h
 unfold laws_eqRevoked.f at H
 have hu121 := Tryz.underlying121
 go_enter Tryz.func96, Tryz.ntmps96
 replace H := Aside0.mk H
 go_upto_region 1 with (first | ((with_reducible refine gate_dst (N := 2) rfl ?_); refine box_event ?hg (N := 2) ?hd (cs := #[.int .i64 a0_0, .int .i64 a0_1]) (t := 121) ?hr ?_; (case hd => rfl); (case hg => rfl); (case hr => first | (go_simp; done) | (go_simp; rfl)); intro gb1 hg W1 hbox hb; replace HB := bH HB hb; clear hb; have BK1 := Aside0.mk hbox; have c_BK1 := blk_cell hbox; have z_BK1 := blk_frozen hbox; clear hg hbox) | ((with_reducible refine gate_dst (N := 3) rfl ?_); refine box_event ?hg (N := 3) ?hd (cs := #[.int .i64 a1_0, .int .i64 a1_1]) (t := 121) ?hr ?_; (case hd => rfl); (case hg => rfl); (case hr => first | (go_simp; done) | (go_simp; rfl)); intro gb2 hg W2 hbox hb; replace BK1 := bK BK1 hb; replace c_BK1 := blk_cell BK1.out; replace z_BK1 := blk_frozen BK1.out; replace HB := bH HB hb; clear hb; have BK2 := Aside0.mk hbox; have c_BK2 := blk_cell hbox; have z_BK2 := blk_frozen hbox; clear hg hbox))
 replace H := H.out
 replace H := ifD H; rcases H with ⟨c3, H⟩ | ⟨c3, H⟩
 ·have c3_0 := decT c3; have c3_1 := eqT c3; have c3_2 := neT c3
  clear c3
  first | rw [c3_1] | rw [c3_2] | skip
  replace H := ifD H; rcases H with ⟨c4, H⟩ | ⟨c4, H⟩
  ·have c4_0 := decT c4; have c4_1 := eqT c4; have c4_2 := neT c4
   clear c4
   first | rw [c4_1] | rw [c4_2] | skip
   obtain rfl := Option.some.inj H
   clear H
   go_wp2
   go_ret
   exact ⟨rfl, HB.out⟩
  ·have c4_0 := decF c4; have c4_1 := eqF c4; have c4_2 := neF c4
   clear c4
   first | rw [c4_1] | rw [c4_2] | skip
   obtain rfl := Option.some.inj H
   clear H
   go_wp2
   go_ret
   exact ⟨rfl, HB.out⟩
 ·have c3_0 := decF c3; have c3_1 := eqF c3; have c3_2 := neF c3
  clear c3
  first | rw [c3_1] | rw [c3_2] | skip
  obtain rfl := Option.some.inj H
  clear H
  go_wp2
  go_ret
  exact ⟨rfl, HB.out⟩

/-! ### laws_eqRevokedS: function 48 -/
def laws_eqRevokedS.l0 : Nat → List (S121) → List (S121) → Int → Option (Bool)
 | 0, _, _, _ => none
 | k + 1, x0, x1, x5 => if x5 < (x0.length : Int) then (if 0 ≤ x5 then (if x5 < (x1.length : Int) then ((laws_eqRevoked.f ((rd_T121 x0 x5).f0) ((rd_T121 x0 x5).f1) ((rd_T121 x1 x5).f0) ((rd_T121 x1 x5).f1)).bind fun t792 => (if t792 = true then (laws_eqRevokedS.l0 k x0 x1 (wrap64 (x5 + 1))) else (some false))) else (none)) else (none)) else (some true)
def laws_eqRevokedS.f (k : Nat) (l0 : List (S121)) (l1 : List (S121)) : Option (Bool) := if (l0.length : Int) = (l1.length : Int) then (laws_eqRevokedS.l0 k l0 l1 0) else (some false)
open Go.Proofs.YtineejdlpcgnkaaGreatM in
set_option maxHeartbeats 8000000 in
set_option maxRecDepth 100000 in
theorem laws_eqRevokedS.calls (k : Nat) (A0 : Option Addr) (c0 : Nat) (l0 : List (S121)) (A1 : Option Addr) (c1 : Nat) (l1 : List (S121)) (r : Bool) (w : World) (hr0 : Kd.C k121 w A0 l0.length l0) (hc0 : l0.length ≤ c0) (hr1 : Kd.C k121 w A1 l1.length l1) (hc1 : l1.length ≤ c1) (h : laws_eqRevokedS.f k l0 l1 = some r) :
  Calls Tryz.prog 48 #[.slice A0 l0.length c0, .slice A1 l1.length c1] w fun e w' => e = .returned (.bool r) ∧ Below w.heap.size w w' := by
 have HR0 := Aside0.mk hr0
 have HC0 := Aside0.mk hc0
 clear hr0 hc0
 have HR1 := Aside0.mk hr1
 have HC1 := Aside0.mk hc1
 clear hr1 hc1
 have HB := Aside0.mk (Below.refl w.heap.size w)
 have H := h
 clear h
 unfold laws_eqRevokedS.f at H
 have hu121 := Tryz.underlying121
 go_enter Tryz.func48, Tryz.ntmps48
 replace H := ifD H; rcases H with ⟨c1, H⟩ | ⟨c1, H⟩
 ·have c1_x0 : (l0.length == l1.length) = true := by first | simpa using c1 | (simp at c1 ⊢; omega)
  have c1_0 := decT c1; have c1_1 := eqT c1; have c1_2 := neT c1
  clear c1
  first | rw [c1_1] | rw [c1_2] | skip
  replace H := Aside0.mk H
  go_wp2
  go_loopg [5] k (fun kq v5 w' => ∃ (x5_2 : Int), v5 = .int .i64 x5_2 ∧ Aside0 (laws_eqRevokedS.l0 kq l0 l1 x5_2 = some r) ∧ Aside0 (kq ≤ k) ∧ Aside0 (Below w.heap.size w w'))
  case atStart => exact ⟨(0), (by first | rfl | (simp; done) | (simp [*]; done)), H, ⟨Nat.le_refl _⟩, HB⟩
  case round =>
   clear H HB 
   try clear c1_x0 c1_0 c1_1 c1_2
   obtain ⟨x5_2, rfl, HA, Hk2, HB⟩ := hrel
   cases gk with
   | zero => exact absurd HA.out (by simp [laws_eqRevokedS.l0])
   | succ k2 =>
    have H := HA.out
    clear HA
    simp only [laws_eqRevokedS.l0] at H
    replace H := ifD H; rcases H with ⟨c3, H⟩ | ⟨c3, H⟩
    ·have c3_0 := decT c3
     replace c3 := Aside0.mk c3
     first | rw [c3_0] | skip
     replace H := Aside0.mk H
     try go_wp2
     have HBr := HB; replace HB := dH HB
     refine stA (n := 10) (S := fun w' => Below wr.heap.size wr w') (by kernel_rfl) rfl (below_drew1 (Below.refl _ wr)) (by kernel_rfl) (fun hHeld => ?_)
     generalize wr.drew = W4 at HB hHeld ⊢
     refine pu 0 (some 17) 1 ?_; refine pu 1 (some 18) 3 ?_
     replace H := H.out
     replace H := ifN H; obtain ⟨c5, H⟩ := H
     have c5_0 := decT c5
     replace c5 := Aside0.mk c5
     first | rw [c5_0] | skip
     have p790 : 0 ≤ (x5_2 : Int) := (of_decide_eq_true (by assumption))
     have q790 : x5_2 < (l0.length : Int) := (of_decide_eq_true (by assumption))
     obtain ⟨ad790, e790, hx790_0, hx790_1⟩ := at_T121 HR0.out x5_2 p790 q790
     cases e790
     replace hx790_0 := Aside0.mk hx790_0
     replace hx790_1 := Aside0.mk hx790_1
     have r790 := eq_true p790; have s790 := eq_true q790
     replace p790 := Aside0.mk p790; replace q790 := Aside0.mk q790
     replace H := Aside0.mk H
     refine pu 2 (some 19) 7 ?_; refine pu 4 (some 21) 23 ?_; refine pu 5 (some 22) 55 ?_; refine ld 3 (some 20) 63 hHeld ?_ (hr := by (intro w' h_; have y0_ := xD HBr h_ hx790_0; have y1_ := xD HBr h_ hx790_1; go_simp; with_reducible rfl))
     replace H := H.out
     replace H := ifN H; obtain ⟨c6, H⟩ := H
     have c6_0 := decT c6
     replace c6 := Aside0.mk c6
     first | rw [c6_0] | skip
     have p791 : 0 ≤ (x5_2 : Int) := (of_decide_eq_true (by assumption))
     have q791 : x5_2 < (l1.length : Int) := (of_decide_eq_true (by assumption))
     obtain ⟨ad791, e791, hx791_0, hx791_1⟩ := at_T121 HR1.out x5_2 p791 q791
     cases e791
     replace hx791_0 := Aside0.mk hx791_0
     replace hx791_1 := Aside0.mk hx791_1
     have r791 := eq_true p791; have s791 := eq_true q791
     replace p791 := Aside0.mk p791; replace q791 := Aside0.mk q791
     replace H := Option.bind_eq_some_iff.mp H
     obtain ⟨t792, hm, H⟩ := H
     try dsimp only at H
     replace hm := Aside0.mk hm
     replace H := Aside0.mk H
     refine pu 6 (some 23) 127 ?_; refine ld 7 (some 24) 255 hHeld ?_ (hr := by (intro w' h_; have y0_ := xD HBr h_ hx791_0; have y1_ := xD HBr h_ hx791_1; go_simp; with_reducible rfl))
     refine on 8 (some 25) 511 (fun K hK => ?_)
     have hcall := laws_eqRevoked.calls _ _ _ _ _ W4  hm.out
     refine goes_ Tryz.func96 (by kernel_rfl) rfl #[.agg #[.int .i64 ((rd_T121 l0 x5_2).f0), .int .i64 ((rd_T121 l0 x5_2).f1)], .agg #[.int .i64 ((rd_T121 l1 x5_2).f0), .int .i64 ((rd_T121 l1 x5_2).f1)]] (by rfl) rfl rfl (by (try simp only [List.map_toArray, List.map_cons, List.map_nil]); first | done | rfl) ?_
     refine hcall.mono ?_
     rintro e W8 ⟨rfl, hb⟩
     refine ⟨_, rfl, ?_⟩
     clear hcall hm
     replace hHeld := below_step hHeld hb
     replace HB := bH HB hb; clear hb
     refine hK.out _ _ hHeld (fun hHeld => ?_)
     clear hK K
     refine nr 25 ?_
     refine pu 9 (some 26) 1023 ?_
     refine dn (by kernel_rfl) ?_
     clear hHeld HBr
     replace H := H.out
     replace H := ifD H; rcases H with ⟨c9, H⟩ | ⟨c9, H⟩
     ·subst c9
      replace H := Aside0.mk H
      go_wp2
      go_roundg k2
      case measure => have := Hk2.out; omega
      case rel => exact ⟨(wrap64 (x5_2 + 1)), (by first | rfl | (simp; done) | (simp [*]; done)), H, ⟨by have := Hk2.out; omega⟩, HB⟩
     ·replace c9 := (Bool.not_eq_true _).mp c9
      subst c9
      obtain rfl := Option.some.inj H
      clear H
      go_wp2
      go_ret
      exact ⟨rfl, HB.out⟩
    ·have c3_0 := decF c3
     replace c3 := Aside0.mk c3
     first | rw [c3_0] | skip
     obtain rfl := Option.some.inj H
     clear H
     go_wp2
     go_ret
     exact ⟨rfl, HB.out⟩
 ·have c1_x0 : (l0.length == l1.length) = false := by first | simpa using c1 | (simp at c1 ⊢; omega)
  have c1_0 := decF c1; have c1_1 := eqF c1; have c1_2 := neF c1
  clear c1
  first | rw [c1_1] | rw [c1_2] | skip
  obtain rfl := Option.some.inj H
  clear H
  go_wp2
  go_ret
  exact ⟨rfl, HB.out⟩

/-! ### laws_eqCert: function 97 -/
def laws_eqCert.f (a0_0 : Int) (a0_1 : Int) (a0_2 : Int) (a0_3 : Int) (a0_4 : Int) (a0_5 : Int) (a1_0 : Int) (a1_1 : Int) (a1_2 : Int) (a1_3 : Int) (a1_4 : Int) (a1_5 : Int) : Option (Bool) := if a0_0 = a1_0 then (if a0_1 = a1_1 then (if a0_2 = a1_2 then (if a0_3 = a1_3 then (if a0_4 = a1_4 then (if a0_5 = a1_5 then (some true) else (some false)) else (some false)) else (some false)) else (some false)) else (some false)) else (some false)
open Go.Proofs.YtineejdlpcgnkaaGreatM in
set_option maxHeartbeats 8000000 in
set_option maxRecDepth 100000 in
theorem laws_eqCert.calls (a0_0 : Int) (a0_1 : Int) (a0_2 : Int) (a0_3 : Int) (a0_4 : Int) (a0_5 : Int) (a1_0 : Int) (a1_1 : Int) (a1_2 : Int) (a1_3 : Int) (a1_4 : Int) (a1_5 : Int) (r : Bool) (w : World) (h : laws_eqCert.f a0_0 a0_1 a0_2 a0_3 a0_4 a0_5 a1_0 a1_1 a1_2 a1_3 a1_4 a1_5 = some r) :
  Calls Tryz.prog 97 #[.agg #[.int .i64 a0_0, .int .i64 a0_1, .int .i64 a0_2, .int .i64 a0_3, .int .i64 a0_4, .int .i64 a0_5], .agg #[.int .i64 a1_0, .int .i64 a1_1, .int .i64 a1_2, .int .i64 a1_3, .int .i64 a1_4, .int .i64 a1_5]] w fun e w' => e = .returned (.bool r) ∧ Below w.heap.size w w' := by
 have HB := Aside0.mk (Below.refl w.heap.size w)
 have H := h
 clear h
 unfold laws_eqCert.f at H
 have hu64 := Tryz.underlying64
 go_enter Tryz.func97, Tryz.ntmps97
 replace H := Aside0.mk H
 go_upto_region 1 with (first | ((with_reducible refine gate_dst (N := 2) rfl ?_); refine box_event ?hg (N := 2) ?hd (cs := #[.int .i64 a0_0, .int .i64 a0_1, .int .i64 a0_2, .int .i64 a0_3, .int .i64 a0_4, .int .i64 a0_5]) (t := 64) ?hr ?_; (case hd => rfl); (case hg => rfl); (case hr => first | (go_simp; done) | (go_simp; rfl)); intro gb1 hg W1 hbox hb; replace HB := bH HB hb; clear hb; have BK1 := Aside0.mk hbox; have c_BK1 := blk_cell hbox; have z_BK1 := blk_frozen hbox; clear hg hbox) | ((with_reducible refine gate_dst (N := 3) rfl ?_); refine box_event ?hg (N := 3) ?hd (cs := #[.int .i64 a1_0, .int .i64 a1_1, .int .i64 a1_2, .int .i64 a1_3, .int .i64 a1_4, .int .i64 a1_5]) (t := 64) ?hr ?_; (case hd => rfl); (case hg => rfl); (case hr => first | (go_simp; done) | (go_simp; rfl)); intro gb2 hg W2 hbox hb; replace BK1 := bK BK1 hb; replace c_BK1 := blk_cell BK1.out; replace z_BK1 := blk_frozen BK1.out; replace HB := bH HB hb; clear hb; have BK2 := Aside0.mk hbox; have c_BK2 := blk_cell hbox; have z_BK2 := blk_frozen hbox; clear hg hbox))
 replace H := H.out
 replace H := ifD H; rcases H with ⟨c3, H⟩ | ⟨c3, H⟩
 ·have c3_0 := decT c3; have c3_1 := eqT c3; have c3_2 := neT c3
  clear c3
  first | rw [c3_1] | rw [c3_2] | skip
  replace H := ifD H; rcases H with ⟨c4, H⟩ | ⟨c4, H⟩
  ·have c4_0 := decT c4; have c4_1 := eqT c4; have c4_2 := neT c4
   clear c4
   first | rw [c4_1] | rw [c4_2] | skip
   replace H := ifD H; rcases H with ⟨c5, H⟩ | ⟨c5, H⟩
   ·have c5_0 := decT c5; have c5_1 := eqT c5; have c5_2 := neT c5
    clear c5
    first | rw [c5_1] | rw [c5_2] | skip
    replace H := ifD H; rcases H with ⟨c6, H⟩ | ⟨c6, H⟩
    ·have c6_0 := decT c6; have c6_1 := eqT c6; have c6_2 := neT c6
     clear c6
     first | rw [c6_1] | rw [c6_2] | skip
     replace H := ifD H; rcases H with ⟨c7, H⟩ | ⟨c7, H⟩
     ·have c7_0 := decT c7; have c7_1 := eqT c7; have c7_2 := neT c7
      clear c7
      first | rw [c7_1] | rw [c7_2] | skip
      replace H := ifD H; rcases H with ⟨c8, H⟩ | ⟨c8, H⟩
      ·have c8_0 := decT c8; have c8_1 := eqT c8; have c8_2 := neT c8
       clear c8
       first | rw [c8_1] | rw [c8_2] | skip
       obtain rfl := Option.some.inj H
       clear H
       go_wp2
       go_ret
       exact ⟨rfl, HB.out⟩
      ·have c8_0 := decF c8; have c8_1 := eqF c8; have c8_2 := neF c8
       clear c8
       first | rw [c8_1] | rw [c8_2] | skip
       obtain rfl := Option.some.inj H
       clear H
       go_wp2
       go_ret
       exact ⟨rfl, HB.out⟩
     ·have c7_0 := decF c7; have c7_1 := eqF c7; have c7_2 := neF c7
      clear c7
      first | rw [c7_1] | rw [c7_2] | skip
      obtain rfl := Option.some.inj H
      clear H
      go_wp2
      go_ret
      exact ⟨rfl, HB.out⟩
    ·have c6_0 := decF c6; have c6_1 := eqF c6; have c6_2 := neF c6
     clear c6
     first | rw [c6_1] | rw [c6_2] | skip
     obtain rfl := Option.some.inj H
     clear H
     go_wp2
     go_ret
     exact ⟨rfl, HB.out⟩
   ·have c5_0 := decF c5; have c5_1 := eqF c5; have c5_2 := neF c5
    clear c5
    first | rw [c5_1] | rw [c5_2] | skip
    obtain rfl := Option.some.inj H
    clear H
    go_wp2
    go_ret
    exact ⟨rfl, HB.out⟩
  ·have c4_0 := decF c4; have c4_1 := eqF c4; have c4_2 := neF c4
   clear c4
   first | rw [c4_1] | rw [c4_2] | skip
   obtain rfl := Option.some.inj H
   clear H
   go_wp2
   go_ret
   exact ⟨rfl, HB.out⟩
 ·have c3_0 := decF c3; have c3_1 := eqF c3; have c3_2 := neF c3
  clear c3
  first | rw [c3_1] | rw [c3_2] | skip
  obtain rfl := Option.some.inj H
  clear H
  go_wp2
  go_ret
  exact ⟨rfl, HB.out⟩

/-! ### laws_eqCertS: function 49 -/
def laws_eqCertS.l0 : Nat → List (S64) → List (S64) → Int → Option (Bool)
 | 0, _, _, _ => none
 | k + 1, x0, x1, x5 => if x5 < (x0.length : Int) then (if 0 ≤ x5 then (if x5 < (x1.length : Int) then ((laws_eqCert.f ((rd_T64 x0 x5).f0) ((rd_T64 x0 x5).f1) ((rd_T64 x0 x5).f2) ((rd_T64 x0 x5).f3) ((rd_T64 x0 x5).f4) ((rd_T64 x0 x5).f5) ((rd_T64 x1 x5).f0) ((rd_T64 x1 x5).f1) ((rd_T64 x1 x5).f2) ((rd_T64 x1 x5).f3) ((rd_T64 x1 x5).f4) ((rd_T64 x1 x5).f5)).bind fun t797 => (if t797 = true then (laws_eqCertS.l0 k x0 x1 (wrap64 (x5 + 1))) else (some false))) else (none)) else (none)) else (some true)
def laws_eqCertS.f (k : Nat) (l0 : List (S64)) (l1 : List (S64)) : Option (Bool) := if (l0.length : Int) = (l1.length : Int) then (laws_eqCertS.l0 k l0 l1 0) else (some false)
open Go.Proofs.YtineejdlpcgnkaaGreatM in
set_option maxHeartbeats 8000000 in
set_option maxRecDepth 100000 in
theorem laws_eqCertS.calls (k : Nat) (A0 : Option Addr) (c0 : Nat) (l0 : List (S64)) (A1 : Option Addr) (c1 : Nat) (l1 : List (S64)) (r : Bool) (w : World) (hr0 : Kd.C k64 w A0 l0.length l0) (hc0 : l0.length ≤ c0) (hr1 : Kd.C k64 w A1 l1.length l1) (hc1 : l1.length ≤ c1) (h : laws_eqCertS.f k l0 l1 = some r) :
  Calls Tryz.prog 49 #[.slice A0 l0.length c0, .slice A1 l1.length c1] w fun e w' => e = .returned (.bool r) ∧ Below w.heap.size w w' := by
 have HR0 := Aside0.mk hr0
 have HC0 := Aside0.mk hc0
 clear hr0 hc0
 have HR1 := Aside0.mk hr1
 have HC1 := Aside0.mk hc1
 clear hr1 hc1
 have HB := Aside0.mk (Below.refl w.heap.size w)
 have H := h
 clear h
 unfold laws_eqCertS.f at H
 have hu64 := Tryz.underlying64
 go_enter Tryz.func49, Tryz.ntmps49
 replace H := ifD H; rcases H with ⟨c1, H⟩ | ⟨c1, H⟩
 ·have c1_x0 : (l0.length == l1.length) = true := by first | simpa using c1 | (simp at c1 ⊢; omega)
  have c1_0 := decT c1; have c1_1 := eqT c1; have c1_2 := neT c1
  clear c1
  first | rw [c1_1] | rw [c1_2] | skip
  replace H := Aside0.mk H
  go_wp2
  go_loopg [5] k (fun kq v5 w' => ∃ (x5_2 : Int), v5 = .int .i64 x5_2 ∧ Aside0 (laws_eqCertS.l0 kq l0 l1 x5_2 = some r) ∧ Aside0 (kq ≤ k) ∧ Aside0 (Below w.heap.size w w'))
  case atStart => exact ⟨(0), (by first | rfl | (simp; done) | (simp [*]; done)), H, ⟨Nat.le_refl _⟩, HB⟩
  case round =>
   clear H HB 
   try clear c1_x0 c1_0 c1_1 c1_2
   obtain ⟨x5_2, rfl, HA, Hk2, HB⟩ := hrel
   cases gk with
   | zero => exact absurd HA.out (by simp [laws_eqCertS.l0])
   | succ k2 =>
    have H := HA.out
    clear HA
    simp only [laws_eqCertS.l0] at H
    replace H := ifD H; rcases H with ⟨c3, H⟩ | ⟨c3, H⟩
    ·have c3_0 := decT c3
     replace c3 := Aside0.mk c3
     first | rw [c3_0] | skip
     replace H := Aside0.mk H
     try go_wp2
     have HBr := HB; replace HB := dH HB
     refine stA (n := 10) (S := fun w' => Below wr.heap.size wr w') (by kernel_rfl) rfl (below_drew1 (Below.refl _ wr)) (by kernel_rfl) (fun hHeld => ?_)
     generalize wr.drew = W4 at HB hHeld ⊢
     refine pu 0 (some 17) 1 ?_; refine pu 1 (some 18) 3 ?_
     replace H := H.out
     replace H := ifN H; obtain ⟨c5, H⟩ := H
     have c5_0 := decT c5
     replace c5 := Aside0.mk c5
     first | rw [c5_0] | skip
     have p795 : 0 ≤ (x5_2 : Int) := (of_decide_eq_true (by assumption))
     have q795 : x5_2 < (l0.length : Int) := (of_decide_eq_true (by assumption))
     obtain ⟨ad795, e795, hx795_0, hx795_1, hx795_2, hx795_3, hx795_4, hx795_5⟩ := at_T64 HR0.out x5_2 p795 q795
     cases e795
     replace hx795_0 := Aside0.mk hx795_0
     replace hx795_1 := Aside0.mk hx795_1
     replace hx795_2 := Aside0.mk hx795_2
     replace hx795_3 := Aside0.mk hx795_3
     replace hx795_4 := Aside0.mk hx795_4
     replace hx795_5 := Aside0.mk hx795_5
     have r795 := eq_true p795; have s795 := eq_true q795
     replace p795 := Aside0.mk p795; replace q795 := Aside0.mk q795
     replace H := Aside0.mk H
     refine pu 2 (some 19) 7 ?_; refine pu 4 (some 21) 23 ?_; refine pu 5 (some 22) 55 ?_; refine ld 3 (some 20) 63 hHeld ?_ (hr := by (intro w' h_; have y0_ := xD HBr h_ hx795_0; have y1_ := xD HBr h_ hx795_1; have y2_ := xD HBr h_ hx795_2; have y3_ := xD HBr h_ hx795_3; have y4_ := xD HBr h_ hx795_4; have y5_ := xD HBr h_ hx795_5; go_simp; with_reducible rfl))
     replace H := H.out
     replace H := ifN H; obtain ⟨c6, H⟩ := H
     have c6_0 := decT c6
     replace c6 := Aside0.mk c6
     first | rw [c6_0] | skip
     have p796 : 0 ≤ (x5_2 : Int) := (of_decide_eq_true (by assumption))
     have q796 : x5_2 < (l1.length : Int) := (of_decide_eq_true (by assumption))
     obtain ⟨ad796, e796, hx796_0, hx796_1, hx796_2, hx796_3, hx796_4, hx796_5⟩ := at_T64 HR1.out x5_2 p796 q796
     cases e796
     replace hx796_0 := Aside0.mk hx796_0
     replace hx796_1 := Aside0.mk hx796_1
     replace hx796_2 := Aside0.mk hx796_2
     replace hx796_3 := Aside0.mk hx796_3
     replace hx796_4 := Aside0.mk hx796_4
     replace hx796_5 := Aside0.mk hx796_5
     have r796 := eq_true p796; have s796 := eq_true q796
     replace p796 := Aside0.mk p796; replace q796 := Aside0.mk q796
     replace H := Option.bind_eq_some_iff.mp H
     obtain ⟨t797, hm, H⟩ := H
     try dsimp only at H
     replace hm := Aside0.mk hm
     replace H := Aside0.mk H
     refine pu 6 (some 23) 127 ?_; refine ld 7 (some 24) 255 hHeld ?_ (hr := by (intro w' h_; have y0_ := xD HBr h_ hx796_0; have y1_ := xD HBr h_ hx796_1; have y2_ := xD HBr h_ hx796_2; have y3_ := xD HBr h_ hx796_3; have y4_ := xD HBr h_ hx796_4; have y5_ := xD HBr h_ hx796_5; go_simp; with_reducible rfl))
     refine on 8 (some 25) 511 (fun K hK => ?_)
     have hcall := laws_eqCert.calls _ _ _ _ _ _ _ _ _ _ _ _ _ W4  hm.out
     refine goes_ Tryz.func97 (by kernel_rfl) rfl #[.agg #[.int .i64 ((rd_T64 l0 x5_2).f0), .int .i64 ((rd_T64 l0 x5_2).f1), .int .i64 ((rd_T64 l0 x5_2).f2), .int .i64 ((rd_T64 l0 x5_2).f3), .int .i64 ((rd_T64 l0 x5_2).f4), .int .i64 ((rd_T64 l0 x5_2).f5)], .agg #[.int .i64 ((rd_T64 l1 x5_2).f0), .int .i64 ((rd_T64 l1 x5_2).f1), .int .i64 ((rd_T64 l1 x5_2).f2), .int .i64 ((rd_T64 l1 x5_2).f3), .int .i64 ((rd_T64 l1 x5_2).f4), .int .i64 ((rd_T64 l1 x5_2).f5)]] (by rfl) rfl rfl (by (try simp only [List.map_toArray, List.map_cons, List.map_nil]); first | done | rfl) ?_
     refine hcall.mono ?_
     rintro e W8 ⟨rfl, hb⟩
     refine ⟨_, rfl, ?_⟩
     clear hcall hm
     replace hHeld := below_step hHeld hb
     replace HB := bH HB hb; clear hb
     refine hK.out _ _ hHeld (fun hHeld => ?_)
     clear hK K
     refine nr 25 ?_
     refine pu 9 (some 26) 1023 ?_
     refine dn (by kernel_rfl) ?_
     clear hHeld HBr
     replace H := H.out
     replace H := ifD H; rcases H with ⟨c9, H⟩ | ⟨c9, H⟩
     ·subst c9
      replace H := Aside0.mk H
      go_wp2
      go_roundg k2
      case measure => have := Hk2.out; omega
      case rel => exact ⟨(wrap64 (x5_2 + 1)), (by first | rfl | (simp; done) | (simp [*]; done)), H, ⟨by have := Hk2.out; omega⟩, HB⟩
     ·replace c9 := (Bool.not_eq_true _).mp c9
      subst c9
      obtain rfl := Option.some.inj H
      clear H
      go_wp2
      go_ret
      exact ⟨rfl, HB.out⟩
    ·have c3_0 := decF c3
     replace c3 := Aside0.mk c3
     first | rw [c3_0] | skip
     obtain rfl := Option.some.inj H
     clear H
     go_wp2
     go_ret
     exact ⟨rfl, HB.out⟩
 ·have c1_x0 : (l0.length == l1.length) = false := by first | simpa using c1 | (simp at c1 ⊢; omega)
  have c1_0 := decF c1; have c1_1 := eqF c1; have c1_2 := neF c1
  clear c1
  first | rw [c1_1] | rw [c1_2] | skip
  obtain rfl := Option.some.inj H
  clear H
  go_wp2
  go_ret
  exact ⟨rfl, HB.out⟩

/-! ### laws_eqCenter: function 11 -/
def laws_eqCenter.f (k : Nat) (l0_0 : List (S110)) (l0_1 : List (S117)) (l0_2 : List (S53)) (l0_3 : List (S121)) (a0_4 : Int) (l0_5 : List (S64)) (l1_0 : List (S110)) (l1_1 : List (S117)) (l1_2 : List (S53)) (l1_3 : List (S121)) (a1_4 : Int) (l1_5 : List (S64)) : Option (Bool) := (laws_eqIssuerS.f k l0_0 l1_0).bind fun t800 => (if t800 = true then ((laws_eqEpochS.f k l0_1 l1_1).bind fun t801 => (if t801 = true then ((laws_eqFactS.f k l0_2 l1_2).bind fun t802 => (if t802 = true then ((laws_eqRevokedS.f k l0_3 l1_3).bind fun t803 => (if t803 = true then (if a0_4 = a1_4 then ((laws_eqCertS.f k l0_5 l1_5).bind fun t804 => (if t804 = true then (some true) else (some false))) else (some false)) else (some false))) else (some false))) else (some false))) else (some false))
open Go.Proofs.YtineejdlpcgnkaaGreatM in
set_option maxHeartbeats 8000000 in
set_option maxRecDepth 100000 in
theorem laws_eqCenter.calls (k : Nat) (A0_0 : Option Addr) (c0_0 : Nat) (l0_0 : List (S110)) (A0_1 : Option Addr) (c0_1 : Nat) (l0_1 : List (S117)) (A0_2 : Option Addr) (c0_2 : Nat) (l0_2 : List (S53)) (A0_3 : Option Addr) (c0_3 : Nat) (l0_3 : List (S121)) (a0_4 : Int) (A0_5 : Option Addr) (c0_5 : Nat) (l0_5 : List (S64)) (A1_0 : Option Addr) (c1_0 : Nat) (l1_0 : List (S110)) (A1_1 : Option Addr) (c1_1 : Nat) (l1_1 : List (S117)) (A1_2 : Option Addr) (c1_2 : Nat) (l1_2 : List (S53)) (A1_3 : Option Addr) (c1_3 : Nat) (l1_3 : List (S121)) (a1_4 : Int) (A1_5 : Option Addr) (c1_5 : Nat) (l1_5 : List (S64)) (r : Bool) (w : World) (hr0_0 : Kd.C k110 w A0_0 l0_0.length l0_0) (hc0_0 : l0_0.length ≤ c0_0) (hr0_1 : Kd.C k117 w A0_1 l0_1.length l0_1) (hc0_1 : l0_1.length ≤ c0_1) (hr0_2 : Kd.C k53 w A0_2 l0_2.length l0_2) (hc0_2 : l0_2.length ≤ c0_2) (hr0_3 : Kd.C k121 w A0_3 l0_3.length l0_3) (hc0_3 : l0_3.length ≤ c0_3) (hr0_5 : Kd.C k64 w A0_5 l0_5.length l0_5) (hc0_5 : l0_5.length ≤ c0_5) (hr1_0 : Kd.C k110 w A1_0 l1_0.length l1_0) (hc1_0 : l1_0.length ≤ c1_0) (hr1_1 : Kd.C k117 w A1_1 l1_1.length l1_1) (hc1_1 : l1_1.length ≤ c1_1) (hr1_2 : Kd.C k53 w A1_2 l1_2.length l1_2) (hc1_2 : l1_2.length ≤ c1_2) (hr1_3 : Kd.C k121 w A1_3 l1_3.length l1_3) (hc1_3 : l1_3.length ≤ c1_3) (hr1_5 : Kd.C k64 w A1_5 l1_5.length l1_5) (hc1_5 : l1_5.length ≤ c1_5) (h : laws_eqCenter.f k l0_0 l0_1 l0_2 l0_3 a0_4 l0_5 l1_0 l1_1 l1_2 l1_3 a1_4 l1_5 = some r) :
  Calls Tryz.prog 11 #[.agg #[.slice A0_0 l0_0.length c0_0, .slice A0_1 l0_1.length c0_1, .slice A0_2 l0_2.length c0_2, .slice A0_3 l0_3.length c0_3, .int .i64 a0_4, .slice A0_5 l0_5.length c0_5], .agg #[.slice A1_0 l1_0.length c1_0, .slice A1_1 l1_1.length c1_1, .slice A1_2 l1_2.length c1_2, .slice A1_3 l1_3.length c1_3, .int .i64 a1_4, .slice A1_5 l1_5.length c1_5]] w fun e w' => e = .returned (.bool r) ∧ Below w.heap.size w w' := by
 have HR0_0 := Aside0.mk hr0_0
 have HC0_0 := Aside0.mk hc0_0
 clear hr0_0 hc0_0
 have HR0_1 := Aside0.mk hr0_1
 have HC0_1 := Aside0.mk hc0_1
 clear hr0_1 hc0_1
 have HR0_2 := Aside0.mk hr0_2
 have HC0_2 := Aside0.mk hc0_2
 clear hr0_2 hc0_2
 have HR0_3 := Aside0.mk hr0_3
 have HC0_3 := Aside0.mk hc0_3
 clear hr0_3 hc0_3
 have HR0_5 := Aside0.mk hr0_5
 have HC0_5 := Aside0.mk hc0_5
 clear hr0_5 hc0_5
 have HR1_0 := Aside0.mk hr1_0
 have HC1_0 := Aside0.mk hc1_0
 clear hr1_0 hc1_0
 have HR1_1 := Aside0.mk hr1_1
 have HC1_1 := Aside0.mk hc1_1
 clear hr1_1 hc1_1
 have HR1_2 := Aside0.mk hr1_2
 have HC1_2 := Aside0.mk hc1_2
 clear hr1_2 hc1_2
 have HR1_3 := Aside0.mk hr1_3
 have HC1_3 := Aside0.mk hc1_3
 clear hr1_3 hc1_3
 have HR1_5 := Aside0.mk hr1_5
 have HC1_5 := Aside0.mk hc1_5
 clear hr1_5 hc1_5
 have HB := Aside0.mk (Below.refl w.heap.size w)
 have H := h
 clear h
 unfold laws_eqCenter.f at H
 have hu37 := Tryz.underlying37
 go_enter Tryz.func11, Tryz.ntmps11
 replace H := Aside0.mk H
 go_upto_region 1 with (first | ((with_reducible refine gate_dst (N := 2) rfl ?_); refine box_event ?hg (N := 2) ?hd (cs := #[.slice A0_0 l0_0.length c0_0, .slice A0_1 l0_1.length c0_1, .slice A0_2 l0_2.length c0_2, .slice A0_3 l0_3.length c0_3, .int .i64 a0_4, .slice A0_5 l0_5.length c0_5]) (t := 37) ?hr ?_; (case hd => rfl); (case hg => rfl); (case hr => first | (go_simp; done) | (go_simp; rfl)); intro gb1 hg W1 hbox hb; replace HB := bH HB hb; clear hb; have BK1 := Aside0.mk hbox; have c_BK1 := blk_cell hbox; have z_BK1 := blk_frozen hbox; clear hg hbox) | ((with_reducible refine gate_dst (N := 3) rfl ?_); refine box_event ?hg (N := 3) ?hd (cs := #[.slice A1_0 l1_0.length c1_0, .slice A1_1 l1_1.length c1_1, .slice A1_2 l1_2.length c1_2, .slice A1_3 l1_3.length c1_3, .int .i64 a1_4, .slice A1_5 l1_5.length c1_5]) (t := 37) ?hr ?_; (case hd => rfl); (case hg => rfl); (case hr => first | (go_simp; done) | (go_simp; rfl)); intro gb2 hg W2 hbox hb; replace BK1 := bK BK1 hb; replace c_BK1 := blk_cell BK1.out; replace z_BK1 := blk_frozen BK1.out; replace HB := bH HB hb; clear hb; have BK2 := Aside0.mk hbox; have c_BK2 := blk_cell hbox; have z_BK2 := blk_frozen hbox; clear hg hbox))
 replace H := H.out
 replace H := Option.bind_eq_some_iff.mp H
 obtain ⟨t800, hm, H⟩ := H
 try dsimp only at H
 replace H := Aside0.mk H
 have hcall := laws_eqIssuerS.calls k _ _ _ _ _ _ _ W2 (Kd.C_below HR0_0.out HB.out) HC0_0.out (Kd.C_below HR1_0.out HB.out) HC1_0.out hm
 clear hm
 go_wp2_with fail
 refine hcall.mono ?_
 rintro e W3 ⟨rfl, hb⟩
 clear hcall
 replace BK1 := bK BK1 hb; replace c_BK1 := blk_cell BK1.out; replace z_BK1 := blk_frozen BK1.out
 replace BK2 := bK BK2 hb; replace c_BK2 := blk_cell BK2.out; replace z_BK2 := blk_frozen BK2.out
 replace HB := bH HB hb; clear hb
 replace H := H.out
 replace H := ifD H; rcases H with ⟨c4, H⟩ | ⟨c4, H⟩
 ·subst c4
  replace H := Option.bind_eq_some_iff.mp H
  obtain ⟨t801, hm, H⟩ := H
  try dsimp only at H
  replace H := Aside0.mk H
  have hcall := laws_eqEpochS.calls k _ _ _ _ _ _ _ W3 (Kd.C_below HR0_1.out HB.out) HC0_1.out (Kd.C_below HR1_1.out HB.out) HC1_1.out hm
  clear hm
  go_wp2_with fail
  refine hcall.mono ?_
  rintro e W5 ⟨rfl, hb⟩
  clear hcall
  replace BK1 := bK BK1 hb; replace c_BK1 := blk_cell BK1.out; replace z_BK1 := blk_frozen BK1.out
  replace BK2 := bK BK2 hb; replace c_BK2 := blk_cell BK2.out; replace z_BK2 := blk_frozen BK2.out
  replace HB := bH HB hb; clear hb
  replace H := H.out
  replace H := ifD H; rcases H with ⟨c6, H⟩ | ⟨c6, H⟩
  ·subst c6
   replace H := Option.bind_eq_some_iff.mp H
   obtain ⟨t802, hm, H⟩ := H
   try dsimp only at H
   replace H := Aside0.mk H
   have hcall := laws_eqFactS.calls k _ _ _ _ _ _ _ W5 (Kd.C_below HR0_2.out HB.out) HC0_2.out (Kd.C_below HR1_2.out HB.out) HC1_2.out hm
   clear hm
   go_wp2_with fail
   refine hcall.mono ?_
   rintro e W7 ⟨rfl, hb⟩
   clear hcall
   replace BK1 := bK BK1 hb; replace c_BK1 := blk_cell BK1.out; replace z_BK1 := blk_frozen BK1.out
   replace BK2 := bK BK2 hb; replace c_BK2 := blk_cell BK2.out; replace z_BK2 := blk_frozen BK2.out
   replace HB := bH HB hb; clear hb
   replace H := H.out
   replace H := ifD H; rcases H with ⟨c8, H⟩ | ⟨c8, H⟩
   ·subst c8
    replace H := Option.bind_eq_some_iff.mp H
    obtain ⟨t803, hm, H⟩ := H
    try dsimp only at H
    replace H := Aside0.mk H
    have hcall := laws_eqRevokedS.calls k _ _ _ _ _ _ _ W7 (Kd.C_below HR0_3.out HB.out) HC0_3.out (Kd.C_below HR1_3.out HB.out) HC1_3.out hm
    clear hm
    go_wp2_with fail
    refine hcall.mono ?_
    rintro e W9 ⟨rfl, hb⟩
    clear hcall
    replace BK1 := bK BK1 hb; replace c_BK1 := blk_cell BK1.out; replace z_BK1 := blk_frozen BK1.out
    replace BK2 := bK BK2 hb; replace c_BK2 := blk_cell BK2.out; replace z_BK2 := blk_frozen BK2.out
    replace HB := bH HB hb; clear hb
    replace H := H.out
    replace H := ifD H; rcases H with ⟨c10, H⟩ | ⟨c10, H⟩
    ·subst c10
     replace H := ifD H; rcases H with ⟨c11, H⟩ | ⟨c11, H⟩
     ·have c11_0 := decT c11; have c11_1 := eqT c11; have c11_2 := neT c11
      clear c11
      first | rw [c11_1] | rw [c11_2] | skip
      replace H := Option.bind_eq_some_iff.mp H
      obtain ⟨t804, hm, H⟩ := H
      try dsimp only at H
      replace H := Aside0.mk H
      have hcall := laws_eqCertS.calls k _ _ _ _ _ _ _ W9 (Kd.C_below HR0_5.out HB.out) HC0_5.out (Kd.C_below HR1_5.out HB.out) HC1_5.out hm
      clear hm
      go_wp2_with fail
      refine hcall.mono ?_
      rintro e W12 ⟨rfl, hb⟩
      clear hcall
      replace BK1 := bK BK1 hb; replace c_BK1 := blk_cell BK1.out; replace z_BK1 := blk_frozen BK1.out
      replace BK2 := bK BK2 hb; replace c_BK2 := blk_cell BK2.out; replace z_BK2 := blk_frozen BK2.out
      replace HB := bH HB hb; clear hb
      replace H := H.out
      replace H := ifD H; rcases H with ⟨c13, H⟩ | ⟨c13, H⟩
      ·subst c13
       obtain rfl := Option.some.inj H
       clear H
       go_wp2
       go_ret
       exact ⟨rfl, HB.out⟩
      ·replace c13 := (Bool.not_eq_true _).mp c13
       subst c13
       obtain rfl := Option.some.inj H
       clear H
       go_wp2
       go_ret
       exact ⟨rfl, HB.out⟩
     ·have c11_0 := decF c11; have c11_1 := eqF c11; have c11_2 := neF c11
      clear c11
      first | rw [c11_1] | rw [c11_2] | skip
      obtain rfl := Option.some.inj H
      clear H
      go_wp2
      go_ret
      exact ⟨rfl, HB.out⟩
    ·replace c10 := (Bool.not_eq_true _).mp c10
     subst c10
     obtain rfl := Option.some.inj H
     clear H
     go_wp2
     go_ret
     exact ⟨rfl, HB.out⟩
   ·replace c8 := (Bool.not_eq_true _).mp c8
    subst c8
    obtain rfl := Option.some.inj H
    clear H
    go_wp2
    go_ret
    exact ⟨rfl, HB.out⟩
  ·replace c6 := (Bool.not_eq_true _).mp c6
   subst c6
   obtain rfl := Option.some.inj H
   clear H
   go_wp2
   go_ret
   exact ⟨rfl, HB.out⟩
 ·replace c4 := (Bool.not_eq_true _).mp c4
  subst c4
  obtain rfl := Option.some.inj H
  clear H
  go_wp2
  go_ret
  exact ⟨rfl, HB.out⟩

end Go.Proofs.YtineejdlpcgnkaaGreat.QFnExactIsCenter
