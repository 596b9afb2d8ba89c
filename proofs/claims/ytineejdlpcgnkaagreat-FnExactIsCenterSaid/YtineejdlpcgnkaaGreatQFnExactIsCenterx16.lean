/- The machine side of FnExactIsCenter: what each function that it reaches computes, and that the machine's call gives just that. -/
import Derived.Test.YtineejdlpcgnkaaGreatQFnExactIsCenterx0
import Derived.Test.YtineejdlpcgnkaaGreatQFnExactIsCenterx15
namespace Go.Proofs.YtineejdlpcgnkaaGreat.QFnExactIsCenter
open Go.RowKit Go.Proofs.YtineejdlpcgnkaaGreatW.PrintWords Go.Proofs.YtineejdlpcgnkaaGreatW.PrintLast Go.Proofs.YtineejdlpcgnkaaGreatW.PrintMore
attribute [local go_sem] max2_int min2_int max_two min_two max_three min_three max_four min_four   -- for this text's walks alone
set_option linter.unusedVariables false
set_option linter.unusedSimpArgs false

/-! ### laws_eqCondS: function 202 -/
/-! ### laws_eqCond: function 194 -/
mutual
def laws_eqCondS.l0 : Nat → List (S164) → List (S164) → Int → Option (Bool)
 | 0, _, _, _ => none
 | k + 1, x0, x1, x5 => if x5 < (x0.length : Int) then (if 0 ≤ x5 then (if x5 < (x1.length : Int) then ((laws_eqCond.f k ((rd_T164 x0 x5).f0) ((rd_T164 x0 x5).f1) ((rd_T164 x0 x5).f2) ((rd_T164 x0 x5).f3) ((rd_T164 x1 x5).f0) ((rd_T164 x1 x5).f1) ((rd_T164 x1 x5).f2) ((rd_T164 x1 x5).f3)).bind fun t763 => (if t763 = true then (laws_eqCondS.l0 k x0 x1 (wrap64 (x5 + 1))) else (some false))) else (none)) else (none)) else (some true)
def laws_eqCondS.f : Nat → List (S164) → List (S164) → Option (Bool)
 | 0, _, _ => none
 | k + 1, l0, l1 => if (l0.length : Int) = (l1.length : Int) then (laws_eqCondS.l0 k l0 l1 0) else (some false)
def laws_eqCond.f : Nat → Int → Int → Int → List (S164) → Int → Int → Int → List (S164) → Option (Bool)
 | 0, _, _, _, _, _, _, _, _ => none
 | k + 1, a0_0, a0_1, a0_2, l0_3, a1_0, a1_1, a1_2, l1_3 => if a0_0 = a1_0 then (if a0_1 = a1_1 then (if a0_2 = a1_2 then ((laws_eqCondS.f k l0_3 l1_3).bind fun t766 => (if t766 = true then (some true) else (some false))) else (some false)) else (some false)) else (some false)
end
abbrev laws_eqCondS.Stmt (k : Nat) : Prop := ∀ (A0 : Option Addr) (c0 : Nat) (l0 : List (S164)) (A1 : Option Addr) (c1 : Nat) (l1 : List (S164)) (r : Bool) (w : World) (hr0 : Kd.C k164 w A0 l0.length l0) (hc0 : l0.length ≤ c0) (hr1 : Kd.C k164 w A1 l1.length l1) (hc1 : l1.length ≤ c1) (h : laws_eqCondS.f k l0 l1 = some r),
  Calls Tryz.prog 202 #[.slice A0 l0.length c0, .slice A1 l1.length c1] w fun e w' => e = .returned (.bool r) ∧ Below w.heap.size w w'
abbrev laws_eqCond.Stmt (k : Nat) : Prop := ∀ (a0_0 : Int) (a0_1 : Int) (a0_2 : Int) (A0_3 : Option Addr) (c0_3 : Nat) (l0_3 : List (S164)) (a1_0 : Int) (a1_1 : Int) (a1_2 : Int) (A1_3 : Option Addr) (c1_3 : Nat) (l1_3 : List (S164)) (r : Bool) (w : World) (hr0_3 : Kd.C k164 w A0_3 l0_3.length l0_3) (hc0_3 : l0_3.length ≤ c0_3) (hr1_3 : Kd.C k164 w A1_3 l1_3.length l1_3) (hc1_3 : l1_3.length ≤ c1_3) (h : laws_eqCond.f k a0_0 a0_1 a0_2 l0_3 a1_0 a1_1 a1_2 l1_3 = some r),
  Calls Tryz.prog 194 #[.agg #[.int .i64 a0_0, .int .i64 a0_1, .int .i64 a0_2, .slice A0_3 l0_3.length c0_3], .agg #[.int .i64 a1_0, .int .i64 a1_1, .int .i64 a1_2, .slice A1_3 l1_3.length c1_3]] w fun e w' => e = .returned (.bool r) ∧ Below w.heap.size w w'
open Go.Proofs.YtineejdlpcgnkaaGreatM in
set_option maxHeartbeats 8000000 in
set_option maxRecDepth 100000 in
theorem laws_eqCondS.step (k : Nat) (ih_laws_eqCondS : ∀ m_, m_ < k → laws_eqCondS.Stmt m_) (ih_laws_eqCond : ∀ m_, m_ < k → laws_eqCond.Stmt m_) : laws_eqCondS.Stmt k := by
 unfold laws_eqCondS.Stmt
 intro A0 c0 l0 A1 c1 l1 r w hr0 hc0 hr1 hc1 h
 cases k with
 | zero => exact absurd h (by simp [laws_eqCondS.f])
 | succ k =>
 simp only [laws_eqCondS.f] at h
 have HR0 := Aside0.mk hr0
 have HC0 := Aside0.mk hc0
 clear hr0 hc0
 have HR1 := Aside0.mk hr1
 have HC1 := Aside0.mk hc1
 clear hr1 hc1
 have HB := Aside0.mk (Below.refl w.heap.size w)
 have H := h
 clear h
 have hu164 := Tryz.underlying164
 go_enter Tryz.func202, Tryz.ntmps202
 replace H := ifD H; rcases H with ⟨c1, H⟩ | ⟨c1, H⟩
 ·have c1_x0 : (l0.length == l1.length) = true := by first | simpa using c1 | (simp at c1 ⊢; omega)
  have c1_0 := decT c1; have c1_1 := eqT c1; have c1_2 := neT c1
  clear c1
  first | rw [c1_1] | rw [c1_2] | skip
  replace H := Aside0.mk H
  go_wp2
  go_loopg [5] k (fun kq v5 w' => ∃ (x5_2 : Int), v5 = .int .i64 x5_2 ∧ Aside0 (laws_eqCondS.l0 kq l0 l1 x5_2 = some r) ∧ Aside0 (kq ≤ k) ∧ Aside0 (Below w.heap.size w w'))
  case atStart => exact ⟨(0), (by first | rfl | (simp; done) | (simp [*]; done)), H, ⟨Nat.le_refl _⟩, HB⟩
  case round =>
   clear H HB 
   try clear c1_x0 c1_0 c1_1 c1_2
   obtain ⟨x5_2, rfl, HA, Hk2, HB⟩ := hrel
   cases gk with
   | zero => exact absurd HA.out (by simp [laws_eqCondS.l0])
   | succ k2 =>
    have H := HA.out
    clear HA
    simp only [laws_eqCondS.l0] at H
    replace H := ifD H; rcases H with ⟨c3, H⟩ | ⟨c3, H⟩
    ·have c3_0 := decT c3
     replace c3 := Aside0.mk c3
     first | rw [c3_0] | skip
     replace H := Aside0.mk H
     try go_wp2
     have HBr := HB; replace HB := dH HB
     refine stA (n := 10) (S := fun w' => Below wr.heap.size wr w') (by kernel_rfl) rfl (below_drew1 (Below.refl _ wr)) (by kernel_rfl) (fun hHeld => ?_)
     generalize wr.drew = W4 at HB hHeld ⊢
     refine pu 0 (some 17) 1 ?_; refine pu 1 (some 18) 3 ?_
     replace H := H.out
     replace H := ifN H; obtain ⟨c5, H⟩ := H
     have c5_0 := decT c5
     replace c5 := Aside0.mk c5
     first | rw [c5_0] | skip
     have p761 : 0 ≤ (x5_2 : Int) := (of_decide_eq_true (by assumption))
     have q761 : x5_2 < (l0.length : Int) := (of_decide_eq_true (by assumption))
     obtain ⟨ad761, A761_3, c761_3, e761, hx761_0, hx761_1, hx761_2, hx761_3, hl761_3, hi761_3⟩ := at_T164 HR0.out x5_2 p761 q761
     cases e761
     have HR761_3 := Aside0.mk hi761_3; have HC761_3 := Aside0.mk hl761_3; clear hi761_3 hl761_3
     replace hx761_0 := Aside0.mk hx761_0
     replace hx761_1 := Aside0.mk hx761_1
     replace hx761_2 := Aside0.mk hx761_2
     replace hx761_3 := Aside0.mk hx761_3
     have r761 := eq_true p761; have s761 := eq_true q761
     replace p761 := Aside0.mk p761; replace q761 := Aside0.mk q761
     replace H := Aside0.mk H
     refine pu 2 (some 19) 7 ?_; refine pu 4 (some 21) 23 ?_; refine pu 5 (some 22) 55 ?_; refine ld 3 (some 20) 63 hHeld ?_ (hr := by (intro w' h_; have y0_ := xD HBr h_ hx761_0; have y1_ := xD HBr h_ hx761_1; have y2_ := xD HBr h_ hx761_2; have y3_ := xD HBr h_ hx761_3; go_simp; with_reducible rfl))
     replace H := H.out
     replace H := ifN H; obtain ⟨c6, H⟩ := H
     have c6_0 := decT c6
     replace c6 := Aside0.mk c6
     first | rw [c6_0] | skip
     have p762 : 0 ≤ (x5_2 : Int) := (of_decide_eq_true (by assumption))
     have q762 : x5_2 < (l1.length : Int) := (of_decide_eq_true (by assumption))
     obtain ⟨ad762, A762_3, c762_3, e762, hx762_0, hx762_1, hx762_2, hx762_3, hl762_3, hi762_3⟩ := at_T164 HR1.out x5_2 p762 q762
     cases e762
     have HR762_3 := Aside0.mk hi762_3; have HC762_3 := Aside0.mk hl762_3; clear hi762_3 hl762_3
     replace hx762_0 := Aside0.mk hx762_0
     replace hx762_1 := Aside0.mk hx762_1
     replace hx762_2 := Aside0.mk hx762_2
     replace hx762_3 := Aside0.mk hx762_3
     have r762 := eq_true p762; have s762 := eq_true q762
     replace p762 := Aside0.mk p762; replace q762 := Aside0.mk q762
     replace H := Option.bind_eq_some_iff.mp H
     obtain ⟨t763, hm, H⟩ := H
     try dsimp only at H
     replace hm := Aside0.mk hm
     replace H := Aside0.mk H
     refine pu 6 (some 23) 127 ?_; refine ld 7 (some 24) 255 hHeld ?_ (hr := by (intro w' h_; have y0_ := xD HBr h_ hx762_0; have y1_ := xD HBr h_ hx762_1; have y2_ := xD HBr h_ hx762_2; have y3_ := xD HBr h_ hx762_3; go_simp; with_reducible rfl))
     refine on 8 (some 25) 511 (fun K hK => ?_)
     have hcall := ih_laws_eqCond k2 (by have := Hk2.out; omega) _ _ _ _ _ _ _ _ _ _ _ _ _ W4 (Kd.C_below HR761_3.out HB.out) HC761_3.out (Kd.C_below HR762_3.out HB.out) HC762_3.out hm.out
     refine goes_ Tryz.func194 (by kernel_rfl) rfl #[.agg #[.int .i64 ((rd_T164 l0 x5_2).f0), .int .i64 ((rd_T164 l0 x5_2).f1), .int .i64 ((rd_T164 l0 x5_2).f2), .slice A761_3 ((rd_T164 l0 x5_2).f3).length c761_3], .agg #[.int .i64 ((rd_T164 l1 x5_2).f0), .int .i64 ((rd_T164 l1 x5_2).f1), .int .i64 ((rd_T164 l1 x5_2).f2), .slice A762_3 ((rd_T164 l1 x5_2).f3).length c762_3]] (by rfl) rfl rfl (by (try simp only [List.map_toArray, List.map_cons, List.map_nil]); first | done | rfl) ?_
     refine hcall.mono ?_
     rintro e W8 ⟨rfl, hb⟩
     refine ⟨_, rfl, ?_⟩
     clear hcall hm
     replace hHeld := below_step hHeld hb
     replace HB := bH HB hb; clear hb
     refine hK.out _ _ hHeld (fun hHeld => ?_)
     clear hK K
     refine nr 25 ?_
     refine pu 9 (some 26) 1023 ?_
     refine dn (by kernel_rfl) ?_
     clear hHeld HBr
     replace H := H.out
     replace H := ifD H; rcases H with ⟨c9, H⟩ | ⟨c9, H⟩
     ·subst c9
      replace H := Aside0.mk H
      go_wp2
      go_roundg k2
      case measure => have := Hk2.out; omega
      case rel => exact ⟨(wrap64 (x5_2 + 1)), (by first | rfl | (simp; done) | (simp [*]; done)), H, ⟨by have := Hk2.out; omega⟩, HB⟩
     ·replace c9 := (Bool.not_eq_true _).mp c9
      subst c9
      obtain rfl := Option.some.inj H
      clear H
      go_wp2
      go_ret
      exact ⟨rfl, HB.out⟩
    ·have c3_0 := decF c3
     replace c3 := Aside0.mk c3
     first | rw [c3_0] | skip
     obtain rfl := Option.some.inj H
     clear H
     go_wp2
     go_ret
     exact ⟨rfl, HB.out⟩
 ·have c1_x0 : (l0.length == l1.length) = false := by first | simpa using c1 | (simp at c1 ⊢; omega)
  have c1_0 := decF c1; have c1_1 := eqF c1; have c1_2 := neF c1
  clear c1
  first | rw [c1_1] | rw [c1_2] | skip
  obtain rfl := Option.some.inj H
  clear H
  go_wp2
  go_ret
  exact ⟨rfl, HB.out⟩
open Go.Proofs.YtineejdlpcgnkaaGreatM in
set_option maxHeartbeats 8000000 in
set_option maxRecDepth 100000 in
theorem laws_eqCond.step (k : Nat) (ih_laws_eqCondS : ∀ m_, m_ < k → laws_eqCondS.Stmt m_) (ih_laws_eqCond : ∀ m_, m_ < k → laws_eqCond.Stmt m_) : laws_eqCond.Stmt k := by
 unfold laws_eqCond.Stmt
 intro a0_0 a0_1 a0_2 A0_3 c0_3 l0_3 a1_0 a1_1 a1_2 A1_3 c1_3 l1_3 r w hr0_3 hc0_3 hr1_3 hc1_3 h
 cases k with
 | zero => exact absurd h (by simp [laws_eqCond.f])
 | succ k =>
 simp only [laws_eqCond.f] at h
 have HR0_3 := Aside0.mk hr0_3
 have HC0_3 := Aside0.mk hc0_3
 clear hr0_3 hc0_3
 have HR1_3 := Aside0.mk hr1_3
 have HC1_3 := Aside0.mk hc1_3
 clear hr1_3 hc1_3
 have HB := Aside0.mk (Below.refl w.heap.size w)
 have H := h
 clear h
 have hu164 := Tryz.underlying164
 go_enter Tryz.func194, Tryz.ntmps194
 replace H := Aside0.mk H
 go_upto_region 1 with (first | ((with_reducible refine gate_dst (N := 2) rfl ?_); refine box_event ?hg (N := 2) ?hd (cs := #[.int .i64 a0_0, .int .i64 a0_1, .int .i64 a0_2, .slice A0_3 l0_3.length c0_3]) (t := 164) ?hr ?_; (case hd => rfl); (case hg => rfl); (case hr => first | (go_simp; done) | (go_simp; rfl)); intro gb1 hg W1 hbox hb; replace HB := bH HB hb; clear hb; have BK1 := Aside0.mk hbox; have c_BK1 := blk_cell hbox; have z_BK1 := blk_frozen hbox; clear hg hbox) | ((with_reducible refine gate_dst (N := 3) rfl ?_); refine box_event ?hg (N := 3) ?hd (cs := #[.int .i64 a1_0, .int .i64 a1_1, .int .i64 a1_2, .slice A1_3 l1_3.length c1_3]) (t := 164) ?hr ?_; (case hd => rfl); (case hg => rfl); (case hr => first | (go_simp; done) | (go_simp; rfl)); intro gb2 hg W2 hbox hb; replace BK1 := bK BK1 hb; replace c_BK1 := blk_cell BK1.out; replace z_BK1 := blk_frozen BK1.out; replace HB := bH HB hb; clear hb; have BK2 := Aside0.mk hbox; have c_BK2 := blk_cell hbox; have z_BK2 := blk_frozen hbox; clear hg hbox))
 replace H := H.out
 replace H := ifD H; rcases H with ⟨c3, H⟩ | ⟨c3, H⟩
 ·have c3_0 := decT c3; have c3_1 := eqT c3; have c3_2 := neT c3
  clear c3
  first | rw [c3_1] | rw [c3_2] | skip
  replace H := ifD H; rcases H with ⟨c4, H⟩ | ⟨c4, H⟩
  ·have c4_0 := decT c4; have c4_1 := eqT c4; have c4_2 := neT c4
   clear c4
   first | rw [c4_1] | rw [c4_2] | skip
   replace H := ifD H; rcases H with ⟨c5, H⟩ | ⟨c5, H⟩
   ·have c5_0 := decT c5; have c5_1 := eqT c5; have c5_2 := neT c5
    clear c5
    first | rw [c5_1] | rw [c5_2] | skip
    replace H := Option.bind_eq_some_iff.mp H
    obtain ⟨t766, hm, H⟩ := H
    try dsimp only at H
    replace H := Aside0.mk H
    have hcall := ih_laws_eqCondS k (by omega) _ _ _ _ _ _ _ W2 (Kd.C_below HR0_3.out HB.out) HC0_3.out (Kd.C_below HR1_3.out HB.out) HC1_3.out hm
    clear hm
    go_wp2_with fail
    refine hcall.mono ?_
    rintro e W6 ⟨rfl, hb⟩
    clear hcall
    replace BK1 := bK BK1 hb; replace c_BK1 := blk_cell BK1.out; replace z_BK1 := blk_frozen BK1.out
    replace BK2 := bK BK2 hb; replace c_BK2 := blk_cell BK2.out; replace z_BK2 := blk_frozen BK2.out
    replace HB := bH HB hb; clear hb
    replace H := H.out
    replace H := ifD H; rcases H with ⟨c7, H⟩ | ⟨c7, H⟩
    ·subst c7
     obtain rfl := Option.some.inj H
     clear H
     go_wp2
     go_ret
     exact ⟨rfl, HB.out⟩
    ·replace c7 := (Bool.not_eq_true _).mp c7
     subst c7
     obtain rfl := Option.some.inj H
     clear H
     go_wp2
     go_ret
     exact ⟨rfl, HB.out⟩
   ·have c5_0 := decF c5; have c5_1 := eqF c5; have c5_2 := neF c5
    clear c5
    first | rw [c5_1] | rw [c5_2] | skip
    obtain rfl := Option.some.inj H
    clear H
    go_wp2
    go_ret
    exact ⟨rfl, HB.out⟩
  ·have c4_0 := decF c4; have c4_1 := eqF c4; have c4_2 := neF c4
   clear c4
   first | rw [c4_1] | rw [c4_2] | skip
   obtain rfl := Option.some.inj H
   clear H
   go_wp2
   go_ret
   exact ⟨rfl, HB.out⟩
 ·have c3_0 := decF c3; have c3_1 := eqF c3; have c3_2 := neF c3
  clear c3
  first | rw [c3_1] | rw [c3_2] | skip
  obtain rfl := Option.some.inj H
  clear H
  go_wp2
  go_ret
  exact ⟨rfl, HB.out⟩
theorem laws_eqCondS.both (k : Nat) : laws_eqCondS.Stmt k ∧ laws_eqCond.Stmt k := by
 induction k using Nat.strongRecOn with
 | _ k ih =>
 exact ⟨laws_eqCondS.step k (fun m hm => (ih m hm).1) (fun m hm => (ih m hm).2), laws_eqCond.step k (fun m hm => (ih m hm).1) (fun m hm => (ih m hm).2)⟩
theorem laws_eqCond.calls (k : Nat) : ∀ (a0_0 : Int) (a0_1 : Int) (a0_2 : Int) (A0_3 : Option Addr) (c0_3 : Nat) (l0_3 : List (S164)) (a1_0 : Int) (a1_1 : Int) (a1_2 : Int) (A1_3 : Option Addr) (c1_3 : Nat) (l1_3 : List (S164)) (r : Bool) (w : World) (hr0_3 : Kd.C k164 w A0_3 l0_3.length l0_3) (hc0_3 : l0_3.length ≤ c0_3) (hr1_3 : Kd.C k164 w A1_3 l1_3.length l1_3) (hc1_3 : l1_3.length ≤ c1_3) (h : laws_eqCond.f k a0_0 a0_1 a0_2 l0_3 a1_0 a1_1 a1_2 l1_3 = some r),
  Calls Tryz.prog 194 #[.agg #[.int .i64 a0_0, .int .i64 a0_1, .int .i64 a0_2, .slice A0_3 l0_3.length c0_3], .agg #[.int .i64 a1_0, .int .i64 a1_1, .int .i64 a1_2, .slice A1_3 l1_3.length c1_3]] w fun e w' => e = .returned (.bool r) ∧ Below w.heap.size w w' := (laws_eqCondS.both k).2

/-! ### laws_eqRule: function 183 -/
def laws_eqRule.f (k : Nat) (a0_0 : Int) (a0_1 : Int) (a0_2 : Int) (a0_3 : Int) (a0_4 : Int) (a0_5 : Int) (l0_6 : List (S164)) (a1_0 : Int) (a1_1 : Int) (a1_2 : Int) (a1_3 : Int) (a1_4 : Int) (a1_5 : Int) (l1_6 : List (S164)) : Option (Bool) := if a0_0 = a1_0 then (if a0_1 = a1_1 then (if a0_2 = a1_2 then ((laws_eqCond.f k a0_3 a0_4 a0_5 l0_6 a1_3 a1_4 a1_5 l1_6).bind fun t769 => (if t769 = true then (some true) else (some false))) else (some false)) else (some false)) else (some false)
open Go.Proofs.YtineejdlpcgnkaaGreatM in
set_option maxHeartbeats 8000000 in
set_option maxRecDepth 100000 in
theorem laws_eqRule.calls (k : Nat) (a0_0 : Int) (a0_1 : Int) (a0_2 : Int) (a0_3 : Int) (a0_4 : Int) (a0_5 : Int) (A0_6 : Option Addr) (c0_6 : Nat) (l0_6 : List (S164)) (a1_0 : Int) (a1_1 : Int) (a1_2 : Int) (a1_3 : Int) (a1_4 : Int) (a1_5 : Int) (A1_6 : Option Addr) (c1_6 : Nat) (l1_6 : List (S164)) (r : Bool) (w : World) (hr0_6 : Kd.C k164 w A0_6 l0_6.length l0_6) (hc0_6 : l0_6.length ≤ c0_6) (hr1_6 : Kd.C k164 w A1_6 l1_6.length l1_6) (hc1_6 : l1_6.length ≤ c1_6) (h : laws_eqRule.f k a0_0 a0_1 a0_2 a0_3 a0_4 a0_5 l0_6 a1_0 a1_1 a1_2 a1_3 a1_4 a1_5 l1_6 = some r) :
  Calls Tryz.prog 183 #[.agg #[.int .i64 a0_0, .int .i64 a0_1, .int .i64 a0_2, .int .i64 a0_3, .int .i64 a0_4, .int .i64 a0_5, .slice A0_6 l0_6.length c0_6], .agg #[.int .i64 a1_0, .int .i64 a1_1, .int .i64 a1_2, .int .i64 a1_3, .int .i64 a1_4, .int .i64 a1_5, .slice A1_6 l1_6.length c1_6]] w fun e w' => e = .returned (.bool r) ∧ Below w.heap.size w w' := by
 have HR0_6 := Aside0.mk hr0_6
 have HC0_6 := Aside0.mk hc0_6
 clear hr0_6 hc0_6
 have HR1_6 := Aside0.mk hr1_6
 have HC1_6 := Aside0.mk hc1_6
 clear hr1_6 hc1_6
 have HB := Aside0.mk (Below.refl w.heap.size w)
 have H := h
 clear h
 unfold laws_eqRule.f at H
 have hu164 := Tryz.underlying164
 have hu166 := Tryz.underlying166
 go_enter Tryz.func183, Tryz.ntmps183
 replace H := Aside0.mk H
 go_upto_region 1 with (first | ((with_reducible refine gate_dst (N := 2) rfl ?_); refine box_event ?hg (N := 2) ?hd (cs := #[.int .i64 a0_0, .int .i64 a0_1, .int .i64 a0_2, .int .i64 a0_3, .int .i64 a0_4, .int .i64 a0_5, .slice A0_6 l0_6.length c0_6]) (t := 166) ?hr ?_; (case hd => rfl); (case hg => rfl); (case hr => first | (go_simp; done) | (go_simp; rfl)); intro gb1 hg W1 hbox hb; replace HB := bH HB hb; clear hb; have BK1 := Aside0.mk hbox; have c_BK1 := blk_cell hbox; have z_BK1 := blk_frozen hbox; clear hg hbox) | ((with_reducible refine gate_dst (N := 3) rfl ?_); refine box_event ?hg (N := 3) ?hd (cs := #[.int .i64 a1_0, .int .i64 a1_1, .int .i64 a1_2, .int .i64 a1_3, .int .i64 a1_4, .int .i64 a1_5, .slice A1_6 l1_6.length c1_6]) (t := 166) ?hr ?_; (case hd => rfl); (case hg => rfl); (case hr => first | (go_simp; done) | (go_simp; rfl)); intro gb2 hg W2 hbox hb; replace BK1 := bK BK1 hb; replace c_BK1 := blk_cell BK1.out; replace z_BK1 := blk_frozen BK1.out; replace HB := bH HB hb; clear hb; have BK2 := Aside0.mk hbox; have c_BK2 := blk_cell hbox; have z_BK2 := blk_frozen hbox; clear hg hbox))
 replace H := H.out
 replace H := ifD H; rcases H with ⟨c3, H⟩ | ⟨c3, H⟩
 ·have c3_0 := decT c3; have c3_1 := eqT c3; have c3_2 := neT c3
  clear c3
  first | rw [c3_1] | rw [c3_2] | skip
  replace H := ifD H; rcases H with ⟨c4, H⟩ | ⟨c4, H⟩
  ·have c4_0 := decT c4; have c4_1 := eqT c4; have c4_2 := neT c4
   clear c4
   first | rw [c4_1] | rw [c4_2] | skip
   replace H := ifD H; rcases H with ⟨c5, H⟩ | ⟨c5, H⟩
   ·have c5_0 := decT c5; have c5_1 := eqT c5; have c5_2 := neT c5
    clear c5
    first | rw [c5_1] | rw [c5_2] | skip
    replace H := Option.bind_eq_some_iff.mp H
    obtain ⟨t769, hm, H⟩ := H
    try dsimp only at H
    replace H := Aside0.mk H
    have hcall := laws_eqCond.calls k _ _ _ _ _ _ _ _ _ _ _ _ _ W2 (Kd.C_below HR0_6.out HB.out) HC0_6.out (Kd.C_below HR1_6.out HB.out) HC1_6.out hm
    clear hm
    go_wp2_with fail
    refine hcall.mono ?_
    rintro e W6 ⟨rfl, hb⟩
    clear hcall
    replace BK1 := bK BK1 hb; replace c_BK1 := blk_cell BK1.out; replace z_BK1 := blk_frozen BK1.out
    replace BK2 := bK BK2 hb; replace c_BK2 := blk_cell BK2.out; replace z_BK2 := blk_frozen BK2.out
    replace HB := bH HB hb; clear hb
    replace H := H.out
    replace H := ifD H; rcases H with ⟨c7, H⟩ | ⟨c7, H⟩
    ·subst c7
     obtain rfl := Option.some.inj H
     clear H
     go_wp2
     go_ret
     exact ⟨rfl, HB.out⟩
    ·replace c7 := (Bool.not_eq_true _).mp c7
     subst c7
     obtain rfl := Option.some.inj H
     clear H
     go_wp2
     go_ret
     exact ⟨rfl, HB.out⟩
   ·have c5_0 := decF c5; have c5_1 := eqF c5; have c5_2 := neF c5
    clear c5
    first | rw [c5_1] | rw [c5_2] | skip
    obtain rfl := Option.some.inj H
    clear H
    go_wp2
    go_ret
    exact ⟨rfl, HB.out⟩
  ·have c4_0 := decF c4; have c4_1 := eqF c4; have c4_2 := neF c4
   clear c4
   first | rw [c4_1] | rw [c4_2] | skip
   obtain rfl := Option.some.inj H
   clear H
   go_wp2
   go_ret
   exact ⟨rfl, HB.out⟩
 ·have c3_0 := decF c3; have c3_1 := eqF c3; have c3_2 := neF c3
  clear c3
  first | rw [c3_1] | rw [c3_2] | skip
  obtain rfl := Option.some.inj H
  clear H
  go_wp2
  go_ret
  exact ⟨rfl, HB.out⟩

/-! ### laws_eqRuleS: function 171 -/
def laws_eqRuleS.l0 : Nat → List (S166) → List (S166) → Int → Option (Bool)
 | 0, _, _, _ => none
 | k + 1, x0, x1, x5 => if x5 < (x0.length : Int) then (if 0 ≤ x5 then (if x5 < (x1.length : Int) then ((laws_eqRule.f k ((rd_T166 x0 x5).f0) ((rd_T166 x0 x5).f1) ((rd_T166 x0 x5).f2) ((rd_T166 x0 x5).f3.f0) ((rd_T166 x0 x5).f3.f1) ((rd_T166 x0 x5).f3.f2) ((rd_T166 x0 x5).f3.f3) ((rd_T166 x1 x5).f0) ((rd_T166 x1 x5).f1) ((rd_T166 x1 x5).f2) ((rd_T166 x1 x5).f3.f0) ((rd_T166 x1 x5).f3.f1) ((rd_T166 x1 x5).f3.f2) ((rd_T166 x1 x5).f3.f3)).bind fun t772 => (if t772 = true then (laws_eqRuleS.l0 k x0 x1 (wrap64 (x5 + 1))) else (some false))) else (none)) else (none)) else (some true)
def laws_eqRuleS.f (k : Nat) (l0 : List (S166)) (l1 : List (S166)) : Option (Bool) := if (l0.length : Int) = (l1.length : Int) then (laws_eqRuleS.l0 k l0 l1 0) else (some false)
open Go.Proofs.YtineejdlpcgnkaaGreatM in
set_option maxHeartbeats 8000000 in
set_option maxRecDepth 100000 in
theorem laws_eqRuleS.calls (k : Nat) (A0 : Option Addr) (c0 : Nat) (l0 : List (S166)) (A1 : Option Addr) (c1 : Nat) (l1 : List (S166)) (r : Bool) (w : World) (hr0 : Kd.C k166 w A0 l0.length l0) (hc0 : l0.length ≤ c0) (hr1 : Kd.C k166 w A1 l1.length l1) (hc1 : l1.length ≤ c1) (h : laws_eqRuleS.f k l0 l1 = some r) :
  Calls Tryz.prog 171 #[.slice A0 l0.length c0, .slice A1 l1.length c1] w fun e w' => e = .returned (.bool r) ∧ Below w.heap.size w w' := by
 have HR0 := Aside0.mk hr0
 have HC0 := Aside0.mk hc0
 clear hr0 hc0
 have HR1 := Aside0.mk hr1
 have HC1 := Aside0.mk hc1
 clear hr1 hc1
 have HB := Aside0.mk (Below.refl w.heap.size w)
 have H := h
 clear h
 unfold laws_eqRuleS.f at H
 have hu166 := Tryz.underlying166
 go_enter Tryz.func171, Tryz.ntmps171
 replace H := ifD H; rcases H with ⟨c1, H⟩ | ⟨c1, H⟩
 ·have c1_x0 : (l0.length == l1.length) = true := by first | simpa using c1 | (simp at c1 ⊢; omega)
  have c1_0 := decT c1; have c1_1 := eqT c1; have c1_2 := neT c1
  clear c1
  first | rw [c1_1] | rw [c1_2] | skip
  replace H := Aside0.mk H
  go_wp2
  go_loopg [5] k (fun kq v5 w' => ∃ (x5_2 : Int), v5 = .int .i64 x5_2 ∧ Aside0 (laws_eqRuleS.l0 kq l0 l1 x5_2 = some r) ∧ Aside0 (kq ≤ k) ∧ Aside0 (Below w.heap.size w w'))
  case atStart => exact ⟨(0), (by first | rfl | (simp; done) | (simp [*]; done)), H, ⟨Nat.le_refl _⟩, HB⟩
  case round =>
   clear H HB 
   try clear c1_x0 c1_0 c1_1 c1_2
   obtain ⟨x5_2, rfl, HA, Hk2, HB⟩ := hrel
   cases gk with
   | zero => exact absurd HA.out (by simp [laws_eqRuleS.l0])
   | succ k2 =>
    have H := HA.out
    clear HA
    simp only [laws_eqRuleS.l0] at H
    replace H := ifD H; rcases H with ⟨c3, H⟩ | ⟨c3, H⟩
    ·have c3_0 := decT c3
     replace c3 := Aside0.mk c3
     first | rw [c3_0] | skip
     replace H := Aside0.mk H
     try go_wp2
     have HBr := HB; replace HB := dH HB
     refine stA (n := 10) (S := fun w' => Below wr.heap.size wr w') (by kernel_rfl) rfl (below_drew1 (Below.refl _ wr)) (by kernel_rfl) (fun hHeld => ?_)
     generalize wr.drew = W4 at HB hHeld ⊢
     refine pu 0 (some 17) 1 ?_; refine pu 1 (some 18) 3 ?_
     replace H := H.out
     replace H := ifN H; obtain ⟨c5, H⟩ := H
     have c5_0 := decT c5
     replace c5 := Aside0.mk c5
     first | rw [c5_0] | skip
     have p770 : 0 ≤ (x5_2 : Int) := (of_decide_eq_true (by assumption))
     have q770 : x5_2 < (l0.length : Int) := (of_decide_eq_true (by assumption))
     obtain ⟨ad770, A770_6, c770_6, e770, hx770_0, hx770_1, hx770_2, hx770_3, hx770_4, hx770_5, hx770_6, hl770_6, hi770_6⟩ := at_T166 HR0.out x5_2 p770 q770
     cases e770
     have HR770_6 := Aside0.mk hi770_6; have HC770_6 := Aside0.mk hl770_6; clear hi770_6 hl770_6
     replace hx770_0 := Aside0.mk hx770_0
     replace hx770_1 := Aside0.mk hx770_1
     replace hx770_2 := Aside0.mk hx770_2
     replace hx770_3 := Aside0.mk hx770_3
     replace hx770_4 := Aside0.mk hx770_4
     replace hx770_5 := Aside0.mk hx770_5
     replace hx770_6 := Aside0.mk hx770_6
     have r770 := eq_true p770; have s770 := eq_true q770
     replace p770 := Aside0.mk p770; replace q770 := Aside0.mk q770
     replace H := Aside0.mk H
     refine pu 2 (some 19) 7 ?_; refine pu 4 (some 21) 23 ?_; refine pu 5 (some 22) 55 ?_; refine ld 3 (some 20) 63 hHeld ?_ (hr := by (intro w' h_; have y0_ := xD HBr h_ hx770_0; have y1_ := xD HBr h_ hx770_1; have y2_ := xD HBr h_ hx770_2; have y3_ := xD HBr h_ hx770_3; have y4_ := xD HBr h_ hx770_4; have y5_ := xD HBr h_ hx770_5; have y6_ := xD HBr h_ hx770_6; go_simp; with_reducible rfl))
     replace H := H.out
     replace H := ifN H; obtain ⟨c6, H⟩ := H
     have c6_0 := decT c6
     replace c6 := Aside0.mk c6
     first | rw [c6_0] | skip
     have p771 : 0 ≤ (x5_2 : Int) := (of_decide_eq_true (by assumption))
     have q771 : x5_2 < (l1.length : Int) := (of_decide_eq_true (by assumption))
     obtain ⟨ad771, A771_6, c771_6, e771, hx771_0, hx771_1, hx771_2, hx771_3, hx771_4, hx771_5, hx771_6, hl771_6, hi771_6⟩ := at_T166 HR1.out x5_2 p771 q771
     cases e771
     have HR771_6 := Aside0.mk hi771_6; have HC771_6 := Aside0.mk hl771_6; clear hi771_6 hl771_6
     replace hx771_0 := Aside0.mk hx771_0
     replace hx771_1 := Aside0.mk hx771_1
     replace hx771_2 := Aside0.mk hx771_2
     replace hx771_3 := Aside0.mk hx771_3
     replace hx771_4 := Aside0.mk hx771_4
     replace hx771_5 := Aside0.mk hx771_5
     replace hx771_6 := Aside0.mk hx771_6
     have r771 := eq_true p771; have s771 := eq_true q771
     replace p771 := Aside0.mk p771; replace q771 := Aside0.mk q771
     replace H := Option.bind_eq_some_iff.mp H
     obtain ⟨t772, hm, H⟩ := H
     try dsimp only at H
     replace hm := Aside0.mk hm
     replace H := Aside0.mk H
     refine pu 6 (some 23) 127 ?_; refine ld 7 (some 24) 255 hHeld ?_ (hr := by (intro w' h_; have y0_ := xD HBr h_ hx771_0; have y1_ := xD HBr h_ hx771_1; have y2_ := xD HBr h_ hx771_2; have y3_ := xD HBr h_ hx771_3; have y4_ := xD HBr h_ hx771_4; have y5_ := xD HBr h_ hx771_5; have y6_ := xD HBr h_ hx771_6; go_simp; with_reducible rfl))
     refine on 8 (some 25) 511 (fun K hK => ?_)
     have hcall := laws_eqRule.calls k2 _ _ _ _ _ _ _ _ _ _ _ _ _ _ _ _ _ _ _ W4 (Kd.C_below HR770_6.out HB.out) HC770_6.out (Kd.C_below HR771_6.out HB.out) HC771_6.out hm.out
     refine goes_ Tryz.func183 (by kernel_rfl) rfl #[.agg #[.int .i64 ((rd_T166 l0 x5_2).f0), .int .i64 ((rd_T166 l0 x5_2).f1), .int .i64 ((rd_T166 l0 x5_2).f2), .int .i64 ((rd_T166 l0 x5_2).f3.f0), .int .i64 ((rd_T166 l0 x5_2).f3.f1), .int .i64 ((rd_T166 l0 x5_2).f3.f2), .slice A770_6 ((rd_T166 l0 x5_2).f3.f3).length c770_6], .agg #[.int .i64 ((rd_T166 l1 x5_2).f0), .int .i64 ((rd_T166 l1 x5_2).f1), .int .i64 ((rd_T166 l1 x5_2).f2), .int .i64 ((rd_T166 l1 x5_2).f3.f0), .int .i64 ((rd_T166 l1 x5_2).f3.f1), .int .i64 ((rd_T166 l1 x5_2).f3.f2), .slice A771_6 ((rd_T166 l1 x5_2).f3.f3).length c771_6]] (by rfl) rfl rfl (by (try simp only [List.map_toArray, List.map_cons, List.map_nil]); first | done | rfl) ?_
     refine hcall.mono ?_
     rintro e W8 ⟨rfl, hb⟩
     refine ⟨_, rfl, ?_⟩
     clear hcall hm
     replace hHeld := below_step hHeld hb
     replace HB := bH HB hb; clear hb
     refine hK.out _ _ hHeld (fun hHeld => ?_)
     clear hK K
     refine nr 25 ?_
     refine pu 9 (some 26) 1023 ?_
     refine dn (by kernel_rfl) ?_
     clear hHeld HBr
     replace H := H.out
     replace H := ifD H; rcases H with ⟨c9, H⟩ | ⟨c9, H⟩
     ·subst c9
      replace H := Aside0.mk H
      go_wp2
      go_roundg k2
      case measure => have := Hk2.out; omega
      case rel => exact ⟨(wrap64 (x5_2 + 1)), (by first | rfl | (simp; done) | (simp [*]; done)), H, ⟨by have := Hk2.out; omega⟩, HB⟩
     ·replace c9 := (Bool.not_eq_true _).mp c9
      subst c9
      obtain rfl := Option.some.inj H
      clear H
      go_wp2
      go_ret
      exact ⟨rfl, HB.out⟩
    ·have c3_0 := decF c3
     replace c3 := Aside0.mk c3
     first | rw [c3_0] | skip
     obtain rfl := Option.some.inj H
     clear H
     go_wp2
     go_ret
     exact ⟨rfl, HB.out⟩
 ·have c1_x0 : (l0.length == l1.length) = false := by first | simpa using c1 | (simp at c1 ⊢; omega)
  have c1_0 := decF c1; have c1_1 := eqF c1; have c1_2 := neF c1
  clear c1
  first | rw [c1_1] | rw [c1_2] | skip
  obtain rfl := Option.some.inj H
  clear H
  go_wp2
  go_ret
  exact ⟨rfl, HB.out⟩

/-! ### laws_eqPolicy: function 141 -/
def laws_eqPolicy.f (k : Nat) (a0_0 : Int) (l0_1 : List (S166)) (a1_0 : Int) (l1_1 : List (S166)) : Option (Bool) := if a0_0 = a1_0 then ((laws_eqRuleS.f k l0_1 l1_1).bind fun t775 => (if t775 = true then (some true) else (some false))) else (some false)
open Go.Proofs.YtineejdlpcgnkaaGreatM in
set_option maxHeartbeats 8000000 in
set_option maxRecDepth 100000 in
theorem laws_eqPolicy.calls (k : Nat) (a0_0 : Int) (A0_1 : Option Addr) (c0_1 : Nat) (l0_1 : List (S166)) (a1_0 : Int) (A1_1 : Option Addr) (c1_1 : Nat) (l1_1 : List (S166)) (r : Bool) (w : World) (hr0_1 : Kd.C k166 w A0_1 l0_1.length l0_1) (hc0_1 : l0_1.length ≤ c0_1) (hr1_1 : Kd.C k166 w A1_1 l1_1.length l1_1) (hc1_1 : l1_1.length ≤ c1_1) (h : laws_eqPolicy.f k a0_0 l0_1 a1_0 l1_1 = some r) :
  Calls Tryz.prog 141 #[.agg #[.int .i64 a0_0, .slice A0_1 l0_1.length c0_1], .agg #[.int .i64 a1_0, .slice A1_1 l1_1.length c1_1]] w fun e w' => e = .returned (.bool r) ∧ Below w.heap.size w w' := by
 have HR0_1 := Aside0.mk hr0_1
 have HC0_1 := Aside0.mk hc0_1
 clear hr0_1 hc0_1
 have HR1_1 := Aside0.mk hr1_1
 have HC1_1 := Aside0.mk hc1_1
 clear hr1_1 hc1_1
 have HB := Aside0.mk (Below.refl w.heap.size w)
 have H := h
 clear h
 unfold laws_eqPolicy.f at H
 have hu115 := Tryz.underlying115
 go_enter Tryz.func141, Tryz.ntmps141
 replace H := Aside0.mk H
 go_upto_region 1 with (first | ((with_reducible refine gate_dst (N := 2) rfl ?_); refine box_event ?hg (N := 2) ?hd (cs := #[.int .i64 a0_0, .slice A0_1 l0_1.length c0_1]) (t := 115) ?hr ?_; (case hd => rfl); (case hg => rfl); (case hr => first | (go_simp; done) | (go_simp; rfl)); intro gb1 hg W1 hbox hb; replace HB := bH HB hb; clear hb; have BK1 := Aside0.mk hbox; have c_BK1 := blk_cell hbox; have z_BK1 := blk_frozen hbox; clear hg hbox) | ((with_reducible refine gate_dst (N := 3) rfl ?_); refine box_event ?hg (N := 3) ?hd (cs := #[.int .i64 a1_0, .slice A1_1 l1_1.length c1_1]) (t := 115) ?hr ?_; (case hd => rfl); (case hg => rfl); (case hr => first | (go_simp; done) | (go_simp; rfl)); intro gb2 hg W2 hbox hb; replace BK1 := bK BK1 hb; replace c_BK1 := blk_cell BK1.out; replace z_BK1 := blk_frozen BK1.out; replace HB := bH HB hb; clear hb; have BK2 := Aside0.mk hbox; have c_BK2 := blk_cell hbox; have z_BK2 := blk_frozen hbox; clear hg hbox))
 replace H := H.out
 replace H := ifD H; rcases H with ⟨c3, H⟩ | ⟨c3, H⟩
 ·have c3_0 := decT c3; have c3_1 := eqT c3; have c3_2 := neT c3
  clear c3
  first | rw [c3_1] | rw [c3_2] | skip
  replace H := Option.bind_eq_some_iff.mp H
  obtain ⟨t775, hm, H⟩ := H
  try dsimp only at H
  replace H := Aside0.mk H
  have hcall := laws_eqRuleS.calls k _ _ _ _ _ _ _ W2 (Kd.C_below HR0_1.out HB.out) HC0_1.out (Kd.C_below HR1_1.out HB.out) HC1_1.out hm
  clear hm
  go_wp2_with fail
  refine hcall.mono ?_
  rintro e W4 ⟨rfl, hb⟩
  clear hcall
  replace BK1 := bK BK1 hb; replace c_BK1 := blk_cell BK1.out; replace z_BK1 := blk_frozen BK1.out
  replace BK2 := bK BK2 hb; replace c_BK2 := blk_cell BK2.out; replace z_BK2 := blk_frozen BK2.out
  replace HB := bH HB hb; clear hb
  replace H := H.out
  replace H := ifD H; rcases H with ⟨c5, H⟩ | ⟨c5, H⟩
  ·subst c5
   obtain rfl := Option.some.inj H
   clear H
   go_wp2
   go_ret
   exact ⟨rfl, HB.out⟩
  ·replace c5 := (Bool.not_eq_true _).mp c5
   subst c5
   obtain rfl := Option.some.inj H
   clear H
   go_wp2
   go_ret
   exact ⟨rfl, HB.out⟩
 ·have c3_0 := decF c3; have c3_1 := eqF c3; have c3_2 := neF c3
  clear c3
  first | rw [c3_1] | rw [c3_2] | skip
  obtain rfl := Option.some.inj H
  clear H
  go_wp2
  go_ret
  exact ⟨rfl, HB.out⟩

/-! ### laws_eqEpoch: function 94 -/
def laws_eqEpoch.f (k : Nat) (a0_0 : Int) (a0_1 : Int) (l0_2 : List (S161)) (a0_3 : Int) (l0_4 : List (S166)) (a1_0 : Int) (a1_1 : Int) (l1_2 : List (S161)) (a1_3 : Int) (l1_4 : List (S166)) : Option (Bool) := if a0_0 = a1_0 then (if a0_1 = a1_1 then ((laws_eqIncludesS.f k l0_2 l1_2).bind fun t778 => (if t778 = true then ((laws_eqPolicy.f k a0_3 l0_4 a1_3 l1_4).bind fun t779 => (if t779 = true then (some true) else (some false))) else (some false))) else (some false)) else (some false)
open Go.Proofs.YtineejdlpcgnkaaGreatM in
set_option maxHeartbeats 8000000 in
set_option maxRecDepth 100000 in
theorem laws_eqEpoch.calls (k : Nat) (a0_0 : Int) (a0_1 : Int) (A0_2 : Option Addr) (c0_2 : Nat) (l0_2 : List (S161)) (a0_3 : Int) (A0_4 : Option Addr) (c0_4 : Nat) (l0_4 : List (S166)) (a1_0 : Int) (a1_1 : Int) (A1_2 : Option Addr) (c1_2 : Nat) (l1_2 : List (S161)) (a1_3 : Int) (A1_4 : Option Addr) (c1_4 : Nat) (l1_4 : List (S166)) (r : Bool) (w : World) (hr0_2 : Kd.C k161 w A0_2 l0_2.length l0_2) (hc0_2 : l0_2.length ≤ c0_2) (hr0_4 : Kd.C k166 w A0_4 l0_4.length l0_4) (hc0_4 : l0_4.length ≤ c0_4) (hr1_2 : Kd.C k161 w A1_2 l1_2.length l1_2) (hc1_2 : l1_2.length ≤ c1_2) (hr1_4 : Kd.C k166 w A1_4 l1_4.length l1_4) (hc1_4 : l1_4.length ≤ c1_4) (h : laws_eqEpoch.f k a0_0 a0_1 l0_2 a0_3 l0_4 a1_0 a1_1 l1_2 a1_3 l1_4 = some r) :
  Calls Tryz.prog 94 #[.agg #[.int .i64 a0_0, .int .i64 a0_1, .slice A0_2 l0_2.length c0_2, .int .i64 a0_3, .slice A0_4 l0_4.length c0_4], .agg #[.int .i64 a1_0, .int .i64 a1_1, .slice A1_2 l1_2.length c1_2, .int .i64 a1_3, .slice A1_4 l1_4.length c1_4]] w fun e w' => e = .returned (.bool r) ∧ Below w.heap.size w w' := by
 have HR0_2 := Aside0.mk hr0_2
 have HC0_2 := Aside0.mk hc0_2
 clear hr0_2 hc0_2
 have HR0_4 := Aside0.mk hr0_4
 have HC0_4 := Aside0.mk hc0_4
 clear hr0_4 hc0_4
 have HR1_2 := Aside0.mk hr1_2
 have HC1_2 := Aside0.mk hc1_2
 clear hr1_2 hc1_2
 have HR1_4 := Aside0.mk hr1_4
 have HC1_4 := Aside0.mk hc1_4
 clear hr1_4 hc1_4
 have HB := Aside0.mk (Below.refl w.heap.size w)
 have H := h
 clear h
 unfold laws_eqEpoch.f at H
 have hu115 := Tryz.underlying115
 have hu117 := Tryz.underlying117
 go_enter Tryz.func94, Tryz.ntmps94
 replace H := Aside0.mk H
 go_upto_region 1 with (first | ((with_reducible refine gate_dst (N := 2) rfl ?_); refine box_event ?hg (N := 2) ?hd (cs := #[.int .i64 a0_0, .int .i64 a0_1, .slice A0_2 l0_2.length c0_2, .int .i64 a0_3, .slice A0_4 l0_4.length c0_4]) (t := 117) ?hr ?_; (case hd => rfl); (case hg => rfl); (case hr => first | (go_simp; done) | (go_simp; rfl)); intro gb1 hg W1 hbox hb; replace HB := bH HB hb; clear hb; have BK1 := Aside0.mk hbox; have c_BK1 := blk_cell hbox; have z_BK1 := blk_frozen hbox; clear hg hbox) | ((with_reducible refine gate_dst (N := 3) rfl ?_); refine box_event ?hg (N := 3) ?hd (cs := #[.int .i64 a1_0, .int .i64 a1_1, .slice A1_2 l1_2.length c1_2, .int .i64 a1_3, .slice A1_4 l1_4.length c1_4]) (t := 117) ?hr ?_; (case hd => rfl); (case hg => rfl); (case hr => first | (go_simp; done) | (go_simp; rfl)); intro gb2 hg W2 hbox hb; replace BK1 := bK BK1 hb; replace c_BK1 := blk_cell BK1.out; replace z_BK1 := blk_frozen BK1.out; replace HB := bH HB hb; clear hb; have BK2 := Aside0.mk hbox; have c_BK2 := blk_cell hbox; have z_BK2 := blk_frozen hbox; clear hg hbox))
 replace H := H.out
 replace H := ifD H; rcases H with ⟨c3, H⟩ | ⟨c3, H⟩
 ·have c3_0 := decT c3; have c3_1 := eqT c3; have c3_2 := neT c3
  clear c3
  first | rw [c3_1] | rw [c3_2] | skip
  replace H := ifD H; rcases H with ⟨c4, H⟩ | ⟨c4, H⟩
  ·have c4_0 := decT c4; have c4_1 := eqT c4; have c4_2 := neT c4
   clear c4
   first | rw [c4_1] | rw [c4_2] | skip
   replace H := Option.bind_eq_some_iff.mp H
   obtain ⟨t778, hm, H⟩ := H
   try dsimp only at H
   replace H := Aside0.mk H
   have hcall := laws_eqIncludesS.calls k _ _ _ _ _ _ _ W2 (Kd.C_below HR0_2.out HB.out) HC0_2.out (Kd.C_below HR1_2.out HB.out) HC1_2.out hm
   clear hm
   go_wp2_with fail
   refine hcall.mono ?_
   rintro e W5 ⟨rfl, hb⟩
   clear hcall
   replace BK1 := bK BK1 hb; replace c_BK1 := blk_cell BK1.out; replace z_BK1 := blk_frozen BK1.out
   replace BK2 := bK BK2 hb; replace c_BK2 := blk_cell BK2.out; replace z_BK2 := blk_frozen BK2.out
   replace HB := bH HB hb; clear hb
   replace H := H.out
   replace H := ifD H; rcases H with ⟨c6, H⟩ | ⟨c6, H⟩
   ·subst c6
    replace H := Option.bind_eq_some_iff.mp H
    obtain ⟨t779, hm, H⟩ := H
    try dsimp only at H
    replace H := Aside0.mk H
    have hcall := laws_eqPolicy.calls k _ _ _ _ _ _ _ _ _ W5 (Kd.C_below HR0_4.out HB.out) HC0_4.out (Kd.C_below HR1_4.out HB.out) HC1_4.out hm
    clear hm
    go_wp2_with fail
    refine hcall.mono ?_
    rintro e W7 ⟨rfl, hb⟩
    clear hcall
    replace BK1 := bK BK1 hb; replace c_BK1 := blk_cell BK1.out; replace z_BK1 := blk_frozen BK1.out
    replace BK2 := bK BK2 hb; replace c_BK2 := blk_cell BK2.out; replace z_BK2 := blk_frozen BK2.out
    replace HB := bH HB hb; clear hb
    replace H := H.out
    replace H := ifD H; rcases H with ⟨c8, H⟩ | ⟨c8, H⟩
    ·subst c8
     obtain rfl := Option.some.inj H
     clear H
     go_wp2
     go_ret
     exact ⟨rfl, HB.out⟩
    ·replace c8 := (Bool.not_eq_true _).mp c8
     subst c8
     obtain rfl := Option.some.inj H
     clear H
     go_wp2
     go_ret
     exact ⟨rfl, HB.out⟩
   ·replace c6 := (Bool.not_eq_true _).mp c6
    subst c6
    obtain rfl := Option.some.inj H
    clear H
    go_wp2
    go_ret
    exact ⟨rfl, HB.out⟩
  ·have c4_0 := decF c4; have c4_1 := eqF c4; have c4_2 := neF c4
   clear c4
   first | rw [c4_1] | rw [c4_2] | skip
   obtain rfl := Option.some.inj H
   clear H
   go_wp2
   go_ret
   exact ⟨rfl, HB.out⟩
 ·have c3_0 := decF c3; have c3_1 := eqF c3; have c3_2 := neF c3
  clear c3
  first | rw [c3_1] | rw [c3_2] | skip
  obtain rfl := Option.some.inj H
  clear H
  go_wp2
  go_ret
  exact ⟨rfl, HB.out⟩

/-! ### laws_eqEpochS: function 46 -/
def laws_eqEpochS.l0 : Nat → List (S117) → List (S117) → Int → Option (Bool)
 | 0, _, _, _ => none
 | k + 1, x0, x1, x5 => if x5 < (x0.length : Int) then (if 0 ≤ x5 then (if x5 < (x1.length : Int) then ((laws_eqEpoch.f k ((rd_T117 x0 x5).f0) ((rd_T117 x0 x5).f1) ((rd_T117 x0 x5).f2) ((rd_T117 x0 x5).f3.f0) ((rd_T117 x0 x5).f3.f1) ((rd_T117 x1 x5).f0) ((rd_T117 x1 x5).f1) ((rd_T117 x1 x5).f2) ((rd_T117 x1 x5).f3.f0) ((rd_T117 x1 x5).f3.f1)).bind fun t782 => (if t782 = true then (laws_eqEpochS.l0 k x0 x1 (wrap64 (x5 + 1))) else (some false))) else (none)) else (none)) else (some true)
def laws_eqEpochS.f (k : Nat) (l0 : List (S117)) (l1 : List (S117)) : Option (Bool) := if (l0.length : Int) = (l1.length : Int) then (laws_eqEpochS.l0 k l0 l1 0) else (some false)
open Go.Proofs.YtineejdlpcgnkaaGreatM in
set_option maxHeartbeats 8000000 in
set_option maxRecDepth 100000 in
theorem laws_eqEpochS.calls (k : Nat) (A0 : Option Addr) (c0 : Nat) (l0 : List (S117)) (A1 : Option Addr) (c1 : Nat) (l1 : List (S117)) (r : Bool) (w : World) (hr0 : Kd.C k117 w A0 l0.length l0) (hc0 : l0.length ≤ c0) (hr1 : Kd.C k117 w A1 l1.length l1) (hc1 : l1.length ≤ c1) (h : laws_eqEpochS.f k l0 l1 = some r) :
  Calls Tryz.prog 46 #[.slice A0 l0.length c0, .slice A1 l1.length c1] w fun e w' => e = .returned (.bool r) ∧ Below w.heap.size w w' := by
 have HR0 := Aside0.mk hr0
 have HC0 := Aside0.mk hc0
 clear hr0 hc0
 have HR1 := Aside0.mk hr1
 have HC1 := Aside0.mk hc1
 clear hr1 hc1
 have HB := Aside0.mk (Below.refl w.heap.size w)
 have H := h
 clear h
 unfold laws_eqEpochS.f at H
 have hu117 := Tryz.underlying117
 go_enter Tryz.func46, Tryz.ntmps46
 replace H := ifD H; rcases H with ⟨c1, H⟩ | ⟨c1, H⟩
 ·have c1_x0 : (l0.length == l1.length) = true := by first | simpa using c1 | (simp at c1 ⊢; omega)
  have c1_0 := decT c1; have c1_1 := eqT c1; have c1_2 := neT c1
  clear c1
  first | rw [c1_1] | rw [c1_2] | skip
  replace H := Aside0.mk H
  go_wp2
  go_loopg [5] k (fun kq v5 w' => ∃ (x5_2 : Int), v5 = .int .i64 x5_2 ∧ Aside0 (laws_eqEpochS.l0 kq l0 l1 x5_2 = some r) ∧ Aside0 (kq ≤ k) ∧ Aside0 (Below w.heap.size w w'))
  case atStart => exact ⟨(0), (by first | rfl | (simp; done) | (simp [*]; done)), H, ⟨Nat.le_refl _⟩, HB⟩
  case round =>
   clear H HB 
   try clear c1_x0 c1_0 c1_1 c1_2
   obtain ⟨x5_2, rfl, HA, Hk2, HB⟩ := hrel
   cases gk with
   | zero => exact absurd HA.out (by simp [laws_eqEpochS.l0])
   | succ k2 =>
    have H := HA.out
    clear HA
    simp only [laws_eqEpochS.l0] at H
    replace H := ifD H; rcases H with ⟨c3, H⟩ | ⟨c3, H⟩
    ·have c3_0 := decT c3
     replace c3 := Aside0.mk c3
     first | rw [c3_0] | skip
     replace H := Aside0.mk H
     try go_wp2
     have HBr := HB; replace HB := dH HB
     refine stA (n := 10) (S := fun w' => Below wr.heap.size wr w') (by kernel_rfl) rfl (below_drew1 (Below.refl _ wr)) (by kernel_rfl) (fun hHeld => ?_)
     generalize wr.drew = W4 at HB hHeld ⊢
     refine pu 0 (some 17) 1 ?_; refine pu 1 (some 18) 3 ?_
     replace H := H.out
     replace H := ifN H; obtain ⟨c5, H⟩ := H
     have c5_0 := decT c5
     replace c5 := Aside0.mk c5
     first | rw [c5_0] | skip
     have p780 : 0 ≤ (x5_2 : Int) := (of_decide_eq_true (by assumption))
     have q780 : x5_2 < (l0.length : Int) := (of_decide_eq_true (by assumption))
     obtain ⟨ad780, A780_2, c780_2, A780_4, c780_4, e780, hx780_0, hx780_1, hx780_2, hx780_3, hx780_4, hl780_2, hi780_2, hl780_4, hi780_4⟩ := at_T117 HR0.out x5_2 p780 q780
     cases e780
     have HR780_2 := Aside0.mk hi780_2; have HC780_2 := Aside0.mk hl780_2; clear hi780_2 hl780_2
     have HR780_4 := Aside0.mk hi780_4; have HC780_4 := Aside0.mk hl780_4; clear hi780_4 hl780_4
     replace hx780_0 := Aside0.mk hx780_0
     replace hx780_1 := Aside0.mk hx780_1
     replace hx780_2 := Aside0.mk hx780_2
     replace hx780_3 := Aside0.mk hx780_3
     replace hx780_4 := Aside0.mk hx780_4
     have r780 := eq_true p780; have s780 := eq_true q780
     replace p780 := Aside0.mk p780; replace q780 := Aside0.mk q780
     replace H := Aside0.mk H
     refine pu 2 (some 19) 7 ?_; refine pu 4 (some 21) 23 ?_; refine pu 5 (some 22) 55 ?_; refine ld 3 (some 20) 63 hHeld ?_ (hr := by (intro w' h_; have y0_ := xD HBr h_ hx780_0; have y1_ := xD HBr h_ hx780_1; have y2_ := xD HBr h_ hx780_2; have y3_ := xD HBr h_ hx780_3; have y4_ := xD HBr h_ hx780_4; go_simp; with_reducible rfl))
     replace H := H.out
     replace H := ifN H; obtain ⟨c6, H⟩ := H
     have c6_0 := decT c6
     replace c6 := Aside0.mk c6
     first | rw [c6_0] | skip
     have p781 : 0 ≤ (x5_2 : Int) := (of_decide_eq_true (by assumption))
     have q781 : x5_2 < (l1.length : Int) := (of_decide_eq_true (by assumption))
     obtain ⟨ad781, A781_2, c781_2, A781_4, c781_4, e781, hx781_0, hx781_1, hx781_2, hx781_3, hx781_4, hl781_2, hi781_2, hl781_4, hi781_4⟩ := at_T117 HR1.out x5_2 p781 q781
     cases e781
     have HR781_2 := Aside0.mk hi781_2; have HC781_2 := Aside0.mk hl781_2; clear hi781_2 hl781_2
     have HR781_4 := Aside0.mk hi781_4; have HC781_4 := Aside0.mk hl781_4; clear hi781_4 hl781_4
     replace hx781_0 := Aside0.mk hx781_0
     replace hx781_1 := Aside0.mk hx781_1
     replace hx781_2 := Aside0.mk hx781_2
     replace hx781_3 := Aside0.mk hx781_3
     replace hx781_4 := Aside0.mk hx781_4
     have r781 := eq_true p781; have s781 := eq_true q781
     replace p781 := Aside0.mk p781; replace q781 := Aside0.mk q781
     replace H := Option.bind_eq_some_iff.mp H
     obtain ⟨t782, hm, H⟩ := H
     try dsimp only at H
     replace hm := Aside0.mk hm
     replace H := Aside0.mk H
     refine pu 6 (some 23) 127 ?_; refine ld 7 (some 24) 255 hHeld ?_ (hr := by (intro w' h_; have y0_ := xD HBr h_ hx781_0; have y1_ := xD HBr h_ hx781_1; have y2_ := xD HBr h_ hx781_2; have y3_ := xD HBr h_ hx781_3; have y4_ := xD HBr h_ hx781_4; go_simp; with_reducible rfl))
     refine on 8 (some 25) 511 (fun K hK => ?_)
     have hcall := laws_eqEpoch.calls k2 _ _ _ _ _ _ _ _ _ _ _ _ _ _ _ _ _ _ _ W4 (Kd.C_below HR780_2.out HB.out) HC780_2.out (Kd.C_below HR780_4.out HB.out) HC780_4.out (Kd.C_below HR781_2.out HB.out) HC781_2.out (Kd.C_below HR781_4.out HB.out) HC781_4.out hm.out
     refine goes_ Tryz.func94 (by kernel_rfl) rfl #[.agg #[.int .i64 ((rd_T117 l0 x5_2).f0), .int .i64 ((rd_T117 l0 x5_2).f1), .slice A780_2 ((rd_T117 l0 x5_2).f2).length c780_2, .int .i64 ((rd_T117 l0 x5_2).f3.f0), .slice A780_4 ((rd_T117 l0 x5_2).f3.f1).length c780_4], .agg #[.int .i64 ((rd_T117 l1 x5_2).f0), .int .i64 ((rd_T117 l1 x5_2).f1), .slice A781_2 ((rd_T117 l1 x5_2).f2).length c781_2, .int .i64 ((rd_T117 l1 x5_2).f3.f0), .slice A781_4 ((rd_T117 l1 x5_2).f3.f1).length c781_4]] (by rfl) rfl rfl (by (try simp only [List.map_toArray, List.map_cons, List.map_nil]); first | done | rfl) ?_
     refine hcall.mono ?_
     rintro e W8 ⟨rfl, hb⟩
     refine ⟨_, rfl, ?_⟩
     clear hcall hm
     replace hHeld := below_step hHeld hb
     replace HB := bH HB hb; clear hb
     refine hK.out _ _ hHeld (fun hHeld => ?_)
     clear hK K
     refine nr 25 ?_
     refine pu 9 (some 26) 1023 ?_
     refine dn (by kernel_rfl) ?_
     clear hHeld HBr
     replace H := H.out
     replace H := ifD H; rcases H with ⟨c9, H⟩ | ⟨c9, H⟩
     ·subst c9
      replace H := Aside0.mk H
      go_wp2
      go_roundg k2
      case measure => have := Hk2.out; omega
      case rel => exact ⟨(wrap64 (x5_2 + 1)), (by first | rfl | (simp; done) | (simp [*]; done)), H, ⟨by have := Hk2.out; omega⟩, HB⟩
     ·replace c9 := (Bool.not_eq_true _).mp c9
      subst c9
      obtain rfl := Option.some.inj H
      clear H
      go_wp2
      go_ret
      exact ⟨rfl, HB.out⟩
    ·have c3_0 := decF c3
     replace c3 := Aside0.mk c3
     first | rw [c3_0] | skip
     obtain rfl := Option.some.inj H
     clear H
     go_wp2
     go_ret
     exact ⟨rfl, HB.out⟩
 ·have c1_x0 : (l0.length == l1.length) = false := by first | simpa using c1 | (simp at c1 ⊢; omega)
  have c1_0 := decF c1; have c1_1 := eqF c1; have c1_2 := neF c1
  clear c1
  first | rw [c1_1] | rw [c1_2] | skip
  obtain rfl := Option.some.inj H
  clear H
  go_wp2
  go_ret
  exact ⟨rfl, HB.out⟩

/-! ### laws_eqFact: function 95 -/
def laws_eqFact.f (a0_0 : Int) (a0_1 : Int) (a0_2 : Int) (a0_3 : Int) (a0_4 : Int) (a0_5 : Int) (a1_0 : Int) (a1_1 : Int) (a1_2 : Int) (a1_3 : Int) (a1_4 : Int) (a1_5 : Int) : Option (Bool) := if a0_0 = a1_0 then (if a0_1 = a1_1 then (if a0_2 = a1_2 then (if a0_3 = a1_3 then (if a0_4 = a1_4 then (if a0_5 = a1_5 then (some true) else (some false)) else (some false)) else (some false)) else (some false)) else (some false)) else (some false)
open Go.Proofs.YtineejdlpcgnkaaGreatM in
set_option maxHeartbeats 8000000 in
set_option maxRecDepth 100000 in
theorem laws_eqFact.calls (a0_0 : Int) (a0_1 : Int) (a0_2 : Int) (a0_3 : Int) (a0_4 : Int) (a0_5 : Int) (a1_0 : Int) (a1_1 : Int) (a1_2 : Int) (a1_3 : Int) (a1_4 : Int) (a1_5 : Int) (r : Bool) (w : World) (h : laws_eqFact.f a0_0 a0_1 a0_2 a0_3 a0_4 a0_5 a1_0 a1_1 a1_2 a1_3 a1_4 a1_5 = some r) :
  Calls Tryz.prog 95 #[.agg #[.int .i64 a0_0, .int .i64 a0_1, .int .i64 a0_2, .int .i64 a0_3, .int .i64 a0_4, .int .i64 a0_5], .agg #[.int .i64 a1_0, .int .i64 a1_1, .int .i64 a1_2, .int .i64 a1_3, .int .i64 a1_4, .int .i64 a1_5]] w fun e w' => e = .returned (.bool r) ∧ Below w.heap.size w w' := by
 have HB := Aside0.mk (Below.refl w.heap.size w)
 have H := h
 clear h
 unfold laws_eqFact.f at H
 have hu53 := Tryz.underlying53
 go_enter Tryz.func95, Tryz.ntmps95
 replace H := Aside0.mk H
 go_upto_region 1 with (first | ((with_reducible refine gate_dst (N := 2) rfl ?_); refine box_event ?hg (N := 2) ?hd (cs := #[.int .i64 a0_0, .int .i64 a0_1, .int .i64 a0_2, .int .i64 a0_3, .int .i64 a0_4, .int .i64 a0_5]) (t := 53) ?hr ?_; (case hd => rfl); (case hg => rfl); (case hr => first | (go_simp; done) | (go_simp; rfl)); intro gb1 hg W1 hbox hb; replace HB := bH HB hb; clear hb; have BK1 := Aside0.mk hbox; have c_BK1 := blk_cell hbox; have z_BK1 := blk_frozen hbox; clear hg hbox) | ((with_reducible refine gate_dst (N := 3) rfl ?_); refine box_event ?hg (N := 3) ?hd (cs := #[.int .i64 a1_0, .int .i64 a1_1, .int .i64 a1_2, .int .i64 a1_3, .int .i64 a1_4, .int .i64 a1_5]) (t := 53) ?hr ?_; (case hd => rfl); (case hg => rfl); (case hr => first | (go_simp; done) | (go_simp; rfl)); intro gb2 hg W2 hbox hb; replace BK1 := bK BK1 hb; replace c_BK1 := blk_cell BK1.out; replace z_BK1 := blk_frozen BK1.out; replace HB := bH HB hb; clear hb; have BK2 := Aside0.mk hbox; have c_BK2 := blk_cell hbox; have z_BK2 := blk_frozen hbox; clear hg hbox))
 replace H := H.out
 replace H := ifD H; rcases H with ⟨c3, H⟩ | ⟨c3, H⟩
 ·have c3_0 := decT c3; have c3_1 := eqT c3; have c3_2 := neT c3
  clear c3
  first | rw [c3_1] | rw [c3_2] | skip
  replace H := ifD H; rcases H with ⟨c4, H⟩ | ⟨c4, H⟩
  ·have c4_0 := decT c4; have c4_1 := eqT c4; have c4_2 := neT c4
   clear c4
   first | rw [c4_1] | rw [c4_2] | skip
   replace H := ifD H; rcases H with ⟨c5, H⟩ | ⟨c5, H⟩
   ·have c5_0 := decT c5; have c5_1 := eqT c5; have c5_2 := neT c5
    clear c5
    first | rw [c5_1] | rw [c5_2] | skip
    replace H := ifD H; rcases H with ⟨c6, H⟩ | ⟨c6, H⟩
    ·have c6_0 := decT c6; have c6_1 := eqT c6; have c6_2 := neT c6
     clear c6
     first | rw [c6_1] | rw [c6_2] | skip
     replace H := ifD H; rcases H with ⟨c7, H⟩ | ⟨c7, H⟩
     ·have c7_0 := decT c7; have c7_1 := eqT c7; have c7_2 := neT c7
      clear c7
      first | rw [c7_1] | rw [c7_2] | skip
      replace H := ifD H; rcases H with ⟨c8, H⟩ | ⟨c8, H⟩
      ·have c8_0 := decT c8; have c8_1 := eqT c8; have c8_2 := neT c8
       clear c8
       first | rw [c8_1] | rw [c8_2] | skip
       obtain rfl := Option.some.inj H
       clear H
       go_wp2
       go_ret
       exact ⟨rfl, HB.out⟩
      ·have c8_0 := decF c8; have c8_1 := eqF c8; have c8_2 := neF c8
       clear c8
       first | rw [c8_1] | rw [c8_2] | skip
       obtain rfl := Option.some.inj H
       clear H
       go_wp2
       go_ret
       exact ⟨rfl, HB.out⟩
     ·have c7_0 := decF c7; have c7_1 := eqF c7; have c7_2 := neF c7
      clear c7
      first | rw [c7_1] | rw [c7_2] | skip
      obtain rfl := Option.some.inj H
      clear H
      go_wp2
      go_ret
      exact ⟨rfl, HB.out⟩
    ·have c6_0 := decF c6; have c6_1 := eqF c6; have c6_2 := neF c6
     clear c6
     first | rw [c6_1] | rw [c6_2] | skip
     obtain rfl := Option.some.inj H
     clear H
     go_wp2
     go_ret
     exact ⟨rfl, HB.out⟩
   ·have c5_0 := decF c5; have c5_1 := eqF c5; have c5_2 := neF c5
    clear c5
    first | rw [c5_1] | rw [c5_2] | skip
    obtain rfl := Option.some.inj H
    clear H
    go_wp2
    go_ret
    exact ⟨rfl, HB.out⟩
  ·have c4_0 := decF c4; have c4_1 := eqF c4; have c4_2 := neF c4
   clear c4
   first | rw [c4_1] | rw [c4_2] | skip
   obtain rfl := Option.some.inj H
   clear H
   go_wp2
   go_ret
   exact ⟨rfl, HB.out⟩
 ·have c3_0 := decF c3; have c3_1 := eqF c3; have c3_2 := neF c3
  clear c3
  first | rw [c3_1] | rw [c3_2] | skip
  obtain rfl := Option.some.inj H
  clear H
  go_wp2
  go_ret
  exact ⟨rfl, HB.out⟩

end Go.Proofs.YtineejdlpcgnkaaGreat.QFnExactIsCenter
