/- The machine side of FnExactIsCenter: what each function that it reaches computes, and that the machine's call gives just that. -/
import Derived.Test.YtineejdlpcgnkaaGreatQFnExactIsCenterx0
import Derived.Test.YtineejdlpcgnkaaGreatQFnExactIsCenterx9
namespace Go.Proofs.YtineejdlpcgnkaaGreat.QFnExactIsCenter
open Go.RowKit Go.Proofs.YtineejdlpcgnkaaGreatW.PrintWords Go.Proofs.YtineejdlpcgnkaaGreatW.PrintLast Go.Proofs.YtineejdlpcgnkaaGreatW.PrintMore
attribute [local go_sem] max2_int min2_int max_two min_two max_three min_three max_four min_four   -- for this text's walks alone
set_option linter.unusedVariables false
set_option linter.unusedSimpArgs false

/-! ### impl_isAscending: function 134 -/
def impl_isAscending.l0 : Nat → List Int → Int → Int → List Int → Int → Int → Option (Bool)
 | 0, _, _, _, _, _, _ => none
 | k + 1, x0, x1, x2, x9, x10, x11 => if x11 < x10 then (if 0 ≤ x11 then (if x11 < (x9.length : Int) then ((impl_InRange.f (rd x9 x11) x1 x2).bind fun t627 => (if t627 = true then (if x11 > 0 then (if 0 ≤ (wrap64 (x11 - 1)) then (if (wrap64 (x11 - 1)) < (x0.length : Int) then (if (rd x0 (wrap64 (x11 - 1))) ≥ (rd x9 x11) then (some false) else (impl_isAscending.l0 k x0 x1 x2 x9 x10 (wrap64 (x11 + 1)))) else (none)) else (none)) else (impl_isAscending.l0 k x0 x1 x2 x9 x10 (wrap64 (x11 + 1)))) else (some false))) else (none)) else (none)) else (some true)
def impl_isAscending.f (k : Nat) (l0 : List Int) (a1 : Int) (a2 : Int) : Option (Bool) := impl_isAscending.l0 k l0 a1 a2 l0 (l0.length : Int) 0
open Go.Proofs.YtineejdlpcgnkaaGreatM in
set_option maxHeartbeats 8000000 in
set_option maxRecDepth 100000 in
theorem impl_isAscending.calls (k : Nat) (A0 : Option Addr) (c0 : Nat) (l0 : List Int) (a1 : Int) (a2 : Int) (r : Bool) (w : World) (hr0 : Kd.C (Kd.int .i64) w A0 l0.length l0) (hc0 : l0.length ≤ c0) (h : impl_isAscending.f k l0 a1 a2 = some r) :
  Calls Tryz.prog 134 #[.slice A0 l0.length c0, .int .i64 a1, .int .i64 a2] w fun e w' => e = .returned (.bool r) ∧ Below w.heap.size w w' := by
 have HR0 := Aside0.mk hr0
 have HC0 := Aside0.mk hc0
 clear hr0 hc0
 have HB := Aside0.mk (Below.refl w.heap.size w)
 have H := h
 clear h
 unfold impl_isAscending.f at H
 go_enter Tryz.func134, Tryz.ntmps134
 replace H := Aside0.mk H
 go_wp2
 go_loopg [11] k (fun kq v11 w' => ∃ (x11_1 : Int), v11 = .int .i64 x11_1 ∧ Aside0 (impl_isAscending.l0 kq l0 a1 a2 l0 (l0.length : Int) x11_1 = some r) ∧ Aside0 (kq ≤ k) ∧ Aside0 (Below w.heap.size w w'))
 case atStart => exact ⟨(0), (by first | rfl | (simp; done) | (simp [*]; done)), H, ⟨Nat.le_refl _⟩, HB⟩
 case round =>
  clear H HB 
  obtain ⟨x11_1, rfl, HA, Hk1, HB⟩ := hrel
  cases gk with
  | zero => exact absurd HA.out (by simp [impl_isAscending.l0])
  | succ k1 =>
   have H := HA.out
   clear HA
   simp only [impl_isAscending.l0] at H
   replace H := ifD H; rcases H with ⟨c2, H⟩ | ⟨c2, H⟩
   ·have c2_0 := decT c2
    replace c2 := Aside0.mk c2
    first | rw [c2_0] | skip
    replace H := ifN H; obtain ⟨c3, H⟩ := H
    have c3_0 := decT c3
    replace c3 := Aside0.mk c3
    first | rw [c3_0] | skip
    replace H := ifN H; obtain ⟨c4, H⟩ := H
    have c4_0 := decT c4
    replace c4 := Aside0.mk c4
    first | rw [c4_0] | skip
    have p626 : 0 ≤ (x11_1 : Int) := (of_decide_eq_true (by assumption))
    have q626 : x11_1 < (l0.length : Int) := (of_decide_eq_true (by assumption))
    obtain ⟨ad626, e626, hx626_0⟩ := Kd.at_int HR0.out x11_1 p626 q626
    cases e626
    replace hx626_0 := Aside0.mk hx626_0
    have y626_0 := xC HB hx626_0
    have r626 := eq_true p626; have s626 := eq_true q626
    replace p626 := Aside0.mk p626; replace q626 := Aside0.mk q626
    replace H := Option.bind_eq_some_iff.mp H
    obtain ⟨t627, hm, H⟩ := H
    try dsimp only at H
    replace H := Aside0.mk H
    have hcall := impl_InRange.calls _ _ _ _ wr  hm
    clear hm
    go_wp2_with fail
    refine hcall.mono ?_
    rintro e W5 ⟨rfl, hb⟩
    clear hcall
    try clear y626_0
    replace HB := bH HB hb; clear hb
    replace H := H.out
    replace H := ifD H; rcases H with ⟨c6, H⟩ | ⟨c6, H⟩
    ·subst c6
     replace H := ifD H; rcases H with ⟨c7, H⟩ | ⟨c7, H⟩
     ·replace c7 : 0 < x11_1 := c7
      have c7_0 := decT c7
      replace c7 := Aside0.mk c7
      first | rw [c7_0] | skip
      replace H := ifN H; obtain ⟨c8, H⟩ := H
      have c8_0 := decT c8
      replace c8 := Aside0.mk c8
      first | rw [c8_0] | skip
      replace H := ifN H; obtain ⟨c9, H⟩ := H
      have c9_0 := decT c9
      replace c9 := Aside0.mk c9
      first | rw [c9_0] | skip
      have p628 : 0 ≤ ((wrap64 (x11_1 - 1)) : Int) := (of_decide_eq_true (by assumption))
      have q628 : (wrap64 (x11_1 - 1)) < (l0.length : Int) := (of_decide_eq_true (by assumption))
      obtain ⟨ad628, e628, hx628_0⟩ := Kd.at_int HR0.out (wrap64 (x11_1 - 1)) p628 q628
      obtain rfl : ad626 = ad628 := by injection e628
      replace hx628_0 := Aside0.mk hx628_0
      have y628_0 := xC HB hx628_0
      have r628 := eq_true p628; have s628 := eq_true q628
      replace p628 := Aside0.mk p628; replace q628 := Aside0.mk q628
      replace H := ifD H; rcases H with ⟨c10, H⟩ | ⟨c10, H⟩
      ·replace c10 : (rd l0 x11_1) ≤ (rd l0 (wrap64 (x11_1 - 1))) := c10
       have c10_0 := decT c10
       replace c10 := Aside0.mk c10
       first | rw [c10_0] | skip
       obtain rfl := Option.some.inj H
       clear H
       go_wp2
       go_ret
       exact ⟨rfl, HB.out⟩
      ·replace c10 : ¬ ((rd l0 x11_1) ≤ (rd l0 (wrap64 (x11_1 - 1)))) := c10
       have c10_0 := decF c10
       replace c10 := Aside0.mk c10
       first | rw [c10_0] | skip
       replace H := Aside0.mk H
       go_wp2
       go_roundg k1
       case measure => have := Hk1.out; omega
       case rel => exact ⟨(wrap64 (x11_1 + 1)), (by first | rfl | (simp; done) | (simp [*]; done)), H, ⟨by have := Hk1.out; omega⟩, HB⟩
     ·replace c7 : ¬ (0 < x11_1) := c7
      have c7_0 := decF c7
      replace c7 := Aside0.mk c7
      first | rw [c7_0] | skip
      replace H := Aside0.mk H
      go_wp2
      go_roundg k1
      case measure => have := Hk1.out; omega
      case rel => exact ⟨(wrap64 (x11_1 + 1)), (by first | rfl | (simp; done) | (simp [*]; done)), H, ⟨by have := Hk1.out; omega⟩, HB⟩
    ·replace c6 := (Bool.not_eq_true _).mp c6
     subst c6
     obtain rfl := Option.some.inj H
     clear H
     go_wp2
     go_ret
     exact ⟨rfl, HB.out⟩
   ·have c2_0 := decF c2
    replace c2 := Aside0.mk c2
    first | rw [c2_0] | skip
    obtain rfl := Option.some.inj H
    clear H
    go_wp2
    go_ret
    exact ⟨rfl, HB.out⟩

/-! ### impl_IsIssuer: function 89 -/
def impl_IsIssuer.f (k : Nat) (a0_0 : Int) (l0_1 : List Int) (a0_2 : Int) : Option (Bool) := (impl_InRange.f a0_0 0 9).bind fun t630 => (if t630 = true then ((impl_isAscending.f k l0_1 1 4).bind fun t631 => (if t631 = true then ((impl_IsValidKey.f a0_2).bind fun t632 => (some t632)) else (some false))) else (some false))
open Go.Proofs.YtineejdlpcgnkaaGreatM in
set_option maxHeartbeats 8000000 in
set_option maxRecDepth 100000 in
theorem impl_IsIssuer.calls (k : Nat) (a0_0 : Int) (A0_1 : Option Addr) (c0_1 : Nat) (l0_1 : List Int) (a0_2 : Int) (r : Bool) (w : World) (hr0_1 : Kd.C (Kd.int .i64) w A0_1 l0_1.length l0_1) (hc0_1 : l0_1.length ≤ c0_1) (h : impl_IsIssuer.f k a0_0 l0_1 a0_2 = some r) :
  Calls Tryz.prog 89 #[.agg #[.int .i64 a0_0, .slice A0_1 l0_1.length c0_1, .int .i64 a0_2]] w fun e w' => e = .returned (.bool r) ∧ Below w.heap.size w w' := by
 have HR0_1 := Aside0.mk hr0_1
 have HC0_1 := Aside0.mk hc0_1
 clear hr0_1 hc0_1
 have HB := Aside0.mk (Below.refl w.heap.size w)
 have H := h
 clear h
 unfold impl_IsIssuer.f at H
 have hu110 := Tryz.underlying110
 go_enter Tryz.func89, Tryz.ntmps89
 replace H := Aside0.mk H
 go_upto_region 1 with (first | ((with_reducible refine gate_dst (N := 1) rfl ?_); refine box_event ?hg (N := 1) ?hd (cs := #[.int .i64 a0_0, .slice A0_1 l0_1.length c0_1, .int .i64 a0_2]) (t := 110) ?hr ?_; (case hd => rfl); (case hg => rfl); (case hr => first | (go_simp; done) | (go_simp; rfl)); intro gb1 hg W1 hbox hb; replace HB := bH HB hb; clear hb; have BK1 := Aside0.mk hbox; have c_BK1 := blk_cell hbox; have z_BK1 := blk_frozen hbox; clear hg hbox))
 replace H := H.out
 replace H := Option.bind_eq_some_iff.mp H
 obtain ⟨t630, hm, H⟩ := H
 try dsimp only at H
 replace H := Aside0.mk H
 have hcall := impl_InRange.calls _ _ _ _ W1  hm
 clear hm
 go_wp2_with fail
 refine hcall.mono ?_
 rintro e W2 ⟨rfl, hb⟩
 clear hcall
 replace BK1 := bK BK1 hb; replace c_BK1 := blk_cell BK1.out; replace z_BK1 := blk_frozen BK1.out
 replace HB := bH HB hb; clear hb
 replace H := H.out
 replace H := ifD H; rcases H with ⟨c3, H⟩ | ⟨c3, H⟩
 ·subst c3
  replace H := Option.bind_eq_some_iff.mp H
  obtain ⟨t631, hm, H⟩ := H
  try dsimp only at H
  replace H := Aside0.mk H
  have hcall := impl_isAscending.calls k _ _ _ _ _ _ W2 (Kd.C_below HR0_1.out HB.out) HC0_1.out hm
  clear hm
  go_wp2_with fail
  refine hcall.mono ?_
  rintro e W4 ⟨rfl, hb⟩
  clear hcall
  replace BK1 := bK BK1 hb; replace c_BK1 := blk_cell BK1.out; replace z_BK1 := blk_frozen BK1.out
  replace HB := bH HB hb; clear hb
  replace H := H.out
  replace H := ifD H; rcases H with ⟨c5, H⟩ | ⟨c5, H⟩
  ·subst c5
   replace H := Option.bind_eq_some_iff.mp H
   obtain ⟨t632, hm, H⟩ := H
   try dsimp only at H
   replace H := Aside0.mk H
   have hcall := impl_IsValidKey.calls _ _ W4  hm
   clear hm
   go_wp2_with fail
   refine hcall.mono ?_
   rintro e W6 ⟨rfl, hb⟩
   clear hcall
   replace BK1 := bK BK1 hb; replace c_BK1 := blk_cell BK1.out; replace z_BK1 := blk_frozen BK1.out
   replace HB := bH HB hb; clear hb
   replace H := H.out
   obtain rfl := Option.some.inj H
   clear H
   go_wp2
   go_ret
   exact ⟨rfl, HB.out⟩
  ·replace c5 := (Bool.not_eq_true _).mp c5
   subst c5
   obtain rfl := Option.some.inj H
   clear H
   go_wp2
   go_ret
   exact ⟨rfl, HB.out⟩
 ·replace c3 := (Bool.not_eq_true _).mp c3
  subst c3
  obtain rfl := Option.some.inj H
  clear H
  go_wp2
  go_ret
  exact ⟨rfl, HB.out⟩

/-! ### impl_AreIssuers: function 40 -/
def impl_AreIssuers.l0 : Nat → List (S110) → List (S110) → Int → Int → Option (Bool)
 | 0, _, _, _, _ => none
 | k + 1, x0, x5, x6, x7 => if x7 < x6 then (if 0 ≤ x7 then (if x7 < (x5.length : Int) then ((impl_IsIssuer.f k ((rd_T110 x5 x7).f0) ((rd_T110 x5 x7).f1) ((rd_T110 x5 x7).f2)).bind fun t635 => (if t635 = true then (if x7 > 0 then (if 0 ≤ (wrap64 (x7 - 1)) then (if (wrap64 (x7 - 1)) < (x0.length : Int) then (if ((rd_T110 x0 (wrap64 (x7 - 1))).f0) ≥ ((rd_T110 x5 x7).f0) then (some false) else (impl_AreIssuers.l0 k x0 x5 x6 (wrap64 (x7 + 1)))) else (none)) else (none)) else (impl_AreIssuers.l0 k x0 x5 x6 (wrap64 (x7 + 1)))) else (some false))) else (none)) else (none)) else (some (decide ((x0.length : Int) ≤ 4)))
def impl_AreIssuers.f (k : Nat) (l0 : List (S110)) : Option (Bool) := impl_AreIssuers.l0 k l0 l0 (l0.length : Int) 0
open Go.Proofs.YtineejdlpcgnkaaGreatM in
set_option maxHeartbeats 8000000 in
set_option maxRecDepth 100000 in
theorem impl_AreIssuers.calls (k : Nat) (A0 : Option Addr) (c0 : Nat) (l0 : List (S110)) (r : Bool) (w : World) (hr0 : Kd.C k110 w A0 l0.length l0) (hc0 : l0.length ≤ c0) (h : impl_AreIssuers.f k l0 = some r) :
  Calls Tryz.prog 40 #[.slice A0 l0.length c0] w fun e w' => e = .returned (.bool r) ∧ Below w.heap.size w w' := by
 have HR0 := Aside0.mk hr0
 have HC0 := Aside0.mk hc0
 clear hr0 hc0
 have HB := Aside0.mk (Below.refl w.heap.size w)
 have H := h
 clear h
 unfold impl_AreIssuers.f at H
 have hu110 := Tryz.underlying110
 go_enter Tryz.func40, Tryz.ntmps40
 replace H := Aside0.mk H
 go_wp2
 go_loopg [7] k (fun kq v7 w' => ∃ (x7_1 : Int), v7 = .int .i64 x7_1 ∧ Aside0 (impl_AreIssuers.l0 kq l0 l0 (l0.length : Int) x7_1 = some r) ∧ Aside0 (kq ≤ k) ∧ Aside0 (Below w.heap.size w w'))
 case atStart => exact ⟨(0), (by first | rfl | (simp; done) | (simp [*]; done)), H, ⟨Nat.le_refl _⟩, HB⟩
 case round =>
  clear H HB 
  obtain ⟨x7_1, rfl, HA, Hk1, HB⟩ := hrel
  cases gk with
  | zero => exact absurd HA.out (by simp [impl_AreIssuers.l0])
  | succ k1 =>
   have H := HA.out
   clear HA
   simp only [impl_AreIssuers.l0] at H
   replace H := ifD H; rcases H with ⟨c2, H⟩ | ⟨c2, H⟩
   ·have c2_0 := decT c2
    replace c2 := Aside0.mk c2
    first | rw [c2_0] | skip
    replace H := ifN H; obtain ⟨c3, H⟩ := H
    have c3_0 := decT c3
    replace c3 := Aside0.mk c3
    first | rw [c3_0] | skip
    replace H := ifN H; obtain ⟨c4, H⟩ := H
    have c4_0 := decT c4
    replace c4 := Aside0.mk c4
    first | rw [c4_0] | skip
    have p633 : 0 ≤ (x7_1 : Int) := (of_decide_eq_true (by assumption))
    have q633 : x7_1 < (l0.length : Int) := (of_decide_eq_true (by assumption))
    obtain ⟨ad633, A633_1, c633_1, e633, hx633_0, hx633_1, hx633_2, hl633_1, hi633_1⟩ := at_T110 HR0.out x7_1 p633 q633
    cases e633
    have HR633_1 := Aside0.mk hi633_1; have HC633_1 := Aside0.mk hl633_1; clear hi633_1 hl633_1
    replace hx633_0 := Aside0.mk hx633_0
    have y633_0 := xC HB hx633_0
    replace hx633_1 := Aside0.mk hx633_1
    have y633_1 := xC HB hx633_1
    replace hx633_2 := Aside0.mk hx633_2
    have y633_2 := xC HB hx633_2
    have r633 := eq_true p633; have s633 := eq_true q633
    replace p633 := Aside0.mk p633; replace q633 := Aside0.mk q633
    replace H := Aside0.mk H
    go_upto_region 4 with (first | ((with_reducible refine gate_dst (N := 4) rfl ?_); refine box_event ?hg (N := 4) ?hd (cs := #[.int .i64 0, .slice none 0 0, .int .i64 0]) (t := 110) ?hr ?_; (case hd => rfl); (case hg => rfl); (case hr => first | (go_simp; done) | (go_simp; rfl)); intro gb5 hg W5 hbox hb; have G5 := Aside0.mk hg; have b0_ := Aside0.mk hb; have BK5 := Aside0.mk hbox; have c_BK5 := blk_cell hbox; have z_BK5 := blk_frozen hbox; clear hg hb hbox) | ((with_reducible refine gate_store (t := 110) (p := 4) rfl ?_); refine store_event (t := 110) (p := 4) (v := ?vo_s6) (w1 := (((W5.setCell ⟨gb5, 0, none⟩ (.int .i64 ((rd_T110 l0 x7_1).f0))).setCell ⟨gb5, 1, none⟩ (.slice A633_1 ((rd_T110 l0 x7_1).f1).length c633_1)).setCell ⟨gb5, 2, none⟩ (.int .i64 ((rd_T110 l0 x7_1).f2)))) ?hg ?ho ?hn ?hr ?_; (case ho => rfl); (case hg => rfl); (case hn => rfl); (case hr => first | (go_simp; done) | (go_simp; rfl)); intro W6 hw; have hb : Below wr.heap.size wr W6 := (by rw [hw]; exact bSet (bSet (bSet (b0_.out) (Nat.le_of_eq G5.out.symm)) (Nat.le_of_eq G5.out.symm)) (Nat.le_of_eq G5.out.symm)); clear b0_; have h_ := blk_set (blk_set (blk_set (BK5.out) 0 (.int .i64 ((rd_T110 l0 x7_1).f0))) 1 (.slice A633_1 ((rd_T110 l0 x7_1).f1).length c633_1)) 2 (.int .i64 ((rd_T110 l0 x7_1).f2)); rw [← hw] at h_; simp only [List.setIfInBounds_toArray, List.set_cons_zero, List.set_cons_succ] at h_; clear BK5 c_BK5 z_BK5 hw; replace HB := bH HB hb; clear hb; have BK5 := Aside0.mk h_; have c_BK5 := blk_cell h_; have z_BK5 := blk_frozen h_; clear h_ G5))
    try clear y633_0 y633_1 y633_2
    clear c_BK5 z_BK5; have rBK5 := BK5; replace BK5 := dK BK5
    have HBr := HB; replace HB := dH HB
    refine stA (n := 18) (S := fun w' => Below W6.heap.size W6 w') (by kernel_rfl) rfl (below_drew1 (Below.refl _ W6)) (by kernel_rfl) (fun hHeld => ?_)
    generalize W6.drew = W7 at HB BK5 hHeld ⊢
    replace H := H.out
    replace H := Option.bind_eq_some_iff.mp H
    obtain ⟨t635, hm, H⟩ := H
    try dsimp only at H
    replace hm := Aside0.mk hm
    replace H := Aside0.mk H
    refine ld 0 (some 12) 1 hHeld ?_ (hr := by (intro w' h_; have y_ := kD rBK5 h_; go_simp; with_reducible rfl))
    refine on 1 (some 13) 3 (fun K hK => ?_)
    have hcall := impl_IsIssuer.calls k1 _ _ _ _ _ _ W7 (Kd.C_below HR633_1.out HB.out) HC633_1.out hm.out
    refine goes_ Tryz.func89 (by kernel_rfl) rfl #[.agg #[.int .i64 ((rd_T110 l0 x7_1).f0), .slice A633_1 ((rd_T110 l0 x7_1).f1).length c633_1, .int .i64 ((rd_T110 l0 x7_1).f2)]] (by rfl) rfl rfl (by (try simp only [List.map_toArray, List.map_cons, List.map_nil]); first | done | rfl) ?_
    refine hcall.mono ?_
    rintro e W9 ⟨rfl, hb⟩
    refine ⟨_, rfl, ?_⟩
    clear hcall hm
    replace hHeld := below_step hHeld hb
    replace BK5 := bK BK5 hb
    replace HB := bH HB hb; clear hb
    refine hK.out _ _ hHeld (fun hHeld => ?_)
    clear hK K
    refine nr 13 ?_
    replace H := H.out
    replace H := ifD H; rcases H with ⟨c10, H⟩ | ⟨c10, H⟩
    ·subst c10
     replace H := ifD H; rcases H with ⟨c11, H⟩ | ⟨c11, H⟩
     ·replace c11 : 0 < x7_1 := c11
      have c11_0 := decT c11
      replace c11 := Aside0.mk c11
      first | rw [c11_0] | skip
      replace H := ifN H; obtain ⟨c12, H⟩ := H
      have c12_0 := decT c12
      replace c12 := Aside0.mk c12
      first | rw [c12_0] | skip
      replace H := ifN H; obtain ⟨c13, H⟩ := H
      have c13_0 := decT c13
      replace c13 := Aside0.mk c13
      first | rw [c13_0] | skip
      have p636 : 0 ≤ ((wrap64 (x7_1 - 1)) : Int) := (of_decide_eq_true (by assumption))
      have q636 : (wrap64 (x7_1 - 1)) < (l0.length : Int) := (of_decide_eq_true (by assumption))
      obtain ⟨ad636, A636_1, c636_1, e636, hx636_0, hx636_1, hx636_2, hl636_1, hi636_1⟩ := at_T110 HR0.out (wrap64 (x7_1 - 1)) p636 q636
      obtain rfl : ad633 = ad636 := by injection e636
      have HR636_1 := Aside0.mk hi636_1; have HC636_1 := Aside0.mk hl636_1; clear hi636_1 hl636_1
      replace hx636_0 := Aside0.mk hx636_0
      replace hx636_1 := Aside0.mk hx636_1
      replace hx636_2 := Aside0.mk hx636_2
      have r636 := eq_true p636; have s636 := eq_true q636
      replace p636 := Aside0.mk p636; replace q636 := Aside0.mk q636
      replace H := Aside0.mk H
      refine pu 2 (some 14) 7 ?_; refine pu 3 (some 15) 15 ?_; refine pu 4 (some 16) 31 ?_; refine pu 5 (some 17) 63 ?_; refine pu 6 (some 18) 127 ?_; refine pu 7 (some 19) 255 ?_; refine pu 8 (some 20) 511 ?_; refine pu 9 (some 21) 1023 ?_; refine pu 10 (some 22) 2047 ?_; refine pu 11 (some 23) 4095 ?_; refine pu 13 (some 25) 12287 ?_; refine ld 12 (some 24) 16383 hHeld ?_ (hr := by (intro w' h_; have y0_ := xD HBr h_ hx636_0; have y1_ := xD HBr h_ hx636_1; have y2_ := xD HBr h_ hx636_2; go_simp; with_reducible rfl)); refine ld 14 (some 26) 32767 hHeld ?_ (hr := by (intro w' h_; have y_ := kD rBK5 h_; go_simp; with_reducible rfl)); refine pu 15 (some 27) 65535 ?_; refine pu 16 (some 28) 131071 ?_; refine pu 17 (some 29) 262143 ?_
      refine dn (by kernel_rfl) ?_
      clear hHeld HBr rBK5
      have c_BK5 := blk_cell BK5.out; have z_BK5 := blk_frozen BK5.out
      replace H := H.out
      replace H := ifD H; rcases H with ⟨c14, H⟩ | ⟨c14, H⟩
      ·replace c14 : ((rd_T110 l0 x7_1).f0) ≤ ((rd_T110 l0 (wrap64 (x7_1 - 1))).f0) := c14
       have c14_0 := decT c14
       replace c14 := Aside0.mk c14
       first | rw [c14_0] | skip
       obtain rfl := Option.some.inj H
       clear H
       go_wp2
       go_ret
       exact ⟨rfl, HB.out⟩
      ·replace c14 : ¬ (((rd_T110 l0 x7_1).f0) ≤ ((rd_T110 l0 (wrap64 (x7_1 - 1))).f0)) := c14
       have c14_0 := decF c14
       replace c14 := Aside0.mk c14
       first | rw [c14_0] | skip
       replace H := Aside0.mk H
       go_wp2
       go_roundg k1
       case measure => have := Hk1.out; omega
       case rel => exact ⟨(wrap64 (x7_1 + 1)), (by first | rfl | (simp; done) | (simp [*]; done)), H, ⟨by have := Hk1.out; omega⟩, HB⟩
     ·replace c11 : ¬ (0 < x7_1) := c11
      have c11_0 := decF c11
      replace c11 := Aside0.mk c11
      first | rw [c11_0] | skip
      replace H := Aside0.mk H
      refine pu 2 (some 14) 7 ?_; refine pu 3 (some 15) 15 ?_; refine pu 4 (some 16) 31 ?_; refine pu 5 (some 17) 63 ?_; refine pu 6 (some 18) 127 ?_; refine sk 7 (some 19) 255 ?_; refine sk 8 (some 20) 511 ?_; refine sk 9 (some 21) 1023 ?_; refine sk 10 (some 22) 2047 ?_; refine sk 11 (some 23) 4095 ?_; refine sk 12 (some 24) 8191 ?_; refine sk 13 (some 25) 16383 ?_; refine sk 14 (some 26) 32767 ?_; refine sk 15 (some 27) 65535 ?_; refine pu 16 (some 28) 131071 ?_; refine pu 17 (some 29) 262143 ?_
      refine dn (by kernel_rfl) ?_
      clear hHeld HBr rBK5
      have c_BK5 := blk_cell BK5.out; have z_BK5 := blk_frozen BK5.out
      go_wp2
      go_roundg k1
      case measure => have := Hk1.out; omega
      case rel => exact ⟨(wrap64 (x7_1 + 1)), (by first | rfl | (simp; done) | (simp [*]; done)), H, ⟨by have := Hk1.out; omega⟩, HB⟩
    ·replace c10 := (Bool.not_eq_true _).mp c10
     subst c10
     replace H := Aside0.mk H
     refine pu 2 (some 14) 7 ?_; refine pu 3 (some 15) 15 ?_; refine sk 4 (some 16) 31 ?_; refine sk 5 (some 17) 63 ?_; refine sk 6 (some 18) 127 ?_; refine sk 7 (some 19) 255 ?_; refine sk 8 (some 20) 511 ?_; refine sk 9 (some 21) 1023 ?_; refine sk 10 (some 22) 2047 ?_; refine sk 11 (some 23) 4095 ?_; refine sk 12 (some 24) 8191 ?_; refine sk 13 (some 25) 16383 ?_; refine sk 14 (some 26) 32767 ?_; refine sk 15 (some 27) 65535 ?_; refine sk 16 (some 28) 131071 ?_; refine pu 17 (some 29) 262143 ?_
     refine dn (by kernel_rfl) ?_
     clear hHeld HBr rBK5
     have c_BK5 := blk_cell BK5.out; have z_BK5 := blk_frozen BK5.out
     replace H := H.out
     obtain rfl := Option.some.inj H
     clear H
     go_wp2
     go_ret
     exact ⟨rfl, HB.out⟩
   ·have c2_0 := decF c2
    replace c2 := Aside0.mk c2
    first | rw [c2_0] | skip
    obtain rfl := Option.some.inj H
    clear H
    go_wp2
    go_ret
    exact ⟨rfl, HB.out⟩

/-! ### impl_isRole: function 164 -/
def impl_isRole.f (a0 : Int) : Option (Bool) := (impl_InRange.f a0 0 5).bind fun t637 => (some t637)
/-! ### impl_below: function 165 -/
open Go.Proofs.YtineejdlpcgnkaaGreatM in
def roleB (n : Int) : Bool := decide (0 ≤ n) && decide (n ≤ 5)
open Go.Proofs.YtineejdlpcgnkaaGreatM in
def mkR (m : List Bool) (r : Int) : Bool := m.getD r.toNat false
open Go.Proofs.YtineejdlpcgnkaaGreatM in
def visX (a : Int) (s : List Bool × List Int) (x : S161) : List Bool × List Int := if x.f0 = a ∧ roleB x.f1 = true ∧ mkR s.1 x.f1 = false then (s.1.set x.f1.toNat true, s.2 ++ [x.f1]) else s
open Go.Proofs.YtineejdlpcgnkaaGreatM in
def popX (l : List S161) (a : Int) (s : List Bool × List Int) : List Bool × List Int := l.foldl (visX a) s
open Go.Proofs.YtineejdlpcgnkaaGreatM in
def bfsX (l : List S161) : Nat → List Int → List Bool → Option (List Bool)
 | 0, _, _ => none
 | _ + 1, [], m => some m
 | k + 1, a :: rest, m => bfsX l k (popX l a (m, rest)).2 (popX l a (m, rest)).1
open Go.Proofs.YtineejdlpcgnkaaGreatM in
def cntB (m : List Bool) : Nat := m.countP id
open Go.Proofs.YtineejdlpcgnkaaGreatM in
theorem roleB_iff {n : Int} : roleB n = true ↔ 0 ≤ n ∧ n ≤ 5 := by simp [roleB]
open Go.Proofs.YtineejdlpcgnkaaGreatM in
theorem cnt_le (m : List Bool) : cntB m ≤ m.length := List.countP_le_length
open Go.Proofs.YtineejdlpcgnkaaGreatM in
theorem cnt_set_lt {m : List Bool} {r : Int} (hm : m.length = 6) (hr : roleB r = true) (h : mkR m r = false) : cntB (m.set r.toNat true) = cntB m + 1 := by
 rw [roleB_iff] at hr
 have hlt : r.toNat < m.length := by omega
 have hb : m[r.toNat] = false := by
  unfold mkR at h; rw [List.getD_eq_getElem?_getD, List.getElem?_eq_getElem hlt] at h; exact h
 have key : ∀ (m : List Bool) (i : Nat), m[i]? = some false → cntB (m.set i true) = cntB m + 1 := by
  intro m
  induction m with
  | nil => intro i h; simp at h
  | cons b m ih =>
   intro i h
   cases i with
   | zero => simp at h; subst h; simp [cntB]
   | succ i =>
    have := ih i (by simpa using h)
    simp only [List.set_cons_succ, cntB, List.countP_cons] at this ⊢
    omega
 exact key m _ (by rw [List.getElem?_eq_getElem hlt, hb])
open Go.Proofs.YtineejdlpcgnkaaGreatM in
theorem mkR_cell (m : List Bool) (r : Int) (hm : m.length = 6) (hr : roleB r = true) : (m.map Value.bool).toArray[r.toNat]? = some (.bool (mkR m r)) := by
 rw [roleB_iff] at hr
 unfold mkR
 rw [List.getElem?_toArray, List.getElem?_map, List.getD_eq_getElem?_getD, List.getElem?_eq_getElem (show r.toNat < m.length by omega)]
 rfl
open Go.Proofs.YtineejdlpcgnkaaGreatM in
theorem set_cells (m : List Bool) (i : Nat) : (m.map Value.bool).toArray.setIfInBounds i (.bool true) = ((m.set i true).map Value.bool).toArray := by
 rw [List.setIfInBounds_toArray, List.map_set]
open Go.Proofs.YtineejdlpcgnkaaGreatM in
set_option maxHeartbeats 8000000 in
set_option maxRecDepth 100000 in
theorem inr_same (a b c : Int) (w : World) : Calls Tryz.prog 67 #[.int .i64 a, .int .i64 b, .int .i64 c] w fun e w' => e = .returned (.bool (decide (b ≤ a) && decide (a ≤ c))) ∧ w = w' := by
 by_cases c1 : b ≤ a
 ·have c1_0 := decT c1
  by_cases c2 : a ≤ c
  ·have c2_0 := decT c2
   rw [c1_0, c2_0]
   clear c1 c2
   go_enter Tryz.func67, Tryz.ntmps67
   go_wp2
   go_ret
   exact ⟨rfl, rfl⟩
  ·have c2_0 := decF c2
   rw [c1_0, c2_0]
   clear c1 c2
   go_enter Tryz.func67, Tryz.ntmps67
   go_wp2
   go_ret
   exact ⟨rfl, rfl⟩
 ·have c1_0 := decF c1
  rw [c1_0, Bool.false_and]
  clear c1
  go_enter Tryz.func67, Tryz.ntmps67
  go_wp2
  go_ret
  exact ⟨rfl, rfl⟩
open Go.Proofs.YtineejdlpcgnkaaGreatM in
set_option maxHeartbeats 8000000 in
set_option maxRecDepth 100000 in
theorem role_same (a : Int) (w : World) : Calls Tryz.prog 164 #[.int .i64 a] w fun e w' => e = .returned (.bool (roleB a)) ∧ w = w' := by
 go_enter Tryz.func164, Tryz.ntmps164
 go_wp2_with (go_at_call 67; refine (inr_same _ _ _ _).mono ?_; rintro e w' ⟨rfl, rfl⟩)
 go_ret
 exact ⟨rfl, rfl⟩
open Go.Proofs.YtineejdlpcgnkaaGreatM in
set_option maxHeartbeats 8000000 in
set_option maxRecDepth 100000 in
theorem below.calls (k : Nat) (A0 : Option Addr) (c0 : Nat) (l0 : List S161) (a1 : Int) (r : List Bool) (w : World) (hr0 : Kd.C k161 w A0 l0.length l0) (hc0 : l0.length ≤ c0) (h : bfsX l0 k [a1] (List.replicate 6 false) = some r) :
  Calls Tryz.prog 165 #[.slice A0 l0.length c0, .int .i64 a1] w fun e w' => e = .returned (.agg (r.map Value.bool).toArray) ∧ Below w.heap.size w w' := by
 have HR0 := Aside0.mk hr0
 have HC0 := Aside0.mk hc0
 have H := Aside0.mk h
 clear hr0 hc0 h
 have HB := Aside0.mk (Below.refl w.heap.size w)
 have hu1_ := Tryz.underlying161
 have hu2_ := Tryz.underlying181
 go_enter Tryz.func165, Tryz.ntmps165
 go_wp2_with ((with_reducible refine gate_dst (N := 12) rfl ?_); refine Kd.R_lit (Kd.int .i64) _ 3 ?hg (N := 12) ?hd (xs := ([a1] : List Int)) (inner := [.int .i64 a1]) (ok := fun _ => True) (okp := fun _ => True) ?hr ?hp (fun _ hk => hk) trivial (Below.refl _ _) (Nat.le_refl _) (by simp) ?_; (case hd => rfl); (case hg => rfl); (case hr => first | (go_simp; done) | (go_simp; rfl)); (case hp => exact (Reps.one (show Kd.M (Kd.int .i64) _ _ _ a1 [.int .i64 a1] from rfl) (Reps.none _ _))); intro v6 W6 ho6 hb6 hg_ hnew_; clear hg_ hnew_)
 have hz4 : W6.heap[w.heap.size]? = some (.cells #[.bool false, .bool false, .bool false, .bool false, .bool false, .bool false] 181 (0, 0)) := blk_below (blk_alloc (heap_alloc_new w _) _) hb6
 have hz5 : W6.heap[w.heap.size + 1]? = some (.cells #[.bool false, .bool false, .bool false, .bool false, .bool false, .bool false] 181 (0, 0)) := blk_below (by have h_ := heap_alloc_new (w.alloc (.cells #[.bool false, .bool false, .bool false, .bool false, .bool false, .bool false] 181)) (.cells #[.bool false, .bool false, .bool false, .bool false, .bool false, .bool false] 181 : Obj); simpa using h_) hb6
 have HOa := Aside0.mk (Kd.R_lower ho6 (show w.heap.size ≤ _ by simp; omega))
 have HBa := Aside0.mk (below_step (below_alloc (below_alloc HB.out _) _) hb6)
 clear ho6 hb6 HB; have B4 := Aside0.mk hz4; have B5 := Aside0.mk hz5; clear hz4 hz5
 go_loopg [6] k (fun kq v6 w' => ∃ (todo : List Int) (m : List Bool), Aside0 (bfsX l0 kq todo m = some r) ∧ Aside0 (kq ≤ k) ∧ Aside0 (m.length = 6) ∧ Aside0 (todo.length + (6 - cntB m) ≤ 7) ∧ Aside0 (Kd.Q (Kd.int .i64) 3 w' w.heap.size (fun _ => True) v6 todo) ∧ Aside0 (w'.heap[w.heap.size + 1]? = some (.cells (m.map Value.bool).toArray 181 (0, 0))) ∧ Aside0 (w'.heap[w.heap.size]? = some (.cells #[.bool false, .bool false, .bool false, .bool false, .bool false, .bool false] 181 (0, 0))) ∧ Aside0 (Below w.heap.size w w'))
 case atStart => exact ⟨[a1], List.replicate 6 false, H, ⟨Nat.le_refl _⟩, ⟨rfl⟩, ⟨by simp only [List.length_singleton]; omega⟩, ⟨Kd.Q_of_R HOa.out⟩, B5, B4, HBa⟩
 case round =>
  clear H HOa HBa B4 B5
  obtain ⟨todo, m, HA, HK1, HM, HL, HO, B5, B4, HB⟩ := hrel
  cases gk with
  | zero => exact absurd HA.out (by simp [bfsX])
  | succ k1 =>
   cases todo with
   | nil =>
    have H := HA.out
    obtain ⟨A_, c_, he_, hc_⟩ := Kd.Q_slice HO.out
    subst he_
    replace hc_ := Aside0.mk hc_
    simp only [bfsX] at H
    obtain rfl := Option.some.inj H
    clear HA H HL
    obtain ⟨b0, b1, b2, b3, b4, b5, rfl⟩ : ∃ b0 b1 b2 b3 b4 b5, m = [b0, b1, b2, b3, b4, b5] := by
     have h6 := HM.out
     match m, h6 with
     | [b0, b1, b2, b3, b4, b5], _ => exact ⟨b0, b1, b2, b3, b4, b5, rfl⟩
    clear HM
    have c4 := blk_cell B4.out; have c5 := blk_cell B5.out; have z4 := blk_frozen B4.out
    go_wp2
    have h_ := blk_set (blk_set (blk_set (blk_set (blk_set (blk_set B4.out 0 (.bool b0)) 1 (.bool b1)) 2 (.bool b2)) 3 (.bool b3)) 4 (.bool b4)) 5 (.bool b5)
    simp only [List.setIfInBounds_toArray, List.set_cons_zero, List.set_cons_succ] at h_
    have hbf := bSet (bSet (bSet (bSet (bSet (bSet HB.out (Nat.le_refl w.heap.size) (j := 0) (u := .bool b0)) (Nat.le_refl w.heap.size) (j := 1) (u := .bool b1)) (Nat.le_refl w.heap.size) (j := 2) (u := .bool b2)) (Nat.le_refl w.heap.size) (j := 3) (u := .bool b3)) (Nat.le_refl w.heap.size) (j := 4) (u := .bool b4)) (Nat.le_refl w.heap.size) (j := 5) (u := .bool b5)
    generalize (((((wr.setCell ⟨w.heap.size, 0, none⟩ (.bool b0)).setCell ⟨w.heap.size, 1, none⟩ (.bool b1)).setCell ⟨w.heap.size, 2, none⟩ (.bool b2)).setCell ⟨w.heap.size, 3, none⟩ (.bool b3)).setCell ⟨w.heap.size, 4, none⟩ (.bool b4)).setCell ⟨w.heap.size, 5, none⟩ (.bool b5) = Wf at h_ hbf ⊢
    have cf := blk_cell h_
    clear h_ c4 c5 z4 B4 B5 HO HB
    refine bodyPost_ret (v := .agg #[.bool b0, .bool b1, .bool b2, .bool b3, .bool b4, .bool b5]) (by simp [results, Tryz.results165, go_sem, cf]) rfl ⟨rfl, hbf⟩
   | cons a rest =>
    have H := HA.out
    simp only [bfsX] at H
    replace H := Aside0.mk H
    clear HA
    obtain ⟨g, o, cap, he_, hg1, hg2, cells_, hcells⟩ := Kd.Q_form HO.out (by simp)
    subst he_
    obtain ⟨_, hcap, hCC⟩ := Kd.Q_reads' HO.out
    have hq0 : wr.cell? ⟨g, o, none⟩ = some (.int .i64 a) := (Kd.Q_cell 0 HO.out 0 (by omega) (by simp)).1
    have hN1 : 1 ≤ (a :: rest).length := by simp
    have hN2 := hCC.2.1
    obtain ⟨N, hN⟩ : ∃ N, N = (a :: rest).length := ⟨_, rfl⟩
    rw [← hN] at hcap hN1 hN2
    have hQ2 := Kd.Q_drop (k := 1) HO.out (by simp)
    rw [← hN] at hQ2
    have hNI : (0 : Int) < (N : Int) := by omega
    have hNI2 : decide ((0 : Int) < (N : Int)) = true := decT hNI
    have hc9 : N ≤ 9223372036854775807 := hN2
    rw [← hN]
    replace HL : Aside0 (rest.length + (6 - cntB m) ≤ 6) := ⟨by have := HL.out; simp only [List.length_cons] at this; omega⟩
    replace hN := Aside0.mk hN
    clear hCC hcells hN2 HO
    by_cases hc1 : cap = 1
    ·subst hc1; rw [if_pos rfl] at hQ2; have hN3 : N = 1 := (by omega); subst hN3
     go_wp2
     have HO : Aside0 (Kd.Q (Kd.int .i64) 3 wr w.heap.size (fun _ => True) (.slice (some ⟨g, o, none⟩) 0 0) rest) := ⟨hQ2⟩
     clear hQ2 hq0
     generalize Value.slice (some ⟨g, o, none⟩) 0 0 = vq at HO ⊢
     clear hN hN1 hNI hNI2 hc9 hcap hg2
     obtain ⟨wo, rfl⟩ : ∃ wo : World, wo = wr := ⟨_, rfl⟩
     go_loopw [23, 6] (fun v23 v6 w' => ∃ (i : Nat) (todo : List Int) (m' : List Bool), v23 = .int .i64 i ∧ i ≤ l0.length ∧ Aside0 ((l0.take i).foldl (visX a) (m, rest) = (m', todo)) ∧ Aside0 (m'.length = 6) ∧ Aside0 (todo.length + (6 - cntB m') ≤ 7) ∧ Aside0 (Kd.Q (Kd.int .i64) 3 w' w.heap.size (fun _ => True) v6 todo) ∧ Aside0 (w'.heap[w.heap.size + 1]? = some (.cells (m'.map Value.bool).toArray 181 (0, 0))) ∧ Aside0 (w'.heap[w.heap.size]? = some (.cells #[.bool false, .bool false, .bool false, .bool false, .bool false, .bool false] 181 (0, 0))) ∧ Aside0 (Below w.heap.size w w')) (fun v _ _ => l0.length - (intOf v).toNat)
     case atStart => exact ⟨0, rest, m, rfl, Nat.zero_le _, ⟨rfl⟩, HM, ⟨by have := HL.out; omega⟩, HO, B5, B4, HB⟩
     case round =>
      clear HM HL HO B5 B4 HB
      obtain ⟨i, todo, m', rfl, hi, HF, HM, HL, HO, B5, B4, HB⟩ := hrel
      replace hi := Aside0.mk hi
      by_cases hlt : i < l0.length
      ·obtain ⟨x, hx⟩ : ∃ x, l0[i]? = some x := ⟨_, List.getElem?_eq_getElem hlt⟩
       have hrd : rd_T161 l0 (i : Int) = x := by unfold rd_T161; rw [List.getD_eq_getElem?_getD, Int.toNat_natCast, hx]; rfl
       have hmx : l0.length ≤ 9223372036854775807 := HR0.out.2.1
       have p0 : (0 : Int) ≤ (i : Int) := by omega
       have p1 : (i : Int) < (l0.length : Int) := by omega
       obtain ⟨ad, e_, hx0, hx1⟩ := at_T161 HR0.out (i : Int) p0 p1
       cases e_
       rw [hrd] at hx0 hx1
       rw [Int.toNat_natCast] at hx0 hx1
       have y0 := xC HB ⟨hx0⟩
       have y1 := xC HB ⟨hx1⟩
       replace hstep := Aside0.mk (show (l0.take (i + 1)).foldl (visX a) (m, rest) = visX a (m', todo) x by rw [List.take_add_one, hx, List.foldl_append, HF.out]; rfl)
       have hneX : w.heap.size + 1 ≠ wr.heap.size := by have := blk_lt B5.out; omega
       have hneY : w.heap.size + 1 < wr.heap.size := by have := blk_lt B5.out; omega
       have hNo : (¬ (x.f0 = a ∧ roleB x.f1 = true ∧ mkR m' x.f1 = false)) → Aside0 ((l0.take (i + 1)).foldl (visX a) (m, rest) = (m', todo)) := fun h_ => ⟨by rw [hstep.out]; unfold visX; rw [if_neg h_]⟩
       replace hNo := Aside0.mk hNo
       replace hx := Aside0.mk hx
       replace hrd := Aside0.mk hrd
       clear hx0 hx1
       by_cases c1 : x.f0 = a
       ·have c1_1 := eqT c1
        cases c2 : roleB x.f1 with
        | true =>
         have hr1 : (0 : Int) ≤ x.f1 := (roleB_iff.1 c2).1
         have hr2 : x.f1 < 6 := by have := (roleB_iff.1 c2).2; omega
         have hcell : wr.cell? ⟨w.heap.size + 1, x.f1.toNat, none⟩ = some (.bool (mkR m' x.f1)) := (blk_cell B5.out _).trans (mkR_cell m' x.f1 HM.out c2)
         have hfz := blk_frozen B5.out x.f1.toNat
         cases c3 : mkR m' x.f1 with
         | false =>
          rw [c3] at hcell
          have hcnt := cnt_set_lt HM.out c2 c3
          replace hstep : Aside0 ((l0.take (i + 1)).foldl (visX a) (m, rest) = (m'.set x.f1.toNat true, todo ++ [x.f1])) := ⟨by rw [hstep.out]; unfold visX; rw [if_pos ⟨c1, c2, c3⟩]⟩
          have hcle := cnt_le (m'.set x.f1.toNat true)
          rw [List.length_set, HM.out] at hcle
          have HL2 : Aside0 ((todo ++ [x.f1]).length + (6 - cntB (m'.set x.f1.toNat true)) ≤ 7) := ⟨by have := HL.out; rw [List.length_append, List.length_singleton, hcnt]; omega⟩
          replace hcnt := Aside0.mk hcnt
          replace hcle := Aside0.mk hcle
          replace c3 := Aside0.mk c3; clear c1 hNo
          have HO1 := Kd.Q_alloc (Kd.Q_set HO.out B5.out (by decide) x.f1.toNat (.bool true)) (.cells #[.int .i64 x.f0, .int .i64 x.f1] 161)
          have B51 := blk_alloc (blk_set B5.out x.f1.toNat (.bool true)) (.cells #[.int .i64 x.f0, .int .i64 x.f1] 161)
          rw [set_cells] at B51
          have B41 := blk_alloc (blk_far B4.out (p := ⟨w.heap.size + 1, x.f1.toNat, none⟩) (show w.heap.size ≠ w.heap.size + 1 by omega) (.bool true)) (.cells #[.int .i64 x.f0, .int .i64 x.f1] 161)
          have HB1 := below_alloc (bSet HB.out (show w.heap.size ≤ w.heap.size + 1 by omega) (j := x.f1.toNat) (u := .bool true)) (.cells #[.int .i64 x.f0, .int .i64 x.f1] 161)
          have B91 : ((wr.setCell ⟨w.heap.size + 1, x.f1.toNat, none⟩ (.bool true)).alloc (.cells #[.int .i64 x.f0, .int .i64 x.f1] 161)).heap[wr.heap.size]? = some (.cells #[.int .i64 x.f0, .int .i64 x.f1] 161 (0, 0)) := by have h_ := heap_alloc_new (wr.setCell ⟨w.heap.size + 1, x.f1.toNat, none⟩ (.bool true)) (.cells #[.int .i64 x.f0, .int .i64 x.f1] 161 : Obj); simpa using h_
          replace HO1 := Aside0.mk HO1; replace B51 := Aside0.mk B51; replace B41 := Aside0.mk B41; replace HB1 := Aside0.mk HB1; replace B91 := Aside0.mk B91
          go_upto_region 11 with (go_at_call 164; refine (role_same _ _).mono ?_; rintro e w' ⟨rfl, rfl⟩)
          generalize (wr.setCell ⟨w.heap.size + 1, x.f1.toNat, none⟩ (.bool true)).alloc (.cells #[.int .i64 x.f0, .int .i64 x.f1] 161) = W9 at HO1 B51 B41 HB1 B91 ⊢
          have c91 : W9.cell? ⟨wr.heap.size, 1, none⟩ = some (.int .i64 x.f1) := (blk_cell B91.out 1).trans rfl
          go_wp2_with ((with_reducible refine gate_dst (N := 50) rfl ?_); refine Kd.Q_append (Kd.int .i64) (w0 := w) w.heap.size rfl (.tmp 46) (.tmp 49) 98 3 (.int .i64 0) 8 rfl Tryz.underlying98 info3 rfl (by decide) (by omega) u6 todo x.f1 [.int .i64 x.f1] (fun _ => True) (fun _ => False) rfl rfl ?aP (fun _ hk => hk.elim) ?aF ?aO ?aB ?aS ?aL ?_; (case aP => exact (show Kd.M (Kd.int .i64) _ _ _ x.f1 [.int .i64 x.f1] from rfl)); (case aF => exact fun _ _ => trivial); (case aO => exact HO1.out); (case aB => exact HB1.out); (case aS => exact HB1.out.size); (case aL => (have := HL.out; omega)); intro v1 w1 hon hbn hgn hat_; have hgw := Aside0.mk hgn; have ho1 := Aside0.mk hon; have hb1 := Aside0.mk hbn; clear hgn hon hbn hat_)
          have B52 := blk_grown B51.out hgw.out (Kd.Q_ne HO1.out B51.out (by decide))
          have B42 := blk_grown B41.out hgw.out (Kd.Q_ne HO1.out B41.out (by decide))
          clear HO1 B51 B41 HB1 hgw
          replace B52 := Aside0.mk B52; replace B42 := Aside0.mk B42
          go_wp2
          go_roundw
          case rel => exact ⟨i + 1, todo ++ [x.f1], m'.set x.f1.toNat true, by go_num, by omega, hstep, ⟨by rw [List.length_set]; exact HM.out⟩, HL2, ho1, B52, B42, hb1⟩
          case measure => simp [intOf]; omega
         | true =>
          rw [c3] at hcell
          have c3' : ¬ (x.f0 = a ∧ roleB x.f1 = true ∧ mkR m' x.f1 = false) := fun h_ => by rw [c3] at h_; exact absurd h_.2.2 (by simp)
          replace hNo := hNo.out c3'
          replace c3 := Aside0.mk c3; clear c3' hfz c1
          go_wp2_with (go_at_call 164; refine (role_same _ _).mono ?_; rintro e w' ⟨rfl, rfl⟩)
          go_roundw
          case rel => exact ⟨i + 1, todo, m', by go_num, by omega, hNo, HM, HL, ⟨Kd.Q_alloc HO.out _⟩, ⟨blk_alloc B5.out _⟩, ⟨blk_alloc B4.out _⟩, ⟨below_alloc HB.out _⟩⟩
          case measure => simp [intOf]; omega
        | false =>
         have c3' : ¬ (x.f0 = a ∧ roleB x.f1 = true ∧ mkR m' x.f1 = false) := fun h_ => by rw [c2] at h_; exact absurd h_.2.1 (by simp)
         replace hNo := hNo.out c3'
         clear c3' c1
         go_wp2_with (go_at_call 164; refine (role_same _ _).mono ?_; rintro e w' ⟨rfl, rfl⟩)
         go_roundw
         case rel => exact ⟨i + 1, todo, m', by go_num, by omega, hNo, HM, HL, ⟨Kd.Q_alloc HO.out _⟩, ⟨blk_alloc B5.out _⟩, ⟨blk_alloc B4.out _⟩, ⟨below_alloc HB.out _⟩⟩
         case measure => simp [intOf]; omega
       ·have c1_1 := eqF c1
        replace hNo := hNo.out (fun h_ => c1 h_.1)
        clear c1
        go_wp2
        go_roundw
        case rel => exact ⟨i + 1, todo, m', by go_num, by omega, hNo, HM, HL, ⟨Kd.Q_alloc HO.out _⟩, ⟨blk_alloc B5.out _⟩, ⟨blk_alloc B4.out _⟩, ⟨below_alloc HB.out _⟩⟩
        case measure => simp [intOf]; omega
      ·obtain rfl : i = l0.length := by have := hi.out; omega
       rw [List.take_length] at HF
       have H2 : Aside0 (bfsX l0 k1 todo m' = some r) := ⟨by have h_ := H.out; unfold popX at h_; rw [HF.out] at h_; exact h_⟩
       clear H HF hi
       go_wp2
       go_roundg k1
       case rel => exact ⟨todo, m', H2, ⟨by have := HK1.out; omega⟩, HM, ⟨by have := HL.out; omega⟩, HO, B5, B4, HB⟩
       case measure => omega
    ·rw [if_neg hc1] at hQ2
     go_wp2
     have HO : Aside0 (Kd.Q (Kd.int .i64) 3 wr w.heap.size (fun _ => True) (.slice (some ⟨g, o + 1, none⟩) (N - 1) (cap - 1)) rest) := ⟨hQ2⟩
     clear hQ2 hq0
     generalize Value.slice (some ⟨g, o + 1, none⟩) (N - 1) (cap - 1) = vq at HO ⊢
     clear hN hN1 hNI hNI2 hc9 hcap hg2
     obtain ⟨wo, rfl⟩ : ∃ wo : World, wo = wr := ⟨_, rfl⟩
     go_loopw [23, 6] (fun v23 v6 w' => ∃ (i : Nat) (todo : List Int) (m' : List Bool), v23 = .int .i64 i ∧ i ≤ l0.length ∧ Aside0 ((l0.take i).foldl (visX a) (m, rest) = (m', todo)) ∧ Aside0 (m'.length = 6) ∧ Aside0 (todo.length + (6 - cntB m') ≤ 7) ∧ Aside0 (Kd.Q (Kd.int .i64) 3 w' w.heap.size (fun _ => True) v6 todo) ∧ Aside0 (w'.heap[w.heap.size + 1]? = some (.cells (m'.map Value.bool).toArray 181 (0, 0))) ∧ Aside0 (w'.heap[w.heap.size]? = some (.cells #[.bool false, .bool false, .bool false, .bool false, .bool false, .bool false] 181 (0, 0))) ∧ Aside0 (Below w.heap.size w w')) (fun v _ _ => l0.length - (intOf v).toNat)
     case atStart => exact ⟨0, rest, m, rfl, Nat.zero_le _, ⟨rfl⟩, HM, ⟨by have := HL.out; omega⟩, HO, B5, B4, HB⟩
     case round =>
      clear HM HL HO B5 B4 HB
      obtain ⟨i, todo, m', rfl, hi, HF, HM, HL, HO, B5, B4, HB⟩ := hrel
      replace hi := Aside0.mk hi
      by_cases hlt : i < l0.length
      ·obtain ⟨x, hx⟩ : ∃ x, l0[i]? = some x := ⟨_, List.getElem?_eq_getElem hlt⟩
       have hrd : rd_T161 l0 (i : Int) = x := by unfold rd_T161; rw [List.getD_eq_getElem?_getD, Int.toNat_natCast, hx]; rfl
       have hmx : l0.length ≤ 9223372036854775807 := HR0.out.2.1
       have p0 : (0 : Int) ≤ (i : Int) := by omega
       have p1 : (i : Int) < (l0.length : Int) := by omega
       obtain ⟨ad, e_, hx0, hx1⟩ := at_T161 HR0.out (i : Int) p0 p1
       cases e_
       rw [hrd] at hx0 hx1
       rw [Int.toNat_natCast] at hx0 hx1
       have y0 := xC HB ⟨hx0⟩
       have y1 := xC HB ⟨hx1⟩
       replace hstep := Aside0.mk (show (l0.take (i + 1)).foldl (visX a) (m, rest) = visX a (m', todo) x by rw [List.take_add_one, hx, List.foldl_append, HF.out]; rfl)
       have hneX : w.heap.size + 1 ≠ wr.heap.size := by have := blk_lt B5.out; omega
       have hneY : w.heap.size + 1 < wr.heap.size := by have := blk_lt B5.out; omega
       have hNo : (¬ (x.f0 = a ∧ roleB x.f1 = true ∧ mkR m' x.f1 = false)) → Aside0 ((l0.take (i + 1)).foldl (visX a) (m, rest) = (m', todo)) := fun h_ => ⟨by rw [hstep.out]; unfold visX; rw [if_neg h_]⟩
       replace hNo := Aside0.mk hNo
       replace hx := Aside0.mk hx
       replace hrd := Aside0.mk hrd
       clear hx0 hx1
       by_cases c1 : x.f0 = a
       ·have c1_1 := eqT c1
        cases c2 : roleB x.f1 with
        | true =>
         have hr1 : (0 : Int) ≤ x.f1 := (roleB_iff.1 c2).1
         have hr2 : x.f1 < 6 := by have := (roleB_iff.1 c2).2; omega
         have hcell : wr.cell? ⟨w.heap.size + 1, x.f1.toNat, none⟩ = some (.bool (mkR m' x.f1)) := (blk_cell B5.out _).trans (mkR_cell m' x.f1 HM.out c2)
         have hfz := blk_frozen B5.out x.f1.toNat
         cases c3 : mkR m' x.f1 with
         | false =>
          rw [c3] at hcell
          have hcnt := cnt_set_lt HM.out c2 c3
          replace hstep : Aside0 ((l0.take (i + 1)).foldl (visX a) (m, rest) = (m'.set x.f1.toNat true, todo ++ [x.f1])) := ⟨by rw [hstep.out]; unfold visX; rw [if_pos ⟨c1, c2, c3⟩]⟩
          have hcle := cnt_le (m'.set x.f1.toNat true)
          rw [List.length_set, HM.out] at hcle
          have HL2 : Aside0 ((todo ++ [x.f1]).length + (6 - cntB (m'.set x.f1.toNat true)) ≤ 7) := ⟨by have := HL.out; rw [List.length_append, List.length_singleton, hcnt]; omega⟩
          replace hcnt := Aside0.mk hcnt
          replace hcle := Aside0.mk hcle
          replace c3 := Aside0.mk c3; clear c1 hNo
          have HO1 := Kd.Q_alloc (Kd.Q_set HO.out B5.out (by decide) x.f1.toNat (.bool true)) (.cells #[.int .i64 x.f0, .int .i64 x.f1] 161)
          have B51 := blk_alloc (blk_set B5.out x.f1.toNat (.bool true)) (.cells #[.int .i64 x.f0, .int .i64 x.f1] 161)
          rw [set_cells] at B51
          have B41 := blk_alloc (blk_far B4.out (p := ⟨w.heap.size + 1, x.f1.toNat, none⟩) (show w.heap.size ≠ w.heap.size + 1 by omega) (.bool true)) (.cells #[.int .i64 x.f0, .int .i64 x.f1] 161)
          have HB1 := below_alloc (bSet HB.out (show w.heap.size ≤ w.heap.size + 1 by omega) (j := x.f1.toNat) (u := .bool true)) (.cells #[.int .i64 x.f0, .int .i64 x.f1] 161)
          have B91 : ((wr.setCell ⟨w.heap.size + 1, x.f1.toNat, none⟩ (.bool true)).alloc (.cells #[.int .i64 x.f0, .int .i64 x.f1] 161)).heap[wr.heap.size]? = some (.cells #[.int .i64 x.f0, .int .i64 x.f1] 161 (0, 0)) := by have h_ := heap_alloc_new (wr.setCell ⟨w.heap.size + 1, x.f1.toNat, none⟩ (.bool true)) (.cells #[.int .i64 x.f0, .int .i64 x.f1] 161 : Obj); simpa using h_
          replace HO1 := Aside0.mk HO1; replace B51 := Aside0.mk B51; replace B41 := Aside0.mk B41; replace HB1 := Aside0.mk HB1; replace B91 := Aside0.mk B91
          go_upto_region 11 with (go_at_call 164; refine (role_same _ _).mono ?_; rintro e w' ⟨rfl, rfl⟩)
          generalize (wr.setCell ⟨w.heap.size + 1, x.f1.toNat, none⟩ (.bool true)).alloc (.cells #[.int .i64 x.f0, .int .i64 x.f1] 161) = W9 at HO1 B51 B41 HB1 B91 ⊢
          have c91 : W9.cell? ⟨wr.heap.size, 1, none⟩ = some (.int .i64 x.f1) := (blk_cell B91.out 1).trans rfl
          go_wp2_with ((with_reducible refine gate_dst (N := 50) rfl ?_); refine Kd.Q_append (Kd.int .i64) (w0 := w) w.heap.size rfl (.tmp 46) (.tmp 49) 98 3 (.int .i64 0) 8 rfl Tryz.underlying98 info3 rfl (by decide) (by omega) u6 todo x.f1 [.int .i64 x.f1] (fun _ => True) (fun _ => False) rfl rfl ?aP (fun _ hk => hk.elim) ?aF ?aO ?aB ?aS ?aL ?_; (case aP => exact (show Kd.M (Kd.int .i64) _ _ _ x.f1 [.int .i64 x.f1] from rfl)); (case aF => exact fun _ _ => trivial); (case aO => exact HO1.out); (case aB => exact HB1.out); (case aS => exact HB1.out.size); (case aL => (have := HL.out; omega)); intro v1 w1 hon hbn hgn hat_; have hgw := Aside0.mk hgn; have ho1 := Aside0.mk hon; have hb1 := Aside0.mk hbn; clear hgn hon hbn hat_)
          have B52 := blk_grown B51.out hgw.out (Kd.Q_ne HO1.out B51.out (by decide))
          have B42 := blk_grown B41.out hgw.out (Kd.Q_ne HO1.out B41.out (by decide))
          clear HO1 B51 B41 HB1 hgw
          replace B52 := Aside0.mk B52; replace B42 := Aside0.mk B42
          go_wp2
          go_roundw
          case rel => exact ⟨i + 1, todo ++ [x.f1], m'.set x.f1.toNat true, by go_num, by omega, hstep, ⟨by rw [List.length_set]; exact HM.out⟩, HL2, ho1, B52, B42, hb1⟩
          case measure => simp [intOf]; omega
         | true =>
          rw [c3] at hcell
          have c3' : ¬ (x.f0 = a ∧ roleB x.f1 = true ∧ mkR m' x.f1 = false) := fun h_ => by rw [c3] at h_; exact absurd h_.2.2 (by simp)
          replace hNo := hNo.out c3'
          replace c3 := Aside0.mk c3; clear c3' hfz c1
          go_wp2_with (go_at_call 164; refine (role_same _ _).mono ?_; rintro e w' ⟨rfl, rfl⟩)
          go_roundw
          case rel => exact ⟨i + 1, todo, m', by go_num, by omega, hNo, HM, HL, ⟨Kd.Q_alloc HO.out _⟩, ⟨blk_alloc B5.out _⟩, ⟨blk_alloc B4.out _⟩, ⟨below_alloc HB.out _⟩⟩
          case measure => simp [intOf]; omega
        | false =>
         have c3' : ¬ (x.f0 = a ∧ roleB x.f1 = true ∧ mkR m' x.f1 = false) := fun h_ => by rw [c2] at h_; exact absurd h_.2.1 (by simp)
         replace hNo := hNo.out c3'
         clear c3' c1
         go_wp2_with (go_at_call 164; refine (role_same _ _).mono ?_; rintro e w' ⟨rfl, rfl⟩)
         go_roundw
         case rel => exact ⟨i + 1, todo, m', by go_num, by omega, hNo, HM, HL, ⟨Kd.Q_alloc HO.out _⟩, ⟨blk_alloc B5.out _⟩, ⟨blk_alloc B4.out _⟩, ⟨below_alloc HB.out _⟩⟩
         case measure => simp [intOf]; omega
       ·have c1_1 := eqF c1
        replace hNo := hNo.out (fun h_ => c1 h_.1)
        clear c1
        go_wp2
        go_roundw
        case rel => exact ⟨i + 1, todo, m', by go_num, by omega, hNo, HM, HL, ⟨Kd.Q_alloc HO.out _⟩, ⟨blk_alloc B5.out _⟩, ⟨blk_alloc B4.out _⟩, ⟨below_alloc HB.out _⟩⟩
        case measure => simp [intOf]; omega
      ·obtain rfl : i = l0.length := by have := hi.out; omega
       rw [List.take_length] at HF
       have H2 : Aside0 (bfsX l0 k1 todo m' = some r) := ⟨by have h_ := H.out; unfold popX at h_; rw [HF.out] at h_; exact h_⟩
       clear H HF hi
       go_wp2
       go_roundg k1
       case rel => exact ⟨todo, m', H2, ⟨by have := HK1.out; omega⟩, HM, ⟨by have := HL.out; omega⟩, HO, B5, B4, HB⟩
       case measure => omega

/-! ### impl_ArePairs: function 135 -/

open Go.Proofs.YtineejdlpcgnkaaGreatM in
def prsX (l : List S161) (k : Nat) : List S161 → Option Bool
 | [] => some true
 | x :: t => if roleB x.f0 = true then (if roleB x.f1 = true then (bfsX l k [x.f0] (List.replicate 6 false)).bind fun m => (if mkR m x.f0 = true then some false else prsX l k t) else some false) else some false
open Go.Proofs.YtineejdlpcgnkaaGreatM in
theorem bfsX_len (l : List S161) : ∀ (k : Nat) (todo : List Int) (m r : List Bool), m.length = 6 → bfsX l k todo m = some r → r.length = 6 := by
 have hv : ∀ (a : Int) (s : List Bool × List Int) (x : S161), (visX a s x).1.length = s.1.length := by
  intro a s x; unfold visX; split <;> simp
 have hp : ∀ (t : List S161) (a : Int) (s : List Bool × List Int), (t.foldl (visX a) s).1.length = s.1.length := by
  intro t
  induction t with
  | nil => intro a s; rfl
  | cons x t ih => intro a s; rw [List.foldl_cons, ih, hv]
 intro k
 induction k with
 | zero => intro todo m r _ h; cases todo <;> simp [bfsX] at h
 | succ k ih =>
  intro todo m r hm h
  cases todo with
  | nil => simp only [bfsX] at h; obtain rfl := Option.some.inj h; exact hm
  | cons a rest => simp only [bfsX] at h; exact ih _ _ _ (by unfold popX; rw [hp]; exact hm) h
open Go.Proofs.YtineejdlpcgnkaaGreatM in
theorem role_is (a : Int) (b : Bool) (h : roleB a = b) (w : World) : Calls Tryz.prog 164 #[.int .i64 a] w fun e w' => e = .returned (.bool b) ∧ w = w' := h ▸ role_same a w
open Go.Proofs.YtineejdlpcgnkaaGreatM in
theorem agg_index (m : List Bool) (a : Int) (hm : m.length = 6) (ha : roleB a = true) (w : World) : (Instr.index 181 (.agg (m.map Value.bool).toArray) (.int .i64 a)).run Tryz.prog w = .ok (.bool (mkR m a)) w := by
 obtain ⟨b0, b1, b2, b3, b4, b5, rfl⟩ : ∃ b0 b1 b2 b3 b4 b5, m = [b0, b1, b2, b3, b4, b5] := by
  match m, hm with
  | [b0, b1, b2, b3, b4, b5], _ => exact ⟨b0, b1, b2, b3, b4, b5, rfl⟩
 rw [roleB_iff] at ha
 rcases (by omega : a = 0 ∨ a = 1 ∨ a = 2 ∨ a = 3 ∨ a = 4 ∨ a = 5) with rfl | rfl | rfl | rfl | rfl | rfl <;> kernel_rfl
open Go.Proofs.YtineejdlpcgnkaaGreatM in
def impl_ArePairs.f (k : Nat) (l0 : List S161) : Option Bool := (prsX l0 k l0).bind fun b => some (b && decide ((l0.length : Int) ≤ 10))
open Go.Proofs.YtineejdlpcgnkaaGreatM in
set_option maxHeartbeats 8000000 in
set_option maxRecDepth 100000 in
theorem impl_ArePairs.calls (k : Nat) (A0 : Option Addr) (c0 : Nat) (l0 : List S161) (r : Bool) (w : World) (hr0 : Kd.C k161 w A0 l0.length l0) (hc0 : l0.length ≤ c0) (h : impl_ArePairs.f k l0 = some r) :
  Calls Tryz.prog 135 #[.slice A0 l0.length c0] w fun e w' => e = .returned (.bool r) ∧ Below w.heap.size w w' := by
 have HR0 := Aside0.mk hr0
 have HC0 := Aside0.mk hc0
 obtain ⟨b, hb, hr⟩ := Option.bind_eq_some_iff.mp h
 replace hr := Aside0.mk (Option.some.inj hr)
 have H := Aside0.mk hb
 have hmx : l0.length ≤ 9223372036854775807 := HR0.out.2.1
 clear hr0 hc0 h hb
 have HB := Aside0.mk (Below.refl w.heap.size w)
 have hu1_ := Tryz.underlying161
 have hu2_ := Tryz.underlying181
 go_enter Tryz.func135, Tryz.ntmps135
 go_wp2
 go_loopw [7] (fun v7 w' => ∃ i : Nat, v7 = .int .i64 i ∧ i ≤ l0.length ∧ Aside0 (prsX l0 k (l0.drop i) = some b) ∧ Aside0 (Below w.heap.size w w')) (fun v _ => l0.length - (intOf v).toNat)
 case atStart => exact ⟨0, rfl, Nat.zero_le _, by rw [List.drop_zero]; exact H, HB⟩
 case round =>
  clear H HB
  obtain ⟨i, rfl, hi, H, HB⟩ := hrel
  replace hi := Aside0.mk hi
  by_cases hlt : i < l0.length
  ·obtain ⟨x, hx⟩ : ∃ x, l0[i]? = some x := ⟨_, List.getElem?_eq_getElem hlt⟩
   have hrd : rd_T161 l0 (i : Int) = x := by unfold rd_T161; rw [List.getD_eq_getElem?_getD, Int.toNat_natCast, hx]; rfl
   have p0 : (0 : Int) ≤ (i : Int) := by omega
   have p1 : (i : Int) < (l0.length : Int) := by omega
   obtain ⟨ad, e_, hx0, hx1⟩ := at_T161 HR0.out (i : Int) p0 p1
   cases e_
   rw [hrd, Int.toNat_natCast] at hx0 hx1
   have y0 := xC HB ⟨hx0⟩
   have y1 := xC HB ⟨hx1⟩
   have hd : l0.drop i = x :: l0.drop (i + 1) := by
    rw [List.drop_eq_getElem_cons hlt]
    rw [List.getElem?_eq_getElem hlt] at hx
    rw [Option.some.inj hx]
   have H1 := H.out
   rw [hd] at H1
   simp only [prsX] at H1
   replace H1 := Aside0.mk H1
   replace hd := Aside0.mk hd
   replace hx := Aside0.mk hx
   replace hrd := Aside0.mk hrd
   clear hx0 hx1 H
   go_upto_region 4 with (fail)
   have B9 := heap_alloc_new wr (.cells #[.int .i64 x.f0, .int .i64 x.f1] 161)
   have HB9 := Aside0.mk (below_alloc HB.out (.cells #[.int .i64 x.f0, .int .i64 x.f1] 161))
   generalize wr.alloc (.cells #[.int .i64 x.f0, .int .i64 x.f1] 161) = W9 at B9 HB9 ⊢
   generalize wr.heap.size = g9 at B9 ⊢
   have l9 := blk_lt B9
   have c90 : W9.cell? ⟨g9, 0, none⟩ = some (.int .i64 x.f0) := (blk_cell B9 0).trans rfl
   have c91 : W9.cell? ⟨g9, 1, none⟩ = some (.int .i64 x.f1) := (blk_cell B9 1).trans rfl
   clear y0 y1 HB B9
   cases c1 : roleB x.f0 with
   | false =>
    have H2 := H1.out
    rw [c1, if_neg (by simp)] at H2
    obtain rfl := Option.some.inj H2
    clear H1 H2
    refine stA (n := 19) (S := fun w' => w'.cell? ⟨g9, 0, none⟩ = some (.int .i64 x.f0) ∧ w'.cell? ⟨g9, 1, none⟩ = some (.int .i64 x.f1)) (by kernel_rfl) rfl ⟨c90, c91⟩ (by kernel_rfl) (fun hHeld => ?_)
    refine pu 0 (some 11) 1 ?_; refine ld 1 (some 12) 3 hHeld ?_
    refine on 2 (some 13) 7 (fun K hK => ?_)
    refine goes_ Tryz.func164 (by kernel_rfl) rfl #[.int .i64 x.f0] (by rfl) rfl rfl (by (try simp only [List.map_toArray, List.map_cons, List.map_nil]); first | done | rfl) ?_
    with_reducible refine (role_is x.f0 _ c1 _).mono ?_
    rintro e w3 ⟨rfl, rfl⟩
    refine ⟨_, rfl, ?_⟩
    refine hK.out _ _ ⟨hHeld.1, hHeld.2⟩ (fun hHeld => ?_)
    clear hK K
    refine nr 13 ?_; refine pu 3 (some 14) 15 ?_; refine pu 4 (some 15) 31 ?_; refine sk 5 (some 16) 63 ?_; refine sk 6 (some 17) 127 ?_; refine sk 7 (some 18) 255 ?_; refine sk 8 (some 19) 511 ?_; refine pu 9 (some 20) 1023 ?_; refine pu 10 (some 21) 2047 ?_; refine sk 11 (some 22) 4095 ?_; refine sk 12 (some 23) 8191 ?_; refine sk 13 (some 24) 16383 ?_; refine sk 14 (some 25) 32767 ?_; refine sk 15 (some 26) 65535 ?_; refine sk 16 (some 27) 131071 ?_; refine sk 17 (some 28) 262143 ?_; refine pu 18 (some 29) 524287 ?_; refine dn (by kernel_rfl) ?_
    go_wp2; go_ret; exact ⟨by rw [← hr.out]; rfl, below_drew1 HB9.out⟩
   | true =>
    cases c2 : roleB x.f1 with
    | false =>
     have H2 := H1.out
     rw [c1, if_pos rfl, c2, if_neg (by simp)] at H2
     obtain rfl := Option.some.inj H2
     clear H1 H2
     refine stA (n := 19) (S := fun w' => w'.cell? ⟨g9, 0, none⟩ = some (.int .i64 x.f0) ∧ w'.cell? ⟨g9, 1, none⟩ = some (.int .i64 x.f1)) (by kernel_rfl) rfl ⟨c90, c91⟩ (by kernel_rfl) (fun hHeld => ?_)
     refine pu 0 (some 11) 1 ?_; refine ld 1 (some 12) 3 hHeld ?_
     refine on 2 (some 13) 7 (fun K hK => ?_)
     refine goes_ Tryz.func164 (by kernel_rfl) rfl #[.int .i64 x.f0] (by rfl) rfl rfl (by (try simp only [List.map_toArray, List.map_cons, List.map_nil]); first | done | rfl) ?_
     with_reducible refine (role_is x.f0 _ c1 _).mono ?_
     rintro e w3 ⟨rfl, rfl⟩
     refine ⟨_, rfl, ?_⟩
     refine hK.out _ _ ⟨hHeld.1, hHeld.2⟩ (fun hHeld => ?_)
     clear hK K
     refine nr 13 ?_; refine pu 3 (some 14) 15 ?_; refine pu 4 (some 15) 31 ?_; refine pu 5 (some 16) 63 ?_; refine ld 6 (some 17) 127 hHeld ?_
     refine on 7 (some 18) 255 (fun K hK => ?_)
     refine goes_ Tryz.func164 (by kernel_rfl) rfl #[.int .i64 x.f1] (by rfl) rfl rfl (by (try simp only [List.map_toArray, List.map_cons, List.map_nil]); first | done | rfl) ?_
     with_reducible refine (role_is x.f1 _ c2 _).mono ?_
     rintro e w3 ⟨rfl, rfl⟩
     refine ⟨_, rfl, ?_⟩
     refine hK.out _ _ ⟨hHeld.1, hHeld.2⟩ (fun hHeld => ?_)
     clear hK K
     refine nr 18 ?_; refine pu 8 (some 19) 511 ?_; refine pu 9 (some 20) 1023 ?_; refine pu 10 (some 21) 2047 ?_; refine sk 11 (some 22) 4095 ?_; refine sk 12 (some 23) 8191 ?_; refine sk 13 (some 24) 16383 ?_; refine sk 14 (some 25) 32767 ?_; refine sk 15 (some 26) 65535 ?_; refine sk 16 (some 27) 131071 ?_; refine sk 17 (some 28) 262143 ?_; refine pu 18 (some 29) 524287 ?_; refine dn (by kernel_rfl) ?_
     go_wp2; go_ret; exact ⟨by rw [← hr.out]; rfl, below_drew1 HB9.out⟩
    | true =>
     have H2 := H1.out
     rw [c1, if_pos rfl, c2, if_pos rfl] at H2
     obtain ⟨m, hm, H3⟩ := Option.bind_eq_some_iff.mp H2
     have hm6 := bfsX_len _ _ _ _ _ (List.length_replicate ..) hm
     have hix := fun W => agg_index m x.f0 hm6 c1 W
     have hcl := fun (W : World) (hW : Below w.heap.size w W) => below.calls k (some ad) c0 l0 x.f0 m W (Kd.C_below HR0.out hW) HC0.out hm
     replace hm := Aside0.mk hm; replace hm6 := Aside0.mk hm6; replace hcl := Aside0.mk hcl
     clear H1 H2
     generalize (List.map Value.bool m).toArray = ma at hix hcl
     cases c3 : mkR m x.f0 with
     | true =>
      rw [c3, if_pos rfl] at H3
      obtain rfl := Option.some.inj H3
      clear H3
      rw [c3] at hix
      refine stA (n := 19) (S := fun w' => w'.cell? ⟨g9, 0, none⟩ = some (.int .i64 x.f0) ∧ w'.cell? ⟨g9, 1, none⟩ = some (.int .i64 x.f1)) (by kernel_rfl) rfl ⟨c90, c91⟩ (by kernel_rfl) (fun hHeld => ?_)
      refine pu 0 (some 11) 1 ?_; refine ld 1 (some 12) 3 hHeld ?_
      refine on 2 (some 13) 7 (fun K hK => ?_)
      refine goes_ Tryz.func164 (by kernel_rfl) rfl #[.int .i64 x.f0] (by rfl) rfl rfl (by (try simp only [List.map_toArray, List.map_cons, List.map_nil]); first | done | rfl) ?_
      with_reducible refine (role_is x.f0 _ c1 _).mono ?_
      rintro e w3 ⟨rfl, rfl⟩
      refine ⟨_, rfl, ?_⟩
      refine hK.out _ _ ⟨hHeld.1, hHeld.2⟩ (fun hHeld => ?_)
      clear hK K
      refine nr 13 ?_; refine pu 3 (some 14) 15 ?_; refine pu 4 (some 15) 31 ?_; refine pu 5 (some 16) 63 ?_; refine ld 6 (some 17) 127 hHeld ?_
      refine on 7 (some 18) 255 (fun K hK => ?_)
      refine goes_ Tryz.func164 (by kernel_rfl) rfl #[.int .i64 x.f1] (by rfl) rfl rfl (by (try simp only [List.map_toArray, List.map_cons, List.map_nil]); first | done | rfl) ?_
      with_reducible refine (role_is x.f1 _ c2 _).mono ?_
      rintro e w3 ⟨rfl, rfl⟩
      refine ⟨_, rfl, ?_⟩
      refine hK.out _ _ ⟨hHeld.1, hHeld.2⟩ (fun hHeld => ?_)
      clear hK K
      refine nr 18 ?_; refine pu 8 (some 19) 511 ?_; refine pu 9 (some 20) 1023 ?_; refine pu 10 (some 21) 2047 ?_; refine pu 11 (some 22) 4095 ?_; refine pu 12 (some 23) 8191 ?_; refine pu 15 (some 26) 40959 ?_; refine ld 13 (some 24) 49151 hHeld ?_; refine ld 16 (some 27) 114687 hHeld ?_
      refine on 14 (some 25) 131071 (fun K hK => ?_)
      refine goes_ Tryz.func165 (by kernel_rfl) rfl #[.slice (some ad) l0.length c0, .int .i64 x.f0] (by rfl) rfl rfl (by (try simp only [List.map_toArray, List.map_cons, List.map_nil]); first | done | rfl) ?_
      refine (hcl.out _ (below_drew1 HB9.out)).mono ?_
      rintro e w3 ⟨rfl, hbw⟩
      refine ⟨_, rfl, ?_⟩
      have hb3 := Aside0.mk (below_step (below_drew1 HB9.out) hbw)
      refine hK.out _ _ ⟨((hbw.cell (p := ⟨g9, 0, none⟩) l9).trans hHeld.1), ((hbw.cell (p := ⟨g9, 1, none⟩) l9).trans hHeld.2)⟩ (fun hHeld => ?_)
      clear hK K
      refine nr 25 ?_; refine ld 17 (some 28) 262143 hHeld ?_; refine pu 18 (some 29) 524287 ?_; refine dn (by kernel_rfl) ?_
      go_wp2; go_ret; exact ⟨by rw [← hr.out]; rfl, hb3.out⟩
     | false =>
      rw [c3, if_neg (by simp)] at H3
      rw [c3] at hix
      replace H3 := Aside0.mk H3
      refine stA (n := 19) (S := fun w' => w'.cell? ⟨g9, 0, none⟩ = some (.int .i64 x.f0) ∧ w'.cell? ⟨g9, 1, none⟩ = some (.int .i64 x.f1)) (by kernel_rfl) rfl ⟨c90, c91⟩ (by kernel_rfl) (fun hHeld => ?_)
      refine pu 0 (some 11) 1 ?_; refine ld 1 (some 12) 3 hHeld ?_
      refine on 2 (some 13) 7 (fun K hK => ?_)
      refine goes_ Tryz.func164 (by kernel_rfl) rfl #[.int .i64 x.f0] (by rfl) rfl rfl (by (try simp only [List.map_toArray, List.map_cons, List.map_nil]); first | done | rfl) ?_
      with_reducible refine (role_is x.f0 _ c1 _).mono ?_
      rintro e w3 ⟨rfl, rfl⟩
      refine ⟨_, rfl, ?_⟩
      refine hK.out _ _ ⟨hHeld.1, hHeld.2⟩ (fun hHeld => ?_)
      clear hK K
      refine nr 13 ?_; refine pu 3 (some 14) 15 ?_; refine pu 4 (some 15) 31 ?_; refine pu 5 (some 16) 63 ?_; refine ld 6 (some 17) 127 hHeld ?_
      refine on 7 (some 18) 255 (fun K hK => ?_)
      refine goes_ Tryz.func164 (by kernel_rfl) rfl #[.int .i64 x.f1] (by rfl) rfl rfl (by (try simp only [List.map_toArray, List.map_cons, List.map_nil]); first | done | rfl) ?_
      with_reducible refine (role_is x.f1 _ c2 _).mono ?_
      rintro e w3 ⟨rfl, rfl⟩
      refine ⟨_, rfl, ?_⟩
      refine hK.out _ _ ⟨hHeld.1, hHeld.2⟩ (fun hHeld => ?_)
      clear hK K
      refine nr 18 ?_; refine pu 8 (some 19) 511 ?_; refine pu 9 (some 20) 1023 ?_; refine pu 10 (some 21) 2047 ?_; refine pu 11 (some 22) 4095 ?_; refine pu 12 (some 23) 8191 ?_; refine pu 15 (some 26) 40959 ?_; refine ld 13 (some 24) 49151 hHeld ?_; refine ld 16 (some 27) 114687 hHeld ?_
      refine on 14 (some 25) 131071 (fun K hK => ?_)
      refine goes_ Tryz.func165 (by kernel_rfl) rfl #[.slice (some ad) l0.length c0, .int .i64 x.f0] (by rfl) rfl rfl (by (try simp only [List.map_toArray, List.map_cons, List.map_nil]); first | done | rfl) ?_
      refine (hcl.out _ (below_drew1 HB9.out)).mono ?_
      rintro e w3 ⟨rfl, hbw⟩
      refine ⟨_, rfl, ?_⟩
      have hb3 := Aside0.mk (below_step (below_drew1 HB9.out) hbw)
      refine hK.out _ _ ⟨((hbw.cell (p := ⟨g9, 0, none⟩) l9).trans hHeld.1), ((hbw.cell (p := ⟨g9, 1, none⟩) l9).trans hHeld.2)⟩ (fun hHeld => ?_)
      clear hK K
      refine nr 25 ?_; refine ld 17 (some 28) 262143 hHeld ?_; refine pu 18 (some 29) 524287 ?_; refine dn (by kernel_rfl) ?_
      go_wp2
      go_roundw
      case rel => exact ⟨i + 1, by go_num, by omega, H3, hb3⟩
      case measure => simp [intOf]; omega
  ·obtain rfl : i = l0.length := by have := hi.out; omega
   have H2 := H.out
   rw [List.drop_length] at H2
   simp only [prsX] at H2
   obtain rfl := Option.some.inj H2
   replace hr := hr.out
   rw [Bool.true_and] at hr
   clear H H2 hi
   subst hr
   go_wp2
   go_ret
   exact ⟨rfl, HB.out⟩

/-! ### impl_KindOf: function 182 -/
def impl_KindOf.f (a0 : Int) : Option (Int) := (impl_IsName.f a0).bind fun t638 => (if t638 = true then (some (wrap64 (Int.tdiv a0 10))) else (some 0))
open Go.Proofs.YtineejdlpcgnkaaGreatM in
set_option maxHeartbeats 8000000 in
set_option maxRecDepth 100000 in
theorem impl_KindOf.calls (a0 : Int) (r : Int) (w : World) (h : impl_KindOf.f a0 = some r) :
  Calls Tryz.prog 182 #[.int .i64 a0] w fun e w' => e = .returned (.int .i64 r) ∧ Below w.heap.size w w' := by
 have HB := Aside0.mk (Below.refl w.heap.size w)
 have H := h
 clear h
 unfold impl_KindOf.f at H
 go_enter Tryz.func182, Tryz.ntmps182
 replace H := Option.bind_eq_some_iff.mp H
 obtain ⟨t638, hm, H⟩ := H
 try dsimp only at H
 replace H := Aside0.mk H
 have hcall := impl_IsName.calls _ _ w  hm
 clear hm
 go_wp2_with fail
 refine hcall.mono ?_
 rintro e W1 ⟨rfl, hb⟩
 clear hcall
 replace HB := bH HB hb; clear hb
 replace H := H.out
 replace H := ifD H; rcases H with ⟨c2, H⟩ | ⟨c2, H⟩
 ·subst c2
  obtain rfl := Option.some.inj H
  clear H
  go_wp2
  go_ret
  exact ⟨rfl, HB.out⟩
 ·replace c2 := (Bool.not_eq_true _).mp c2
  subst c2
  obtain rfl := Option.some.inj H
  clear H
  go_wp2
  go_ret
  exact ⟨rfl, HB.out⟩

/-! ### impl_HasKind: function 169 -/
def impl_HasKind.f (a0 : Int) (a1 : Int) : Option (Bool) := (impl_IsName.f a0).bind fun t639 => (if t639 = true then ((impl_KindOf.f a0).bind fun t640 => (some (t640 == a1))) else (some false))
open Go.Proofs.YtineejdlpcgnkaaGreatM in
set_option maxHeartbeats 8000000 in
set_option maxRecDepth 100000 in
theorem impl_HasKind.calls (a0 : Int) (a1 : Int) (r : Bool) (w : World) (h : impl_HasKind.f a0 a1 = some r) :
  Calls Tryz.prog 169 #[.int .i64 a0, .int .i64 a1] w fun e w' => e = .returned (.bool r) ∧ Below w.heap.size w w' := by
 have HB := Aside0.mk (Below.refl w.heap.size w)
 have H := h
 clear h
 unfold impl_HasKind.f at H
 go_enter Tryz.func169, Tryz.ntmps169
 replace H := Option.bind_eq_some_iff.mp H
 obtain ⟨t639, hm, H⟩ := H
 try dsimp only at H
 replace H := Aside0.mk H
 have hcall := impl_IsName.calls _ _ w  hm
 clear hm
 go_wp2_with fail
 refine hcall.mono ?_
 rintro e W1 ⟨rfl, hb⟩
 clear hcall
 replace HB := bH HB hb; clear hb
 replace H := H.out
 replace H := ifD H; rcases H with ⟨c2, H⟩ | ⟨c2, H⟩
 ·subst c2
  replace H := Option.bind_eq_some_iff.mp H
  obtain ⟨t640, hm, H⟩ := H
  try dsimp only at H
  replace H := Aside0.mk H
  have hcall := impl_KindOf.calls _ _ W1  hm
  clear hm
  go_wp2_with fail
  refine hcall.mono ?_
  rintro e W3 ⟨rfl, hb⟩
  clear hcall
  replace HB := bH HB hb; clear hb
  replace H := H.out
  obtain rfl := Option.some.inj H
  clear H
  go_wp2
  go_ret
  exact ⟨rfl, HB.out⟩
 ·replace c2 := (Bool.not_eq_true _).mp c2
  subst c2
  obtain rfl := Option.some.inj H
  clear H
  go_wp2
  go_ret
  exact ⟨rfl, HB.out⟩

end Go.Proofs.YtineejdlpcgnkaaGreat.QFnExactIsCenter
