/- The machine side of FnExactIsCenter: what each function that it reaches computes, and that the machine's call gives just that. -/
import Derived.Test.YtineejdlpcgnkaaGreatQFnExactIsCenterx0
import Derived.Test.YtineejdlpcgnkaaGreatQFnExactIsCenterx9
import Derived.Test.YtineejdlpcgnkaaGreatQFnExactIsCenterx11
namespace Go.Proofs.YtineejdlpcgnkaaGreat.QFnExactIsCenter
open Go.RowKit Go.Proofs.YtineejdlpcgnkaaGreatW.PrintWords Go.Proofs.YtineejdlpcgnkaaGreatW.PrintLast Go.Proofs.YtineejdlpcgnkaaGreatW.PrintMore
attribute [local go_sem] max2_int min2_int max_two min_two max_three min_three max_four min_four   -- for this text's walks alone
set_option linter.unusedVariables false
set_option linter.unusedSimpArgs false

/-! ### impl_isNode: function 199 -/
def impl_isNode.f (a0_0 : Int) (a0_1 : Int) (a0_2 : Int) (l0_3 : List (S164)) : Option (Bool) := if a0_0 = 2 then ((impl_InRange.f a0_0 2 5).bind fun t647 => (if t647 = true then ((impl_ArityOf.f a0_0).bind fun t648 => (if (l0_3.length : Int) = t648 then ((impl_InRange.f a0_1 0 5).bind fun t649 => (if t649 = true then ((impl_InRange.f a0_2 0 10000).bind fun t650 => (some t650)) else (some false))) else (some false))) else ((impl_ArityOf.f a0_0).bind fun t651 => (if (l0_3.length : Int) = t651 then ((impl_InRange.f a0_1 0 5).bind fun t652 => (if t652 = true then ((impl_InRange.f a0_2 0 0).bind fun t653 => (some t653)) else (some false))) else (some false))))) else (if a0_0 = 4 then ((impl_InRange.f a0_0 2 5).bind fun t654 => (if t654 = true then ((impl_ArityOf.f a0_0).bind fun t655 => (if (l0_3.length : Int) = t655 then ((impl_InRange.f a0_1 0 3).bind fun t656 => (if t656 = true then ((impl_InRange.f a0_2 0 10000).bind fun t657 => (some t657)) else (some false))) else (some false))) else ((impl_ArityOf.f a0_0).bind fun t658 => (if (l0_3.length : Int) = t658 then ((impl_InRange.f a0_1 0 3).bind fun t659 => (if t659 = true then ((impl_InRange.f a0_2 0 0).bind fun t660 => (some t660)) else (some false))) else (some false))))) else (if a0_0 = 5 then ((impl_InRange.f a0_0 2 5).bind fun t661 => (if t661 = true then ((impl_ArityOf.f a0_0).bind fun t662 => (if (l0_3.length : Int) = t662 then ((impl_InRange.f a0_1 0 3).bind fun t663 => (if t663 = true then ((impl_InRange.f a0_2 0 10000).bind fun t664 => (some t664)) else (some false))) else (some false))) else ((impl_ArityOf.f a0_0).bind fun t665 => (if (l0_3.length : Int) = t665 then ((impl_InRange.f a0_1 0 3).bind fun t666 => (if t666 = true then ((impl_InRange.f a0_2 0 0).bind fun t667 => (some t667)) else (some false))) else (some false))))) else (if a0_0 = 6 then ((impl_InRange.f a0_0 2 5).bind fun t668 => (if t668 = true then ((impl_ArityOf.f a0_0).bind fun t669 => (if (l0_3.length : Int) = t669 then ((impl_InRange.f a0_1 0 10000).bind fun t670 => (if t670 = true then ((impl_InRange.f a0_2 0 10000).bind fun t671 => (some t671)) else (some false))) else (some false))) else ((impl_ArityOf.f a0_0).bind fun t672 => (if (l0_3.length : Int) = t672 then ((impl_InRange.f a0_1 0 10000).bind fun t673 => (if t673 = true then ((impl_InRange.f a0_2 0 0).bind fun t674 => (some t674)) else (some false))) else (some false))))) else ((impl_InRange.f a0_0 2 5).bind fun t675 => (if t675 = true then ((impl_ArityOf.f a0_0).bind fun t676 => (if (l0_3.length : Int) = t676 then ((impl_InRange.f a0_1 0 0).bind fun t677 => (if t677 = true then ((impl_InRange.f a0_2 0 10000).bind fun t678 => (some t678)) else (some false))) else (some false))) else ((impl_ArityOf.f a0_0).bind fun t679 => (if (l0_3.length : Int) = t679 then ((impl_InRange.f a0_1 0 0).bind fun t680 => (if t680 = true then ((impl_InRange.f a0_2 0 0).bind fun t681 => (some t681)) else (some false))) else (some false))))))))
open Go.Proofs.YtineejdlpcgnkaaGreatM in
set_option maxHeartbeats 8000000 in
set_option maxRecDepth 100000 in
theorem impl_isNode.calls (a0_0 : Int) (a0_1 : Int) (a0_2 : Int) (A0_3 : Option Addr) (c0_3 : Nat) (l0_3 : List (S164)) (r : Bool) (w : World) (hr0_3 : Kd.C k164 w A0_3 l0_3.length l0_3) (hc0_3 : l0_3.length ≤ c0_3) (h : impl_isNode.f a0_0 a0_1 a0_2 l0_3 = some r) :
  Calls Tryz.prog 199 #[.agg #[.int .i64 a0_0, .int .i64 a0_1, .int .i64 a0_2, .slice A0_3 l0_3.length c0_3]] w fun e w' => e = .returned (.bool r) ∧ Below w.heap.size w w' := by
 have HR0_3 := Aside0.mk hr0_3
 have HC0_3 := Aside0.mk hc0_3
 clear hr0_3 hc0_3
 have HB := Aside0.mk (Below.refl w.heap.size w)
 have H := h
 clear h
 unfold impl_isNode.f at H
 have hu164 := Tryz.underlying164
 go_enter Tryz.func199, Tryz.ntmps199
 replace H := Aside0.mk H
 go_upto_region 1 with (first | ((with_reducible refine gate_dst (N := 1) rfl ?_); refine box_event ?hg (N := 1) ?hd (cs := #[.int .i64 a0_0, .int .i64 a0_1, .int .i64 a0_2, .slice A0_3 l0_3.length c0_3]) (t := 164) ?hr ?_; (case hd => rfl); (case hg => rfl); (case hr => first | (go_simp; done) | (go_simp; rfl)); intro gb1 hg W1 hbox hb; replace HB := bH HB hb; clear hb; have BK1 := Aside0.mk hbox; have c_BK1 := blk_cell hbox; have z_BK1 := blk_frozen hbox; clear hg hbox))
 replace H := H.out
 replace H := ifD H; rcases H with ⟨c2, H⟩ | ⟨c2, H⟩
 ·have c2_0 := decT c2; have c2_1 := eqT c2; have c2_2 := neT c2
  clear c2
  first | rw [c2_1] | rw [c2_2] | skip
  replace H := Option.bind_eq_some_iff.mp H
  obtain ⟨t647, hm, H⟩ := H
  try dsimp only at H
  replace H := Aside0.mk H
  have hcall := impl_InRange.calls _ _ _ _ W1  hm
  clear hm
  go_wp2_with fail
  refine hcall.mono ?_
  rintro e W3 ⟨rfl, hb⟩
  clear hcall
  replace BK1 := bK BK1 hb; replace c_BK1 := blk_cell BK1.out; replace z_BK1 := blk_frozen BK1.out
  replace HB := bH HB hb; clear hb
  replace H := H.out
  replace H := ifD H; rcases H with ⟨c4, H⟩ | ⟨c4, H⟩
  ·subst c4
   replace H := Aside0.mk H
   try go_wp2
   clear c_BK1 z_BK1; have rBK1 := BK1; replace BK1 := dK BK1
   have HBr := HB; replace HB := dH HB
   refine stA (n := 20) (S := fun w' => Below W3.heap.size W3 w') (by kernel_rfl) rfl (below_drew1 (Below.refl _ W3)) (by kernel_rfl) (fun hHeld => ?_)
   generalize W3.drew = W5 at HB BK1 hHeld ⊢
   replace H := H.out
   replace H := Option.bind_eq_some_iff.mp H
   obtain ⟨t648, hm, H⟩ := H
   try dsimp only at H
   replace hm := Aside0.mk hm
   replace H := Aside0.mk H
   refine pu 0 (some 17) 1 ?_; refine pu 3 (some 20) 9 ?_; refine ld 1 (some 18) 11 hHeld ?_ (hr := by (intro w' h_; have y_ := kD rBK1 h_; go_simp; with_reducible rfl)); refine pu 2 (some 19) 15 ?_; refine ld 4 (some 21) 31 hHeld ?_ (hr := by (intro w' h_; have y_ := kD rBK1 h_; go_simp; with_reducible rfl))
   refine on 5 (some 22) 63 (fun K hK => ?_)
   have hcall := impl_ArityOf.calls _ _ W5  hm.out
   refine goes_ Tryz.func204 (by kernel_rfl) rfl #[.int .i64 a0_0] (by rfl) rfl rfl (by (try simp only [List.map_toArray, List.map_cons, List.map_nil]); first | done | rfl) ?_
   refine hcall.mono ?_
   rintro e W7 ⟨rfl, hb⟩
   refine ⟨_, rfl, ?_⟩
   clear hcall hm
   replace hHeld := below_step hHeld hb
   replace BK1 := bK BK1 hb
   replace HB := bH HB hb; clear hb
   refine hK.out _ _ hHeld (fun hHeld => ?_)
   clear hK K
   refine nr 22 ?_
   replace H := H.out
   replace H := ifD H; rcases H with ⟨c8, H⟩ | ⟨c8, H⟩
   ·have c8_0 := decT c8; have c8_1 := eqT c8; have c8_2 := neT c8
    clear c8
    first | rw [c8_1] | rw [c8_2] | skip
    replace H := Option.bind_eq_some_iff.mp H
    obtain ⟨t649, hm, H⟩ := H
    try dsimp only at H
    replace hm := Aside0.mk hm
    replace H := Aside0.mk H
    refine pu 6 (some 23) 127 ?_; refine pu 7 (some 24) 255 ?_; refine pu 8 (some 25) 511 ?_; refine pu 10 (some 27) 1535 ?_; refine ld 9 (some 26) 2047 hHeld ?_ (hr := by (intro w' h_; have y_ := kD rBK1 h_; go_simp; with_reducible rfl))
    refine on 11 (some 28) 4095 (fun K hK => ?_)
    have hcall := impl_InRange.calls _ _ _ _ W7  hm.out
    refine goes_ Tryz.func67 (by kernel_rfl) rfl #[.int .i64 a0_1, .int .i64 0, .int .i64 5] (by rfl) rfl rfl (by (try simp only [List.map_toArray, List.map_cons, List.map_nil]); first | done | rfl) ?_
    refine hcall.mono ?_
    rintro e W10 ⟨rfl, hb⟩
    refine ⟨_, rfl, ?_⟩
    clear hcall hm
    replace hHeld := below_step hHeld hb
    replace BK1 := bK BK1 hb
    replace HB := bH HB hb; clear hb
    refine hK.out _ _ hHeld (fun hHeld => ?_)
    clear hK K
    refine nr 28 ?_
    replace H := H.out
    replace H := ifD H; rcases H with ⟨c11, H⟩ | ⟨c11, H⟩
    ·subst c11
     replace H := Option.bind_eq_some_iff.mp H
     obtain ⟨t650, hm, H⟩ := H
     try dsimp only at H
     replace hm := Aside0.mk hm
     replace H := Aside0.mk H
     refine pu 12 (some 29) 8191 ?_; refine pu 13 (some 30) 16383 ?_; refine pu 14 (some 31) 32767 ?_; refine pu 16 (some 33) 98303 ?_; refine ld 15 (some 32) 131071 hHeld ?_ (hr := by (intro w' h_; have y_ := kD rBK1 h_; go_simp; with_reducible rfl))
     refine on 17 (some 34) 262143 (fun K hK => ?_)
     have hcall := impl_InRange.calls _ _ _ _ W10  hm.out
     refine goes_ Tryz.func67 (by kernel_rfl) rfl #[.int .i64 a0_2, .int .i64 0, .int .i64 10000] (by rfl) rfl rfl (by (try simp only [List.map_toArray, List.map_cons, List.map_nil]); first | done | rfl) ?_
     refine hcall.mono ?_
     rintro e W13 ⟨rfl, hb⟩
     refine ⟨_, rfl, ?_⟩
     clear hcall hm
     replace hHeld := below_step hHeld hb
     replace BK1 := bK BK1 hb
     replace HB := bH HB hb; clear hb
     refine hK.out _ _ hHeld (fun hHeld => ?_)
     clear hK K
     refine nr 34 ?_
     refine pu 18 (some 35) 524287 ?_; refine pu 19 (some 2) 1048575 ?_
     refine dn (by kernel_rfl) ?_
     clear hHeld HBr rBK1
     have c_BK1 := blk_cell BK1.out; have z_BK1 := blk_frozen BK1.out
     replace H := H.out
     obtain rfl := Option.some.inj H
     clear H
     go_wp2
     go_ret
     exact ⟨rfl, HB.out⟩
    ·replace c11 := (Bool.not_eq_true _).mp c11
     subst c11
     replace H := Aside0.mk H
     refine pu 12 (some 29) 8191 ?_; refine pu 13 (some 30) 16383 ?_; refine sk 14 (some 31) 32767 ?_; refine sk 15 (some 32) 65535 ?_; refine sk 16 (some 33) 131071 ?_; refine sk 17 (some 34) 262143 ?_; refine pu 18 (some 35) 524287 ?_; refine pu 19 (some 2) 1048575 ?_
     refine dn (by kernel_rfl) ?_
     clear hHeld HBr rBK1
     have c_BK1 := blk_cell BK1.out; have z_BK1 := blk_frozen BK1.out
     replace H := H.out
     obtain rfl := Option.some.inj H
     clear H
     go_wp2
     go_ret
     exact ⟨rfl, HB.out⟩
   ·have c8_0 := decF c8; have c8_1 := eqF c8; have c8_2 := neF c8
    clear c8
    first | rw [c8_1] | rw [c8_2] | skip
    replace H := Aside0.mk H
    refine pu 6 (some 23) 127 ?_; refine pu 7 (some 24) 255 ?_; refine sk 8 (some 25) 511 ?_; refine sk 9 (some 26) 1023 ?_; refine sk 10 (some 27) 2047 ?_; refine sk 11 (some 28) 4095 ?_; refine pu 12 (some 29) 8191 ?_; refine pu 13 (some 30) 16383 ?_; refine sk 14 (some 31) 32767 ?_; refine sk 15 (some 32) 65535 ?_; refine sk 16 (some 33) 131071 ?_; refine sk 17 (some 34) 262143 ?_; refine pu 18 (some 35) 524287 ?_; refine pu 19 (some 2) 1048575 ?_
    refine dn (by kernel_rfl) ?_
    clear hHeld HBr rBK1
    have c_BK1 := blk_cell BK1.out; have z_BK1 := blk_frozen BK1.out
    replace H := H.out
    obtain rfl := Option.some.inj H
    clear H
    go_wp2
    go_ret
    exact ⟨rfl, HB.out⟩
  ·replace c4 := (Bool.not_eq_true _).mp c4
   subst c4
   replace H := Aside0.mk H
   try go_wp2
   clear c_BK1 z_BK1; have rBK1 := BK1; replace BK1 := dK BK1
   have HBr := HB; replace HB := dH HB
   refine stA (n := 20) (S := fun w' => Below W3.heap.size W3 w') (by kernel_rfl) rfl (below_drew1 (Below.refl _ W3)) (by kernel_rfl) (fun hHeld => ?_)
   generalize W3.drew = W14 at HB BK1 hHeld ⊢
   replace H := H.out
   replace H := Option.bind_eq_some_iff.mp H
   obtain ⟨t651, hm, H⟩ := H
   try dsimp only at H
   replace hm := Aside0.mk hm
   replace H := Aside0.mk H
   refine pu 0 (some 17) 1 ?_; refine pu 3 (some 20) 9 ?_; refine ld 1 (some 18) 11 hHeld ?_ (hr := by (intro w' h_; have y_ := kD rBK1 h_; go_simp; with_reducible rfl)); refine pu 2 (some 19) 15 ?_; refine ld 4 (some 21) 31 hHeld ?_ (hr := by (intro w' h_; have y_ := kD rBK1 h_; go_simp; with_reducible rfl))
   refine on 5 (some 22) 63 (fun K hK => ?_)
   have hcall := impl_ArityOf.calls _ _ W14  hm.out
   refine goes_ Tryz.func204 (by kernel_rfl) rfl #[.int .i64 a0_0] (by rfl) rfl rfl (by (try simp only [List.map_toArray, List.map_cons, List.map_nil]); first | done | rfl) ?_
   refine hcall.mono ?_
   rintro e W16 ⟨rfl, hb⟩
   refine ⟨_, rfl, ?_⟩
   clear hcall hm
   replace hHeld := below_step hHeld hb
   replace BK1 := bK BK1 hb
   replace HB := bH HB hb; clear hb
   refine hK.out _ _ hHeld (fun hHeld => ?_)
   clear hK K
   refine nr 22 ?_
   replace H := H.out
   replace H := ifD H; rcases H with ⟨c17, H⟩ | ⟨c17, H⟩
   ·have c17_0 := decT c17; have c17_1 := eqT c17; have c17_2 := neT c17
    clear c17
    first | rw [c17_1] | rw [c17_2] | skip
    replace H := Option.bind_eq_some_iff.mp H
    obtain ⟨t652, hm, H⟩ := H
    try dsimp only at H
    replace hm := Aside0.mk hm
    replace H := Aside0.mk H
    refine pu 6 (some 23) 127 ?_; refine pu 7 (some 24) 255 ?_; refine pu 8 (some 25) 511 ?_; refine pu 10 (some 27) 1535 ?_; refine ld 9 (some 26) 2047 hHeld ?_ (hr := by (intro w' h_; have y_ := kD rBK1 h_; go_simp; with_reducible rfl))
    refine on 11 (some 28) 4095 (fun K hK => ?_)
    have hcall := impl_InRange.calls _ _ _ _ W16  hm.out
    refine goes_ Tryz.func67 (by kernel_rfl) rfl #[.int .i64 a0_1, .int .i64 0, .int .i64 5] (by rfl) rfl rfl (by (try simp only [List.map_toArray, List.map_cons, List.map_nil]); first | done | rfl) ?_
    refine hcall.mono ?_
    rintro e W19 ⟨rfl, hb⟩
    refine ⟨_, rfl, ?_⟩
    clear hcall hm
    replace hHeld := below_step hHeld hb
    replace BK1 := bK BK1 hb
    replace HB := bH HB hb; clear hb
    refine hK.out _ _ hHeld (fun hHeld => ?_)
    clear hK K
    refine nr 28 ?_
    replace H := H.out
    replace H := ifD H; rcases H with ⟨c20, H⟩ | ⟨c20, H⟩
    ·subst c20
     replace H := Option.bind_eq_some_iff.mp H
     obtain ⟨t653, hm, H⟩ := H
     try dsimp only at H
     replace hm := Aside0.mk hm
     replace H := Aside0.mk H
     refine pu 12 (some 29) 8191 ?_; refine pu 13 (some 30) 16383 ?_; refine pu 14 (some 31) 32767 ?_; refine pu 16 (some 33) 98303 ?_; refine ld 15 (some 32) 131071 hHeld ?_ (hr := by (intro w' h_; have y_ := kD rBK1 h_; go_simp; with_reducible rfl))
     refine on 17 (some 34) 262143 (fun K hK => ?_)
     have hcall := impl_InRange.calls _ _ _ _ W19  hm.out
     refine goes_ Tryz.func67 (by kernel_rfl) rfl #[.int .i64 a0_2, .int .i64 0, .int .i64 0] (by rfl) rfl rfl (by (try simp only [List.map_toArray, List.map_cons, List.map_nil]); first | done | rfl) ?_
     refine hcall.mono ?_
     rintro e W22 ⟨rfl, hb⟩
     refine ⟨_, rfl, ?_⟩
     clear hcall hm
     replace hHeld := below_step hHeld hb
     replace BK1 := bK BK1 hb
     replace HB := bH HB hb; clear hb
     refine hK.out _ _ hHeld (fun hHeld => ?_)
     clear hK K
     refine nr 34 ?_
     refine pu 18 (some 35) 524287 ?_; refine pu 19 (some 2) 1048575 ?_
     refine dn (by kernel_rfl) ?_
     clear hHeld HBr rBK1
     have c_BK1 := blk_cell BK1.out; have z_BK1 := blk_frozen BK1.out
     replace H := H.out
     obtain rfl := Option.some.inj H
     clear H
     go_wp2
     go_ret
     exact ⟨rfl, HB.out⟩
    ·replace c20 := (Bool.not_eq_true _).mp c20
     subst c20
     replace H := Aside0.mk H
     refine pu 12 (some 29) 8191 ?_; refine pu 13 (some 30) 16383 ?_; refine sk 14 (some 31) 32767 ?_; refine sk 15 (some 32) 65535 ?_; refine sk 16 (some 33) 131071 ?_; refine sk 17 (some 34) 262143 ?_; refine pu 18 (some 35) 524287 ?_; refine pu 19 (some 2) 1048575 ?_
     refine dn (by kernel_rfl) ?_
     clear hHeld HBr rBK1
     have c_BK1 := blk_cell BK1.out; have z_BK1 := blk_frozen BK1.out
     replace H := H.out
     obtain rfl := Option.some.inj H
     clear H
     go_wp2
     go_ret
     exact ⟨rfl, HB.out⟩
   ·have c17_0 := decF c17; have c17_1 := eqF c17; have c17_2 := neF c17
    clear c17
    first | rw [c17_1] | rw [c17_2] | skip
    replace H := Aside0.mk H
    refine pu 6 (some 23) 127 ?_; refine pu 7 (some 24) 255 ?_; refine sk 8 (some 25) 511 ?_; refine sk 9 (some 26) 1023 ?_; refine sk 10 (some 27) 2047 ?_; refine sk 11 (some 28) 4095 ?_; refine pu 12 (some 29) 8191 ?_; refine pu 13 (some 30) 16383 ?_; refine sk 14 (some 31) 32767 ?_; refine sk 15 (some 32) 65535 ?_; refine sk 16 (some 33) 131071 ?_; refine sk 17 (some 34) 262143 ?_; refine pu 18 (some 35) 524287 ?_; refine pu 19 (some 2) 1048575 ?_
    refine dn (by kernel_rfl) ?_
    clear hHeld HBr rBK1
    have c_BK1 := blk_cell BK1.out; have z_BK1 := blk_frozen BK1.out
    replace H := H.out
    obtain rfl := Option.some.inj H
    clear H
    go_wp2
    go_ret
    exact ⟨rfl, HB.out⟩
 ·have c2_0 := decF c2; have c2_1 := eqF c2; have c2_2 := neF c2
  clear c2
  first | rw [c2_1] | rw [c2_2] | skip
  replace H := ifD H; rcases H with ⟨c23, H⟩ | ⟨c23, H⟩
  ·have c23_0 := decT c23; have c23_1 := eqT c23; have c23_2 := neT c23
   clear c23
   first | rw [c23_1] | rw [c23_2] | skip
   replace H := Option.bind_eq_some_iff.mp H
   obtain ⟨t654, hm, H⟩ := H
   try dsimp only at H
   replace H := Aside0.mk H
   have hcall := impl_InRange.calls _ _ _ _ W1  hm
   clear hm
   go_wp2_with fail
   refine hcall.mono ?_
   rintro e W24 ⟨rfl, hb⟩
   clear hcall
   replace BK1 := bK BK1 hb; replace c_BK1 := blk_cell BK1.out; replace z_BK1 := blk_frozen BK1.out
   replace HB := bH HB hb; clear hb
   replace H := H.out
   replace H := ifD H; rcases H with ⟨c25, H⟩ | ⟨c25, H⟩
   ·subst c25
    replace H := Aside0.mk H
    try go_wp2
    clear c_BK1 z_BK1; have rBK1 := BK1; replace BK1 := dK BK1
    have HBr := HB; replace HB := dH HB
    refine stA (n := 20) (S := fun w' => Below W24.heap.size W24 w') (by kernel_rfl) rfl (below_drew1 (Below.refl _ W24)) (by kernel_rfl) (fun hHeld => ?_)
    generalize W24.drew = W26 at HB BK1 hHeld ⊢
    replace H := H.out
    replace H := Option.bind_eq_some_iff.mp H
    obtain ⟨t655, hm, H⟩ := H
    try dsimp only at H
    replace hm := Aside0.mk hm
    replace H := Aside0.mk H
    refine pu 0 (some 17) 1 ?_; refine pu 3 (some 20) 9 ?_; refine ld 1 (some 18) 11 hHeld ?_ (hr := by (intro w' h_; have y_ := kD rBK1 h_; go_simp; with_reducible rfl)); refine pu 2 (some 19) 15 ?_; refine ld 4 (some 21) 31 hHeld ?_ (hr := by (intro w' h_; have y_ := kD rBK1 h_; go_simp; with_reducible rfl))
    refine on 5 (some 22) 63 (fun K hK => ?_)
    have hcall := impl_ArityOf.calls _ _ W26  hm.out
    refine goes_ Tryz.func204 (by kernel_rfl) rfl #[.int .i64 a0_0] (by rfl) rfl rfl (by (try simp only [List.map_toArray, List.map_cons, List.map_nil]); first | done | rfl) ?_
    refine hcall.mono ?_
    rintro e W28 ⟨rfl, hb⟩
    refine ⟨_, rfl, ?_⟩
    clear hcall hm
    replace hHeld := below_step hHeld hb
    replace BK1 := bK BK1 hb
    replace HB := bH HB hb; clear hb
    refine hK.out _ _ hHeld (fun hHeld => ?_)
    clear hK K
    refine nr 22 ?_
    replace H := H.out
    replace H := ifD H; rcases H with ⟨c29, H⟩ | ⟨c29, H⟩
    ·have c29_0 := decT c29; have c29_1 := eqT c29; have c29_2 := neT c29
     clear c29
     first | rw [c29_1] | rw [c29_2] | skip
     replace H := Option.bind_eq_some_iff.mp H
     obtain ⟨t656, hm, H⟩ := H
     try dsimp only at H
     replace hm := Aside0.mk hm
     replace H := Aside0.mk H
     refine pu 6 (some 23) 127 ?_; refine pu 7 (some 24) 255 ?_; refine pu 8 (some 25) 511 ?_; refine pu 10 (some 27) 1535 ?_; refine ld 9 (some 26) 2047 hHeld ?_ (hr := by (intro w' h_; have y_ := kD rBK1 h_; go_simp; with_reducible rfl))
     refine on 11 (some 28) 4095 (fun K hK => ?_)
     have hcall := impl_InRange.calls _ _ _ _ W28  hm.out
     refine goes_ Tryz.func67 (by kernel_rfl) rfl #[.int .i64 a0_1, .int .i64 0, .int .i64 3] (by rfl) rfl rfl (by (try simp only [List.map_toArray, List.map_cons, List.map_nil]); first | done | rfl) ?_
     refine hcall.mono ?_
     rintro e W31 ⟨rfl, hb⟩
     refine ⟨_, rfl, ?_⟩
     clear hcall hm
     replace hHeld := below_step hHeld hb
     replace BK1 := bK BK1 hb
     replace HB := bH HB hb; clear hb
     refine hK.out _ _ hHeld (fun hHeld => ?_)
     clear hK K
     refine nr 28 ?_
     replace H := H.out
     replace H := ifD H; rcases H with ⟨c32, H⟩ | ⟨c32, H⟩
     ·subst c32
      replace H := Option.bind_eq_some_iff.mp H
      obtain ⟨t657, hm, H⟩ := H
      try dsimp only at H
      replace hm := Aside0.mk hm
      replace H := Aside0.mk H
      refine pu 12 (some 29) 8191 ?_; refine pu 13 (some 30) 16383 ?_; refine pu 14 (some 31) 32767 ?_; refine pu 16 (some 33) 98303 ?_; refine ld 15 (some 32) 131071 hHeld ?_ (hr := by (intro w' h_; have y_ := kD rBK1 h_; go_simp; with_reducible rfl))
      refine on 17 (some 34) 262143 (fun K hK => ?_)
      have hcall := impl_InRange.calls _ _ _ _ W31  hm.out
      refine goes_ Tryz.func67 (by kernel_rfl) rfl #[.int .i64 a0_2, .int .i64 0, .int .i64 10000] (by rfl) rfl rfl (by (try simp only [List.map_toArray, List.map_cons, List.map_nil]); first | done | rfl) ?_
      refine hcall.mono ?_
      rintro e W34 ⟨rfl, hb⟩
      refine ⟨_, rfl, ?_⟩
      clear hcall hm
      replace hHeld := below_step hHeld hb
      replace BK1 := bK BK1 hb
      replace HB := bH HB hb; clear hb
      refine hK.out _ _ hHeld (fun hHeld => ?_)
      clear hK K
      refine nr 34 ?_
      refine pu 18 (some 35) 524287 ?_; refine pu 19 (some 2) 1048575 ?_
      refine dn (by kernel_rfl) ?_
      clear hHeld HBr rBK1
      have c_BK1 := blk_cell BK1.out; have z_BK1 := blk_frozen BK1.out
      replace H := H.out
      obtain rfl := Option.some.inj H
      clear H
      go_wp2
      go_ret
      exact ⟨rfl, HB.out⟩
     ·replace c32 := (Bool.not_eq_true _).mp c32
      subst c32
      replace H := Aside0.mk H
      refine pu 12 (some 29) 8191 ?_; refine pu 13 (some 30) 16383 ?_; refine sk 14 (some 31) 32767 ?_; refine sk 15 (some 32) 65535 ?_; refine sk 16 (some 33) 131071 ?_; refine sk 17 (some 34) 262143 ?_; refine pu 18 (some 35) 524287 ?_; refine pu 19 (some 2) 1048575 ?_
      refine dn (by kernel_rfl) ?_
      clear hHeld HBr rBK1
      have c_BK1 := blk_cell BK1.out; have z_BK1 := blk_frozen BK1.out
      replace H := H.out
      obtain rfl := Option.some.inj H
      clear H
      go_wp2
      go_ret
      exact ⟨rfl, HB.out⟩
    ·have c29_0 := decF c29; have c29_1 := eqF c29; have c29_2 := neF c29
     clear c29
     first | rw [c29_1] | rw [c29_2] | skip
     replace H := Aside0.mk H
     refine pu 6 (some 23) 127 ?_; refine pu 7 (some 24) 255 ?_; refine sk 8 (some 25) 511 ?_; refine sk 9 (some 26) 1023 ?_; refine sk 10 (some 27) 2047 ?_; refine sk 11 (some 28) 4095 ?_; refine pu 12 (some 29) 8191 ?_; refine pu 13 (some 30) 16383 ?_; refine sk 14 (some 31) 32767 ?_; refine sk 15 (some 32) 65535 ?_; refine sk 16 (some 33) 131071 ?_; refine sk 17 (some 34) 262143 ?_; refine pu 18 (some 35) 524287 ?_; refine pu 19 (some 2) 1048575 ?_
     refine dn (by kernel_rfl) ?_
     clear hHeld HBr rBK1
     have c_BK1 := blk_cell BK1.out; have z_BK1 := blk_frozen BK1.out
     replace H := H.out
     obtain rfl := Option.some.inj H
     clear H
     go_wp2
     go_ret
     exact ⟨rfl, HB.out⟩
   ·replace c25 := (Bool.not_eq_true _).mp c25
    subst c25
    replace H := Aside0.mk H
    try go_wp2
    clear c_BK1 z_BK1; have rBK1 := BK1; replace BK1 := dK BK1
    have HBr := HB; replace HB := dH HB
    refine stA (n := 20) (S := fun w' => Below W24.heap.size W24 w') (by kernel_rfl) rfl (below_drew1 (Below.refl _ W24)) (by kernel_rfl) (fun hHeld => ?_)
    generalize W24.drew = W35 at HB BK1 hHeld ⊢
    replace H := H.out
    replace H := Option.bind_eq_some_iff.mp H
    obtain ⟨t658, hm, H⟩ := H
    try dsimp only at H
    replace hm := Aside0.mk hm
    replace H := Aside0.mk H
    refine pu 0 (some 17) 1 ?_; refine pu 3 (some 20) 9 ?_; refine ld 1 (some 18) 11 hHeld ?_ (hr := by (intro w' h_; have y_ := kD rBK1 h_; go_simp; with_reducible rfl)); refine pu 2 (some 19) 15 ?_; refine ld 4 (some 21) 31 hHeld ?_ (hr := by (intro w' h_; have y_ := kD rBK1 h_; go_simp; with_reducible rfl))
    refine on 5 (some 22) 63 (fun K hK => ?_)
    have hcall := impl_ArityOf.calls _ _ W35  hm.out
    refine goes_ Tryz.func204 (by kernel_rfl) rfl #[.int .i64 a0_0] (by rfl) rfl rfl (by (try simp only [List.map_toArray, List.map_cons, List.map_nil]); first | done | rfl) ?_
    refine hcall.mono ?_
    rintro e W37 ⟨rfl, hb⟩
    refine ⟨_, rfl, ?_⟩
    clear hcall hm
    replace hHeld := below_step hHeld hb
    replace BK1 := bK BK1 hb
    replace HB := bH HB hb; clear hb
    refine hK.out _ _ hHeld (fun hHeld => ?_)
    clear hK K
    refine nr 22 ?_
    replace H := H.out
    replace H := ifD H; rcases H with ⟨c38, H⟩ | ⟨c38, H⟩
    ·have c38_0 := decT c38; have c38_1 := eqT c38; have c38_2 := neT c38
     clear c38
     first | rw [c38_1] | rw [c38_2] | skip
     replace H := Option.bind_eq_some_iff.mp H
     obtain ⟨t659, hm, H⟩ := H
     try dsimp only at H
     replace hm := Aside0.mk hm
     replace H := Aside0.mk H
     refine pu 6 (some 23) 127 ?_; refine pu 7 (some 24) 255 ?_; refine pu 8 (some 25) 511 ?_; refine pu 10 (some 27) 1535 ?_; refine ld 9 (some 26) 2047 hHeld ?_ (hr := by (intro w' h_; have y_ := kD rBK1 h_; go_simp; with_reducible rfl))
     refine on 11 (some 28) 4095 (fun K hK => ?_)
     have hcall := impl_InRange.calls _ _ _ _ W37  hm.out
     refine goes_ Tryz.func67 (by kernel_rfl) rfl #[.int .i64 a0_1, .int .i64 0, .int .i64 3] (by rfl) rfl rfl (by (try simp only [List.map_toArray, List.map_cons, List.map_nil]); first | done | rfl) ?_
     refine hcall.mono ?_
     rintro e W40 ⟨rfl, hb⟩
     refine ⟨_, rfl, ?_⟩
     clear hcall hm
     replace hHeld := below_step hHeld hb
     replace BK1 := bK BK1 hb
     replace HB := bH HB hb; clear hb
     refine hK.out _ _ hHeld (fun hHeld => ?_)
     clear hK K
     refine nr 28 ?_
     replace H := H.out
     replace H := ifD H; rcases H with ⟨c41, H⟩ | ⟨c41, H⟩
     ·subst c41
      replace H := Option.bind_eq_some_iff.mp H
      obtain ⟨t660, hm, H⟩ := H
      try dsimp only at H
      replace hm := Aside0.mk hm
      replace H := Aside0.mk H
      refine pu 12 (some 29) 8191 ?_; refine pu 13 (some 30) 16383 ?_; refine pu 14 (some 31) 32767 ?_; refine pu 16 (some 33) 98303 ?_; refine ld 15 (some 32) 131071 hHeld ?_ (hr := by (intro w' h_; have y_ := kD rBK1 h_; go_simp; with_reducible rfl))
      refine on 17 (some 34) 262143 (fun K hK => ?_)
      have hcall := impl_InRange.calls _ _ _ _ W40  hm.out
      refine goes_ Tryz.func67 (by kernel_rfl) rfl #[.int .i64 a0_2, .int .i64 0, .int .i64 0] (by rfl) rfl rfl (by (try simp only [List.map_toArray, List.map_cons, List.map_nil]); first | done | rfl) ?_
      refine hcall.mono ?_
      rintro e W43 ⟨rfl, hb⟩
      refine ⟨_, rfl, ?_⟩
      clear hcall hm
      replace hHeld := below_step hHeld hb
      replace BK1 := bK BK1 hb
      replace HB := bH HB hb; clear hb
      refine hK.out _ _ hHeld (fun hHeld => ?_)
      clear hK K
      refine nr 34 ?_
      refine pu 18 (some 35) 524287 ?_; refine pu 19 (some 2) 1048575 ?_
      refine dn (by kernel_rfl) ?_
      clear hHeld HBr rBK1
      have c_BK1 := blk_cell BK1.out; have z_BK1 := blk_frozen BK1.out
      replace H := H.out
      obtain rfl := Option.some.inj H
      clear H
      go_wp2
      go_ret
      exact ⟨rfl, HB.out⟩
     ·replace c41 := (Bool.not_eq_true _).mp c41
      subst c41
      replace H := Aside0.mk H
      refine pu 12 (some 29) 8191 ?_; refine pu 13 (some 30) 16383 ?_; refine sk 14 (some 31) 32767 ?_; refine sk 15 (some 32) 65535 ?_; refine sk 16 (some 33) 131071 ?_; refine sk 17 (some 34) 262143 ?_; refine pu 18 (some 35) 524287 ?_; refine pu 19 (some 2) 1048575 ?_
      refine dn (by kernel_rfl) ?_
      clear hHeld HBr rBK1
      have c_BK1 := blk_cell BK1.out; have z_BK1 := blk_frozen BK1.out
      replace H := H.out
      obtain rfl := Option.some.inj H
      clear H
      go_wp2
      go_ret
      exact ⟨rfl, HB.out⟩
    ·have c38_0 := decF c38; have c38_1 := eqF c38; have c38_2 := neF c38
     clear c38
     first | rw [c38_1] | rw [c38_2] | skip
     replace H := Aside0.mk H
     refine pu 6 (some 23) 127 ?_; refine pu 7 (some 24) 255 ?_; refine sk 8 (some 25) 511 ?_; refine sk 9 (some 26) 1023 ?_; refine sk 10 (some 27) 2047 ?_; refine sk 11 (some 28) 4095 ?_; refine pu 12 (some 29) 8191 ?_; refine pu 13 (some 30) 16383 ?_; refine sk 14 (some 31) 32767 ?_; refine sk 15 (some 32) 65535 ?_; refine sk 16 (some 33) 131071 ?_; refine sk 17 (some 34) 262143 ?_; refine pu 18 (some 35) 524287 ?_; refine pu 19 (some 2) 1048575 ?_
     refine dn (by kernel_rfl) ?_
     clear hHeld HBr rBK1
     have c_BK1 := blk_cell BK1.out; have z_BK1 := blk_frozen BK1.out
     replace H := H.out
     obtain rfl := Option.some.inj H
     clear H
     go_wp2
     go_ret
     exact ⟨rfl, HB.out⟩
  ·have c23_0 := decF c23; have c23_1 := eqF c23; have c23_2 := neF c23
   clear c23
   first | rw [c23_1] | rw [c23_2] | skip
   replace H := ifD H; rcases H with ⟨c44, H⟩ | ⟨c44, H⟩
   ·have c44_0 := decT c44; have c44_1 := eqT c44; have c44_2 := neT c44
    clear c44
    first | rw [c44_1] | rw [c44_2] | skip
    replace H := Option.bind_eq_some_iff.mp H
    obtain ⟨t661, hm, H⟩ := H
    try dsimp only at H
    replace H := Aside0.mk H
    have hcall := impl_InRange.calls _ _ _ _ W1  hm
    clear hm
    go_wp2_with fail
    refine hcall.mono ?_
    rintro e W45 ⟨rfl, hb⟩
    clear hcall
    replace BK1 := bK BK1 hb; replace c_BK1 := blk_cell BK1.out; replace z_BK1 := blk_frozen BK1.out
    replace HB := bH HB hb; clear hb
    replace H := H.out
    replace H := ifD H; rcases H with ⟨c46, H⟩ | ⟨c46, H⟩
    ·subst c46
     replace H := Aside0.mk H
     try go_wp2
     clear c_BK1 z_BK1; have rBK1 := BK1; replace BK1 := dK BK1
     have HBr := HB; replace HB := dH HB
     refine stA (n := 20) (S := fun w' => Below W45.heap.size W45 w') (by kernel_rfl) rfl (below_drew1 (Below.refl _ W45)) (by kernel_rfl) (fun hHeld => ?_)
     generalize W45.drew = W47 at HB BK1 hHeld ⊢
     replace H := H.out
     replace H := Option.bind_eq_some_iff.mp H
     obtain ⟨t662, hm, H⟩ := H
     try dsimp only at H
     replace hm := Aside0.mk hm
     replace H := Aside0.mk H
     refine pu 0 (some 17) 1 ?_; refine pu 3 (some 20) 9 ?_; refine ld 1 (some 18) 11 hHeld ?_ (hr := by (intro w' h_; have y_ := kD rBK1 h_; go_simp; with_reducible rfl)); refine pu 2 (some 19) 15 ?_; refine ld 4 (some 21) 31 hHeld ?_ (hr := by (intro w' h_; have y_ := kD rBK1 h_; go_simp; with_reducible rfl))
     refine on 5 (some 22) 63 (fun K hK => ?_)
     have hcall := impl_ArityOf.calls _ _ W47  hm.out
     refine goes_ Tryz.func204 (by kernel_rfl) rfl #[.int .i64 a0_0] (by rfl) rfl rfl (by (try simp only [List.map_toArray, List.map_cons, List.map_nil]); first | done | rfl) ?_
     refine hcall.mono ?_
     rintro e W49 ⟨rfl, hb⟩
     refine ⟨_, rfl, ?_⟩
     clear hcall hm
     replace hHeld := below_step hHeld hb
     replace BK1 := bK BK1 hb
     replace HB := bH HB hb; clear hb
     refine hK.out _ _ hHeld (fun hHeld => ?_)
     clear hK K
     refine nr 22 ?_
     replace H := H.out
     replace H := ifD H; rcases H with ⟨c50, H⟩ | ⟨c50, H⟩
     ·have c50_0 := decT c50; have c50_1 := eqT c50; have c50_2 := neT c50
      clear c50
      first | rw [c50_1] | rw [c50_2] | skip
      replace H := Option.bind_eq_some_iff.mp H
      obtain ⟨t663, hm, H⟩ := H
      try dsimp only at H
      replace hm := Aside0.mk hm
      replace H := Aside0.mk H
      refine pu 6 (some 23) 127 ?_; refine pu 7 (some 24) 255 ?_; refine pu 8 (some 25) 511 ?_; refine pu 10 (some 27) 1535 ?_; refine ld 9 (some 26) 2047 hHeld ?_ (hr := by (intro w' h_; have y_ := kD rBK1 h_; go_simp; with_reducible rfl))
      refine on 11 (some 28) 4095 (fun K hK => ?_)
      have hcall := impl_InRange.calls _ _ _ _ W49  hm.out
      refine goes_ Tryz.func67 (by kernel_rfl) rfl #[.int .i64 a0_1, .int .i64 0, .int .i64 3] (by rfl) rfl rfl (by (try simp only [List.map_toArray, List.map_cons, List.map_nil]); first | done | rfl) ?_
      refine hcall.mono ?_
      rintro e W52 ⟨rfl, hb⟩
      refine ⟨_, rfl, ?_⟩
      clear hcall hm
      replace hHeld := below_step hHeld hb
      replace BK1 := bK BK1 hb
      replace HB := bH HB hb; clear hb
      refine hK.out _ _ hHeld (fun hHeld => ?_)
      clear hK K
      refine nr 28 ?_
      replace H := H.out
      replace H := ifD H; rcases H with ⟨c53, H⟩ | ⟨c53, H⟩
      ·subst c53
       replace H := Option.bind_eq_some_iff.mp H
       obtain ⟨t664, hm, H⟩ := H
       try dsimp only at H
       replace hm := Aside0.mk hm
       replace H := Aside0.mk H
       refine pu 12 (some 29) 8191 ?_; refine pu 13 (some 30) 16383 ?_; refine pu 14 (some 31) 32767 ?_; refine pu 16 (some 33) 98303 ?_; refine ld 15 (some 32) 131071 hHeld ?_ (hr := by (intro w' h_; have y_ := kD rBK1 h_; go_simp; with_reducible rfl))
       refine on 17 (some 34) 262143 (fun K hK => ?_)
       have hcall := impl_InRange.calls _ _ _ _ W52  hm.out
       refine goes_ Tryz.func67 (by kernel_rfl) rfl #[.int .i64 a0_2, .int .i64 0, .int .i64 10000] (by rfl) rfl rfl (by (try simp only [List.map_toArray, List.map_cons, List.map_nil]); first | done | rfl) ?_
       refine hcall.mono ?_
       rintro e W55 ⟨rfl, hb⟩
       refine ⟨_, rfl, ?_⟩
       clear hcall hm
       replace hHeld := below_step hHeld hb
       replace BK1 := bK BK1 hb
       replace HB := bH HB hb; clear hb
       refine hK.out _ _ hHeld (fun hHeld => ?_)
       clear hK K
       refine nr 34 ?_
       refine pu 18 (some 35) 524287 ?_; refine pu 19 (some 2) 1048575 ?_
       refine dn (by kernel_rfl) ?_
       clear hHeld HBr rBK1
       have c_BK1 := blk_cell BK1.out; have z_BK1 := blk_frozen BK1.out
       replace H := H.out
       obtain rfl := Option.some.inj H
       clear H
       go_wp2
       go_ret
       exact ⟨rfl, HB.out⟩
      ·replace c53 := (Bool.not_eq_true _).mp c53
       subst c53
       replace H := Aside0.mk H
       refine pu 12 (some 29) 8191 ?_; refine pu 13 (some 30) 16383 ?_; refine sk 14 (some 31) 32767 ?_; refine sk 15 (some 32) 65535 ?_; refine sk 16 (some 33) 131071 ?_; refine sk 17 (some 34) 262143 ?_; refine pu 18 (some 35) 524287 ?_; refine pu 19 (some 2) 1048575 ?_
       refine dn (by kernel_rfl) ?_
       clear hHeld HBr rBK1
       have c_BK1 := blk_cell BK1.out; have z_BK1 := blk_frozen BK1.out
       replace H := H.out
       obtain rfl := Option.some.inj H
       clear H
       go_wp2
       go_ret
       exact ⟨rfl, HB.out⟩
     ·have c50_0 := decF c50; have c50_1 := eqF c50; have c50_2 := neF c50
      clear c50
      first | rw [c50_1] | rw [c50_2] | skip
      replace H := Aside0.mk H
      refine pu 6 (some 23) 127 ?_; refine pu 7 (some 24) 255 ?_; refine sk 8 (some 25) 511 ?_; refine sk 9 (some 26) 1023 ?_; refine sk 10 (some 27) 2047 ?_; refine sk 11 (some 28) 4095 ?_; refine pu 12 (some 29) 8191 ?_; refine pu 13 (some 30) 16383 ?_; refine sk 14 (some 31) 32767 ?_; refine sk 15 (some 32) 65535 ?_; refine sk 16 (some 33) 131071 ?_; refine sk 17 (some 34) 262143 ?_; refine pu 18 (some 35) 524287 ?_; refine pu 19 (some 2) 1048575 ?_
      refine dn (by kernel_rfl) ?_
      clear hHeld HBr rBK1
      have c_BK1 := blk_cell BK1.out; have z_BK1 := blk_frozen BK1.out
      replace H := H.out
      obtain rfl := Option.some.inj H
      clear H
      go_wp2
      go_ret
      exact ⟨rfl, HB.out⟩
    ·replace c46 := (Bool.not_eq_true _).mp c46
     subst c46
     replace H := Aside0.mk H
     try go_wp2
     clear c_BK1 z_BK1; have rBK1 := BK1; replace BK1 := dK BK1
     have HBr := HB; replace HB := dH HB
     refine stA (n := 20) (S := fun w' => Below W45.heap.size W45 w') (by kernel_rfl) rfl (below_drew1 (Below.refl _ W45)) (by kernel_rfl) (fun hHeld => ?_)
     generalize W45.drew = W56 at HB BK1 hHeld ⊢
     replace H := H.out
     replace H := Option.bind_eq_some_iff.mp H
     obtain ⟨t665, hm, H⟩ := H
     try dsimp only at H
     replace hm := Aside0.mk hm
     replace H := Aside0.mk H
     refine pu 0 (some 17) 1 ?_; refine pu 3 (some 20) 9 ?_; refine ld 1 (some 18) 11 hHeld ?_ (hr := by (intro w' h_; have y_ := kD rBK1 h_; go_simp; with_reducible rfl)); refine pu 2 (some 19) 15 ?_; refine ld 4 (some 21) 31 hHeld ?_ (hr := by (intro w' h_; have y_ := kD rBK1 h_; go_simp; with_reducible rfl))
     refine on 5 (some 22) 63 (fun K hK => ?_)
     have hcall := impl_ArityOf.calls _ _ W56  hm.out
     refine goes_ Tryz.func204 (by kernel_rfl) rfl #[.int .i64 a0_0] (by rfl) rfl rfl (by (try simp only [List.map_toArray, List.map_cons, List.map_nil]); first | done | rfl) ?_
     refine hcall.mono ?_
     rintro e W58 ⟨rfl, hb⟩
     refine ⟨_, rfl, ?_⟩
     clear hcall hm
     replace hHeld := below_step hHeld hb
     replace BK1 := bK BK1 hb
     replace HB := bH HB hb; clear hb
     refine hK.out _ _ hHeld (fun hHeld => ?_)
     clear hK K
     refine nr 22 ?_
     replace H := H.out
     replace H := ifD H; rcases H with ⟨c59, H⟩ | ⟨c59, H⟩
     ·have c59_0 := decT c59; have c59_1 := eqT c59; have c59_2 := neT c59
      clear c59
      first | rw [c59_1] | rw [c59_2] | skip
      replace H := Option.bind_eq_some_iff.mp H
      obtain ⟨t666, hm, H⟩ := H
      try dsimp only at H
      replace hm := Aside0.mk hm
      replace H := Aside0.mk H
      refine pu 6 (some 23) 127 ?_; refine pu 7 (some 24) 255 ?_; refine pu 8 (some 25) 511 ?_; refine pu 10 (some 27) 1535 ?_; refine ld 9 (some 26) 2047 hHeld ?_ (hr := by (intro w' h_; have y_ := kD rBK1 h_; go_simp; with_reducible rfl))
      refine on 11 (some 28) 4095 (fun K hK => ?_)
      have hcall := impl_InRange.calls _ _ _ _ W58  hm.out
      refine goes_ Tryz.func67 (by kernel_rfl) rfl #[.int .i64 a0_1, .int .i64 0, .int .i64 3] (by rfl) rfl rfl (by (try simp only [List.map_toArray, List.map_cons, List.map_nil]); first | done | rfl) ?_
      refine hcall.mono ?_
      rintro e W61 ⟨rfl, hb⟩
      refine ⟨_, rfl, ?_⟩
      clear hcall hm
      replace hHeld := below_step hHeld hb
      replace BK1 := bK BK1 hb
      replace HB := bH HB hb; clear hb
      refine hK.out _ _ hHeld (fun hHeld => ?_)
      clear hK K
      refine nr 28 ?_
      replace H := H.out
      replace H := ifD H; rcases H with ⟨c62, H⟩ | ⟨c62, H⟩
      ·subst c62
       replace H := Option.bind_eq_some_iff.mp H
       obtain ⟨t667, hm, H⟩ := H
       try dsimp only at H
       replace hm := Aside0.mk hm
       replace H := Aside0.mk H
       refine pu 12 (some 29) 8191 ?_; refine pu 13 (some 30) 16383 ?_; refine pu 14 (some 31) 32767 ?_; refine pu 16 (some 33) 98303 ?_; refine ld 15 (some 32) 131071 hHeld ?_ (hr := by (intro w' h_; have y_ := kD rBK1 h_; go_simp; with_reducible rfl))
       refine on 17 (some 34) 262143 (fun K hK => ?_)
       have hcall := impl_InRange.calls _ _ _ _ W61  hm.out
       refine goes_ Tryz.func67 (by kernel_rfl) rfl #[.int .i64 a0_2, .int .i64 0, .int .i64 0] (by rfl) rfl rfl (by (try simp only [List.map_toArray, List.map_cons, List.map_nil]); first | done | rfl) ?_
       refine hcall.mono ?_
       rintro e W64 ⟨rfl, hb⟩
       refine ⟨_, rfl, ?_⟩
       clear hcall hm
       replace hHeld := below_step hHeld hb
       replace BK1 := bK BK1 hb
       replace HB := bH HB hb; clear hb
       refine hK.out _ _ hHeld (fun hHeld => ?_)
       clear hK K
       refine nr 34 ?_
       refine pu 18 (some 35) 524287 ?_; refine pu 19 (some 2) 1048575 ?_
       refine dn (by kernel_rfl) ?_
       clear hHeld HBr rBK1
       have c_BK1 := blk_cell BK1.out; have z_BK1 := blk_frozen BK1.out
       replace H := H.out
       obtain rfl := Option.some.inj H
       clear H
       go_wp2
       go_ret
       exact ⟨rfl, HB.out⟩
      ·replace c62 := (Bool.not_eq_true _).mp c62
       subst c62
       replace H := Aside0.mk H
       refine pu 12 (some 29) 8191 ?_; refine pu 13 (some 30) 16383 ?_; refine sk 14 (some 31) 32767 ?_; refine sk 15 (some 32) 65535 ?_; refine sk 16 (some 33) 131071 ?_; refine sk 17 (some 34) 262143 ?_; refine pu 18 (some 35) 524287 ?_; refine pu 19 (some 2) 1048575 ?_
       refine dn (by kernel_rfl) ?_
       clear hHeld HBr rBK1
       have c_BK1 := blk_cell BK1.out; have z_BK1 := blk_frozen BK1.out
       replace H := H.out
       obtain rfl := Option.some.inj H
       clear H
       go_wp2
       go_ret
       exact ⟨rfl, HB.out⟩
     ·have c59_0 := decF c59; have c59_1 := eqF c59; have c59_2 := neF c59
      clear c59
      first | rw [c59_1] | rw [c59_2] | skip
      replace H := Aside0.mk H
      refine pu 6 (some 23) 127 ?_; refine pu 7 (some 24) 255 ?_; refine sk 8 (some 25) 511 ?_; refine sk 9 (some 26) 1023 ?_; refine sk 10 (some 27) 2047 ?_; refine sk 11 (some 28) 4095 ?_; refine pu 12 (some 29) 8191 ?_; refine pu 13 (some 30) 16383 ?_; refine sk 14 (some 31) 32767 ?_; refine sk 15 (some 32) 65535 ?_; refine sk 16 (some 33) 131071 ?_; refine sk 17 (some 34) 262143 ?_; refine pu 18 (some 35) 524287 ?_; refine pu 19 (some 2) 1048575 ?_
      refine dn (by kernel_rfl) ?_
      clear hHeld HBr rBK1
      have c_BK1 := blk_cell BK1.out; have z_BK1 := blk_frozen BK1.out
      replace H := H.out
      obtain rfl := Option.some.inj H
      clear H
      go_wp2
      go_ret
      exact ⟨rfl, HB.out⟩
   ·have c44_0 := decF c44; have c44_1 := eqF c44; have c44_2 := neF c44
    clear c44
    first | rw [c44_1] | rw [c44_2] | skip
    replace H := ifD H; rcases H with ⟨c65, H⟩ | ⟨c65, H⟩
    ·have c65_0 := decT c65; have c65_1 := eqT c65; have c65_2 := neT c65
     clear c65
     first | rw [c65_1] | rw [c65_2] | skip
     replace H := Option.bind_eq_some_iff.mp H
     obtain ⟨t668, hm, H⟩ := H
     try dsimp only at H
     replace H := Aside0.mk H
     have hcall := impl_InRange.calls _ _ _ _ W1  hm
     clear hm
     go_wp2_with fail
     refine hcall.mono ?_
     rintro e W66 ⟨rfl, hb⟩
     clear hcall
     replace BK1 := bK BK1 hb; replace c_BK1 := blk_cell BK1.out; replace z_BK1 := blk_frozen BK1.out
     replace HB := bH HB hb; clear hb
     replace H := H.out
     replace H := ifD H; rcases H with ⟨c67, H⟩ | ⟨c67, H⟩
     ·subst c67
      replace H := Aside0.mk H
      try go_wp2
      clear c_BK1 z_BK1; have rBK1 := BK1; replace BK1 := dK BK1
      have HBr := HB; replace HB := dH HB
      refine stA (n := 20) (S := fun w' => Below W66.heap.size W66 w') (by kernel_rfl) rfl (below_drew1 (Below.refl _ W66)) (by kernel_rfl) (fun hHeld => ?_)
      generalize W66.drew = W68 at HB BK1 hHeld ⊢
      replace H := H.out
      replace H := Option.bind_eq_some_iff.mp H
      obtain ⟨t669, hm, H⟩ := H
      try dsimp only at H
      replace hm := Aside0.mk hm
      replace H := Aside0.mk H
      refine pu 0 (some 17) 1 ?_; refine pu 3 (some 20) 9 ?_; refine ld 1 (some 18) 11 hHeld ?_ (hr := by (intro w' h_; have y_ := kD rBK1 h_; go_simp; with_reducible rfl)); refine pu 2 (some 19) 15 ?_; refine ld 4 (some 21) 31 hHeld ?_ (hr := by (intro w' h_; have y_ := kD rBK1 h_; go_simp; with_reducible rfl))
      refine on 5 (some 22) 63 (fun K hK => ?_)
      have hcall := impl_ArityOf.calls _ _ W68  hm.out
      refine goes_ Tryz.func204 (by kernel_rfl) rfl #[.int .i64 a0_0] (by rfl) rfl rfl (by (try simp only [List.map_toArray, List.map_cons, List.map_nil]); first | done | rfl) ?_
      refine hcall.mono ?_
      rintro e W70 ⟨rfl, hb⟩
      refine ⟨_, rfl, ?_⟩
      clear hcall hm
      replace hHeld := below_step hHeld hb
      replace BK1 := bK BK1 hb
      replace HB := bH HB hb; clear hb
      refine hK.out _ _ hHeld (fun hHeld => ?_)
      clear hK K
      refine nr 22 ?_
      replace H := H.out
      replace H := ifD H; rcases H with ⟨c71, H⟩ | ⟨c71, H⟩
      ·have c71_0 := decT c71; have c71_1 := eqT c71; have c71_2 := neT c71
       clear c71
       first | rw [c71_1] | rw [c71_2] | skip
       replace H := Option.bind_eq_some_iff.mp H
       obtain ⟨t670, hm, H⟩ := H
       try dsimp only at H
       replace hm := Aside0.mk hm
       replace H := Aside0.mk H
       refine pu 6 (some 23) 127 ?_; refine pu 7 (some 24) 255 ?_; refine pu 8 (some 25) 511 ?_; refine pu 10 (some 27) 1535 ?_; refine ld 9 (some 26) 2047 hHeld ?_ (hr := by (intro w' h_; have y_ := kD rBK1 h_; go_simp; with_reducible rfl))
       refine on 11 (some 28) 4095 (fun K hK => ?_)
       have hcall := impl_InRange.calls _ _ _ _ W70  hm.out
       refine goes_ Tryz.func67 (by kernel_rfl) rfl #[.int .i64 a0_1, .int .i64 0, .int .i64 10000] (by rfl) rfl rfl (by (try simp only [List.map_toArray, List.map_cons, List.map_nil]); first | done | rfl) ?_
       refine hcall.mono ?_
       rintro e W73 ⟨rfl, hb⟩
       refine ⟨_, rfl, ?_⟩
       clear hcall hm
       replace hHeld := below_step hHeld hb
       replace BK1 := bK BK1 hb
       replace HB := bH HB hb; clear hb
       refine hK.out _ _ hHeld (fun hHeld => ?_)
       clear hK K
       refine nr 28 ?_
       replace H := H.out
       replace H := ifD H; rcases H with ⟨c74, H⟩ | ⟨c74, H⟩
       ·subst c74
        replace H := Option.bind_eq_some_iff.mp H
        obtain ⟨t671, hm, H⟩ := H
        try dsimp only at H
        replace hm := Aside0.mk hm
        replace H := Aside0.mk H
        refine pu 12 (some 29) 8191 ?_; refine pu 13 (some 30) 16383 ?_; refine pu 14 (some 31) 32767 ?_; refine pu 16 (some 33) 98303 ?_; refine ld 15 (some 32) 131071 hHeld ?_ (hr := by (intro w' h_; have y_ := kD rBK1 h_; go_simp; with_reducible rfl))
        refine on 17 (some 34) 262143 (fun K hK => ?_)
        have hcall := impl_InRange.calls _ _ _ _ W73  hm.out
        refine goes_ Tryz.func67 (by kernel_rfl) rfl #[.int .i64 a0_2, .int .i64 0, .int .i64 10000] (by rfl) rfl rfl (by (try simp only [List.map_toArray, List.map_cons, List.map_nil]); first | done | rfl) ?_
        refine hcall.mono ?_
        rintro e W76 ⟨rfl, hb⟩
        refine ⟨_, rfl, ?_⟩
        clear hcall hm
        replace hHeld := below_step hHeld hb
        replace BK1 := bK BK1 hb
        replace HB := bH HB hb; clear hb
        refine hK.out _ _ hHeld (fun hHeld => ?_)
        clear hK K
        refine nr 34 ?_
        refine pu 18 (some 35) 524287 ?_; refine pu 19 (some 2) 1048575 ?_
        refine dn (by kernel_rfl) ?_
        clear hHeld HBr rBK1
        have c_BK1 := blk_cell BK1.out; have z_BK1 := blk_frozen BK1.out
        replace H := H.out
        obtain rfl := Option.some.inj H
        clear H
        go_wp2
        go_ret
        exact ⟨rfl, HB.out⟩
       ·replace c74 := (Bool.not_eq_true _).mp c74
        subst c74
        replace H := Aside0.mk H
        refine pu 12 (some 29) 8191 ?_; refine pu 13 (some 30) 16383 ?_; refine sk 14 (some 31) 32767 ?_; refine sk 15 (some 32) 65535 ?_; refine sk 16 (some 33) 131071 ?_; refine sk 17 (some 34) 262143 ?_; refine pu 18 (some 35) 524287 ?_; refine pu 19 (some 2) 1048575 ?_
        refine dn (by kernel_rfl) ?_
        clear hHeld HBr rBK1
        have c_BK1 := blk_cell BK1.out; have z_BK1 := blk_frozen BK1.out
        replace H := H.out
        obtain rfl := Option.some.inj H
        clear H
        go_wp2
        go_ret
        exact ⟨rfl, HB.out⟩
      ·have c71_0 := decF c71; have c71_1 := eqF c71; have c71_2 := neF c71
       clear c71
       first | rw [c71_1] | rw [c71_2] | skip
       replace H := Aside0.mk H
       refine pu 6 (some 23) 127 ?_; refine pu 7 (some 24) 255 ?_; refine sk 8 (some 25) 511 ?_; refine sk 9 (some 26) 1023 ?_; refine sk 10 (some 27) 2047 ?_; refine sk 11 (some 28) 4095 ?_; refine pu 12 (some 29) 8191 ?_; refine pu 13 (some 30) 16383 ?_; refine sk 14 (some 31) 32767 ?_; refine sk 15 (some 32) 65535 ?_; refine sk 16 (some 33) 131071 ?_; refine sk 17 (some 34) 262143 ?_; refine pu 18 (some 35) 524287 ?_; refine pu 19 (some 2) 1048575 ?_
       refine dn (by kernel_rfl) ?_
       clear hHeld HBr rBK1
       have c_BK1 := blk_cell BK1.out; have z_BK1 := blk_frozen BK1.out
       replace H := H.out
       obtain rfl := Option.some.inj H
       clear H
       go_wp2
       go_ret
       exact ⟨rfl, HB.out⟩
     ·replace c67 := (Bool.not_eq_true _).mp c67
      subst c67
      replace H := Aside0.mk H
      try go_wp2
      clear c_BK1 z_BK1; have rBK1 := BK1; replace BK1 := dK BK1
      have HBr := HB; replace HB := dH HB
      refine stA (n := 20) (S := fun w' => Below W66.heap.size W66 w') (by kernel_rfl) rfl (below_drew1 (Below.refl _ W66)) (by kernel_rfl) (fun hHeld => ?_)
      generalize W66.drew = W77 at HB BK1 hHeld ⊢
      replace H := H.out
      replace H := Option.bind_eq_some_iff.mp H
      obtain ⟨t672, hm, H⟩ := H
      try dsimp only at H
      replace hm := Aside0.mk hm
      replace H := Aside0.mk H
      refine pu 0 (some 17) 1 ?_; refine pu 3 (some 20) 9 ?_; refine ld 1 (some 18) 11 hHeld ?_ (hr := by (intro w' h_; have y_ := kD rBK1 h_; go_simp; with_reducible rfl)); refine pu 2 (some 19) 15 ?_; refine ld 4 (some 21) 31 hHeld ?_ (hr := by (intro w' h_; have y_ := kD rBK1 h_; go_simp; with_reducible rfl))
      refine on 5 (some 22) 63 (fun K hK => ?_)
      have hcall := impl_ArityOf.calls _ _ W77  hm.out
      refine goes_ Tryz.func204 (by kernel_rfl) rfl #[.int .i64 a0_0] (by rfl) rfl rfl (by (try simp only [List.map_toArray, List.map_cons, List.map_nil]); first | done | rfl) ?_
      refine hcall.mono ?_
      rintro e W79 ⟨rfl, hb⟩
      refine ⟨_, rfl, ?_⟩
      clear hcall hm
      replace hHeld := below_step hHeld hb
      replace BK1 := bK BK1 hb
      replace HB := bH HB hb; clear hb
      refine hK.out _ _ hHeld (fun hHeld => ?_)
      clear hK K
      refine nr 22 ?_
      replace H := H.out
      replace H := ifD H; rcases H with ⟨c80, H⟩ | ⟨c80, H⟩
      ·have c80_0 := decT c80; have c80_1 := eqT c80; have c80_2 := neT c80
       clear c80
       first | rw [c80_1] | rw [c80_2] | skip
       replace H := Option.bind_eq_some_iff.mp H
       obtain ⟨t673, hm, H⟩ := H
       try dsimp only at H
       replace hm := Aside0.mk hm
       replace H := Aside0.mk H
       refine pu 6 (some 23) 127 ?_; refine pu 7 (some 24) 255 ?_; refine pu 8 (some 25) 511 ?_; refine pu 10 (some 27) 1535 ?_; refine ld 9 (some 26) 2047 hHeld ?_ (hr := by (intro w' h_; have y_ := kD rBK1 h_; go_simp; with_reducible rfl))
       refine on 11 (some 28) 4095 (fun K hK => ?_)
       have hcall := impl_InRange.calls _ _ _ _ W79  hm.out
       refine goes_ Tryz.func67 (by kernel_rfl) rfl #[.int .i64 a0_1, .int .i64 0, .int .i64 10000] (by rfl) rfl rfl (by (try simp only [List.map_toArray, List.map_cons, List.map_nil]); first | done | rfl) ?_
       refine hcall.mono ?_
       rintro e W82 ⟨rfl, hb⟩
       refine ⟨_, rfl, ?_⟩
       clear hcall hm
       replace hHeld := below_step hHeld hb
       replace BK1 := bK BK1 hb
       replace HB := bH HB hb; clear hb
       refine hK.out _ _ hHeld (fun hHeld => ?_)
       clear hK K
       refine nr 28 ?_
       replace H := H.out
       replace H := ifD H; rcases H with ⟨c83, H⟩ | ⟨c83, H⟩
       ·subst c83
        replace H := Option.bind_eq_some_iff.mp H
        obtain ⟨t674, hm, H⟩ := H
        try dsimp only at H
        replace hm := Aside0.mk hm
        replace H := Aside0.mk H
        refine pu 12 (some 29) 8191 ?_; refine pu 13 (some 30) 16383 ?_; refine pu 14 (some 31) 32767 ?_; refine pu 16 (some 33) 98303 ?_; refine ld 15 (some 32) 131071 hHeld ?_ (hr := by (intro w' h_; have y_ := kD rBK1 h_; go_simp; with_reducible rfl))
        refine on 17 (some 34) 262143 (fun K hK => ?_)
        have hcall := impl_InRange.calls _ _ _ _ W82  hm.out
        refine goes_ Tryz.func67 (by kernel_rfl) rfl #[.int .i64 a0_2, .int .i64 0, .int .i64 0] (by rfl) rfl rfl (by (try simp only [List.map_toArray, List.map_cons, List.map_nil]); first | done | rfl) ?_
        refine hcall.mono ?_
        rintro e W85 ⟨rfl, hb⟩
        refine ⟨_, rfl, ?_⟩
        clear hcall hm
        replace hHeld := below_step hHeld hb
        replace BK1 := bK BK1 hb
        replace HB := bH HB hb; clear hb
        refine hK.out _ _ hHeld (fun hHeld => ?_)
        clear hK K
        refine nr 34 ?_
        refine pu 18 (some 35) 524287 ?_; refine pu 19 (some 2) 1048575 ?_
        refine dn (by kernel_rfl) ?_
        clear hHeld HBr rBK1
        have c_BK1 := blk_cell BK1.out; have z_BK1 := blk_frozen BK1.out
        replace H := H.out
        obtain rfl := Option.some.inj H
        clear H
        go_wp2
        go_ret
        exact ⟨rfl, HB.out⟩
       ·replace c83 := (Bool.not_eq_true _).mp c83
        subst c83
        replace H := Aside0.mk H
        refine pu 12 (some 29) 8191 ?_; refine pu 13 (some 30) 16383 ?_; refine sk 14 (some 31) 32767 ?_; refine sk 15 (some 32) 65535 ?_; refine sk 16 (some 33) 131071 ?_; refine sk 17 (some 34) 262143 ?_; refine pu 18 (some 35) 524287 ?_; refine pu 19 (some 2) 1048575 ?_
        refine dn (by kernel_rfl) ?_
        clear hHeld HBr rBK1
        have c_BK1 := blk_cell BK1.out; have z_BK1 := blk_frozen BK1.out
        replace H := H.out
        obtain rfl := Option.some.inj H
        clear H
        go_wp2
        go_ret
        exact ⟨rfl, HB.out⟩
      ·have c80_0 := decF c80; have c80_1 := eqF c80; have c80_2 := neF c80
       clear c80
       first | rw [c80_1] | rw [c80_2] | skip
       replace H := Aside0.mk H
       refine pu 6 (some 23) 127 ?_; refine pu 7 (some 24) 255 ?_; refine sk 8 (some 25) 511 ?_; refine sk 9 (some 26) 1023 ?_; refine sk 10 (some 27) 2047 ?_; refine sk 11 (some 28) 4095 ?_; refine pu 12 (some 29) 8191 ?_; refine pu 13 (some 30) 16383 ?_; refine sk 14 (some 31) 32767 ?_; refine sk 15 (some 32) 65535 ?_; refine sk 16 (some 33) 131071 ?_; refine sk 17 (some 34) 262143 ?_; refine pu 18 (some 35) 524287 ?_; refine pu 19 (some 2) 1048575 ?_
       refine dn (by kernel_rfl) ?_
       clear hHeld HBr rBK1
       have c_BK1 := blk_cell BK1.out; have z_BK1 := blk_frozen BK1.out
       replace H := H.out
       obtain rfl := Option.some.inj H
       clear H
       go_wp2
       go_ret
       exact ⟨rfl, HB.out⟩
    ·have c65_0 := decF c65; have c65_1 := eqF c65; have c65_2 := neF c65
     clear c65
     first | rw [c65_1] | rw [c65_2] | skip
     replace H := Option.bind_eq_some_iff.mp H
     obtain ⟨t675, hm, H⟩ := H
     try dsimp only at H
     replace H := Aside0.mk H
     have hcall := impl_InRange.calls _ _ _ _ W1  hm
     clear hm
     go_wp2_with fail
     refine hcall.mono ?_
     rintro e W86 ⟨rfl, hb⟩
     clear hcall
     replace BK1 := bK BK1 hb; replace c_BK1 := blk_cell BK1.out; replace z_BK1 := blk_frozen BK1.out
     replace HB := bH HB hb; clear hb
     replace H := H.out
     replace H := ifD H; rcases H with ⟨c87, H⟩ | ⟨c87, H⟩
     ·subst c87
      replace H := Aside0.mk H
      try go_wp2
      clear c_BK1 z_BK1; have rBK1 := BK1; replace BK1 := dK BK1
      have HBr := HB; replace HB := dH HB
      refine stA (n := 20) (S := fun w' => Below W86.heap.size W86 w') (by kernel_rfl) rfl (below_drew1 (Below.refl _ W86)) (by kernel_rfl) (fun hHeld => ?_)
      generalize W86.drew = W88 at HB BK1 hHeld ⊢
      replace H := H.out
      replace H := Option.bind_eq_some_iff.mp H
      obtain ⟨t676, hm, H⟩ := H
      try dsimp only at H
      replace hm := Aside0.mk hm
      replace H := Aside0.mk H
      refine pu 0 (some 17) 1 ?_; refine pu 3 (some 20) 9 ?_; refine ld 1 (some 18) 11 hHeld ?_ (hr := by (intro w' h_; have y_ := kD rBK1 h_; go_simp; with_reducible rfl)); refine pu 2 (some 19) 15 ?_; refine ld 4 (some 21) 31 hHeld ?_ (hr := by (intro w' h_; have y_ := kD rBK1 h_; go_simp; with_reducible rfl))
      refine on 5 (some 22) 63 (fun K hK => ?_)
      have hcall := impl_ArityOf.calls _ _ W88  hm.out
      refine goes_ Tryz.func204 (by kernel_rfl) rfl #[.int .i64 a0_0] (by rfl) rfl rfl (by (try simp only [List.map_toArray, List.map_cons, List.map_nil]); first | done | rfl) ?_
      refine hcall.mono ?_
      rintro e W90 ⟨rfl, hb⟩
      refine ⟨_, rfl, ?_⟩
      clear hcall hm
      replace hHeld := below_step hHeld hb
      replace BK1 := bK BK1 hb
      replace HB := bH HB hb; clear hb
      refine hK.out _ _ hHeld (fun hHeld => ?_)
      clear hK K
      refine nr 22 ?_
      replace H := H.out
      replace H := ifD H; rcases H with ⟨c91, H⟩ | ⟨c91, H⟩
      ·have c91_0 := decT c91; have c91_1 := eqT c91; have c91_2 := neT c91
       clear c91
       first | rw [c91_1] | rw [c91_2] | skip
       replace H := Option.bind_eq_some_iff.mp H
       obtain ⟨t677, hm, H⟩ := H
       try dsimp only at H
       replace hm := Aside0.mk hm
       replace H := Aside0.mk H
       refine pu 6 (some 23) 127 ?_; refine pu 7 (some 24) 255 ?_; refine pu 8 (some 25) 511 ?_; refine pu 10 (some 27) 1535 ?_; refine ld 9 (some 26) 2047 hHeld ?_ (hr := by (intro w' h_; have y_ := kD rBK1 h_; go_simp; with_reducible rfl))
       refine on 11 (some 28) 4095 (fun K hK => ?_)
       have hcall := impl_InRange.calls _ _ _ _ W90  hm.out
       refine goes_ Tryz.func67 (by kernel_rfl) rfl #[.int .i64 a0_1, .int .i64 0, .int .i64 0] (by rfl) rfl rfl (by (try simp only [List.map_toArray, List.map_cons, List.map_nil]); first | done | rfl) ?_
       refine hcall.mono ?_
       rintro e W93 ⟨rfl, hb⟩
       refine ⟨_, rfl, ?_⟩
       clear hcall hm
       replace hHeld := below_step hHeld hb
       replace BK1 := bK BK1 hb
       replace HB := bH HB hb; clear hb
       refine hK.out _ _ hHeld (fun hHeld => ?_)
       clear hK K
       refine nr 28 ?_
       replace H := H.out
       replace H := ifD H; rcases H with ⟨c94, H⟩ | ⟨c94, H⟩
       ·subst c94
        replace H := Option.bind_eq_some_iff.mp H
        obtain ⟨t678, hm, H⟩ := H
        try dsimp only at H
        replace hm := Aside0.mk hm
        replace H := Aside0.mk H
        refine pu 12 (some 29) 8191 ?_; refine pu 13 (some 30) 16383 ?_; refine pu 14 (some 31) 32767 ?_; refine pu 16 (some 33) 98303 ?_; refine ld 15 (some 32) 131071 hHeld ?_ (hr := by (intro w' h_; have y_ := kD rBK1 h_; go_simp; with_reducible rfl))
        refine on 17 (some 34) 262143 (fun K hK => ?_)
        have hcall := impl_InRange.calls _ _ _ _ W93  hm.out
        refine goes_ Tryz.func67 (by kernel_rfl) rfl #[.int .i64 a0_2, .int .i64 0, .int .i64 10000] (by rfl) rfl rfl (by (try simp only [List.map_toArray, List.map_cons, List.map_nil]); first | done | rfl) ?_
        refine hcall.mono ?_
        rintro e W96 ⟨rfl, hb⟩
        refine ⟨_, rfl, ?_⟩
        clear hcall hm
        replace hHeld := below_step hHeld hb
        replace BK1 := bK BK1 hb
        replace HB := bH HB hb; clear hb
        refine hK.out _ _ hHeld (fun hHeld => ?_)
        clear hK K
        refine nr 34 ?_
        refine pu 18 (some 35) 524287 ?_; refine pu 19 (some 2) 1048575 ?_
        refine dn (by kernel_rfl) ?_
        clear hHeld HBr rBK1
        have c_BK1 := blk_cell BK1.out; have z_BK1 := blk_frozen BK1.out
        replace H := H.out
        obtain rfl := Option.some.inj H
        clear H
        go_wp2
        go_ret
        exact ⟨rfl, HB.out⟩
       ·replace c94 := (Bool.not_eq_true _).mp c94
        subst c94
        replace H := Aside0.mk H
        refine pu 12 (some 29) 8191 ?_; refine pu 13 (some 30) 16383 ?_; refine sk 14 (some 31) 32767 ?_; refine sk 15 (some 32) 65535 ?_; refine sk 16 (some 33) 131071 ?_; refine sk 17 (some 34) 262143 ?_; refine pu 18 (some 35) 524287 ?_; refine pu 19 (some 2) 1048575 ?_
        refine dn (by kernel_rfl) ?_
        clear hHeld HBr rBK1
        have c_BK1 := blk_cell BK1.out; have z_BK1 := blk_frozen BK1.out
        replace H := H.out
        obtain rfl := Option.some.inj H
        clear H
        go_wp2
        go_ret
        exact ⟨rfl, HB.out⟩
      ·have c91_0 := decF c91; have c91_1 := eqF c91; have c91_2 := neF c91
       clear c91
       first | rw [c91_1] | rw [c91_2] | skip
       replace H := Aside0.mk H
       refine pu 6 (some 23) 127 ?_; refine pu 7 (some 24) 255 ?_; refine sk 8 (some 25) 511 ?_; refine sk 9 (some 26) 1023 ?_; refine sk 10 (some 27) 2047 ?_; refine sk 11 (some 28) 4095 ?_; refine pu 12 (some 29) 8191 ?_; refine pu 13 (some 30) 16383 ?_; refine sk 14 (some 31) 32767 ?_; refine sk 15 (some 32) 65535 ?_; refine sk 16 (some 33) 131071 ?_; refine sk 17 (some 34) 262143 ?_; refine pu 18 (some 35) 524287 ?_; refine pu 19 (some 2) 1048575 ?_
       refine dn (by kernel_rfl) ?_
       clear hHeld HBr rBK1
       have c_BK1 := blk_cell BK1.out; have z_BK1 := blk_frozen BK1.out
       replace H := H.out
       obtain rfl := Option.some.inj H
       clear H
       go_wp2
       go_ret
       exact ⟨rfl, HB.out⟩
     ·replace c87 := (Bool.not_eq_true _).mp c87
      subst c87
      replace H := Aside0.mk H
      try go_wp2
      clear c_BK1 z_BK1; have rBK1 := BK1; replace BK1 := dK BK1
      have HBr := HB; replace HB := dH HB
      refine stA (n := 20) (S := fun w' => Below W86.heap.size W86 w') (by kernel_rfl) rfl (below_drew1 (Below.refl _ W86)) (by kernel_rfl) (fun hHeld => ?_)
      generalize W86.drew = W97 at HB BK1 hHeld ⊢
      replace H := H.out
      replace H := Option.bind_eq_some_iff.mp H
      obtain ⟨t679, hm, H⟩ := H
      try dsimp only at H
      replace hm := Aside0.mk hm
      replace H := Aside0.mk H
      refine pu 0 (some 17) 1 ?_; refine pu 3 (some 20) 9 ?_; refine ld 1 (some 18) 11 hHeld ?_ (hr := by (intro w' h_; have y_ := kD rBK1 h_; go_simp; with_reducible rfl)); refine pu 2 (some 19) 15 ?_; refine ld 4 (some 21) 31 hHeld ?_ (hr := by (intro w' h_; have y_ := kD rBK1 h_; go_simp; with_reducible rfl))
      refine on 5 (some 22) 63 (fun K hK => ?_)
      have hcall := impl_ArityOf.calls _ _ W97  hm.out
      refine goes_ Tryz.func204 (by kernel_rfl) rfl #[.int .i64 a0_0] (by rfl) rfl rfl (by (try simp only [List.map_toArray, List.map_cons, List.map_nil]); first | done | rfl) ?_
      refine hcall.mono ?_
      rintro e W99 ⟨rfl, hb⟩
      refine ⟨_, rfl, ?_⟩
      clear hcall hm
      replace hHeld := below_step hHeld hb
      replace BK1 := bK BK1 hb
      replace HB := bH HB hb; clear hb
      refine hK.out _ _ hHeld (fun hHeld => ?_)
      clear hK K
      refine nr 22 ?_
      replace H := H.out
      replace H := ifD H; rcases H with ⟨c100, H⟩ | ⟨c100, H⟩
      ·have c100_0 := decT c100; have c100_1 := eqT c100; have c100_2 := neT c100
       clear c100
       first | rw [c100_1] | rw [c100_2] | skip
       replace H := Option.bind_eq_some_iff.mp H
       obtain ⟨t680, hm, H⟩ := H
       try dsimp only at H
       replace hm := Aside0.mk hm
       replace H := Aside0.mk H
       refine pu 6 (some 23) 127 ?_; refine pu 7 (some 24) 255 ?_; refine pu 8 (some 25) 511 ?_; refine pu 10 (some 27) 1535 ?_; refine ld 9 (some 26) 2047 hHeld ?_ (hr := by (intro w' h_; have y_ := kD rBK1 h_; go_simp; with_reducible rfl))
       refine on 11 (some 28) 4095 (fun K hK => ?_)
       have hcall := impl_InRange.calls _ _ _ _ W99  hm.out
       refine goes_ Tryz.func67 (by kernel_rfl) rfl #[.int .i64 a0_1, .int .i64 0, .int .i64 0] (by rfl) rfl rfl (by (try simp only [List.map_toArray, List.map_cons, List.map_nil]); first | done | rfl) ?_
       refine hcall.mono ?_
       rintro e W102 ⟨rfl, hb⟩
       refine ⟨_, rfl, ?_⟩
       clear hcall hm
       replace hHeld := below_step hHeld hb
       replace BK1 := bK BK1 hb
       replace HB := bH HB hb; clear hb
       refine hK.out _ _ hHeld (fun hHeld => ?_)
       clear hK K
       refine nr 28 ?_
       replace H := H.out
       replace H := ifD H; rcases H with ⟨c103, H⟩ | ⟨c103, H⟩
       ·subst c103
        replace H := Option.bind_eq_some_iff.mp H
        obtain ⟨t681, hm, H⟩ := H
        try dsimp only at H
        replace hm := Aside0.mk hm
        replace H := Aside0.mk H
        refine pu 12 (some 29) 8191 ?_; refine pu 13 (some 30) 16383 ?_; refine pu 14 (some 31) 32767 ?_; refine pu 16 (some 33) 98303 ?_; refine ld 15 (some 32) 131071 hHeld ?_ (hr := by (intro w' h_; have y_ := kD rBK1 h_; go_simp; with_reducible rfl))
        refine on 17 (some 34) 262143 (fun K hK => ?_)
        have hcall := impl_InRange.calls _ _ _ _ W102  hm.out
        refine goes_ Tryz.func67 (by kernel_rfl) rfl #[.int .i64 a0_2, .int .i64 0, .int .i64 0] (by rfl) rfl rfl (by (try simp only [List.map_toArray, List.map_cons, List.map_nil]); first | done | rfl) ?_
        refine hcall.mono ?_
        rintro e W105 ⟨rfl, hb⟩
        refine ⟨_, rfl, ?_⟩
        clear hcall hm
        replace hHeld := below_step hHeld hb
        replace BK1 := bK BK1 hb
        replace HB := bH HB hb; clear hb
        refine hK.out _ _ hHeld (fun hHeld => ?_)
        clear hK K
        refine nr 34 ?_
        refine pu 18 (some 35) 524287 ?_; refine pu 19 (some 2) 1048575 ?_
        refine dn (by kernel_rfl) ?_
        clear hHeld HBr rBK1
        have c_BK1 := blk_cell BK1.out; have z_BK1 := blk_frozen BK1.out
        replace H := H.out
        obtain rfl := Option.some.inj H
        clear H
        go_wp2
        go_ret
        exact ⟨rfl, HB.out⟩
       ·replace c103 := (Bool.not_eq_true _).mp c103
        subst c103
        replace H := Aside0.mk H
        refine pu 12 (some 29) 8191 ?_; refine pu 13 (some 30) 16383 ?_; refine sk 14 (some 31) 32767 ?_; refine sk 15 (some 32) 65535 ?_; refine sk 16 (some 33) 131071 ?_; refine sk 17 (some 34) 262143 ?_; refine pu 18 (some 35) 524287 ?_; refine pu 19 (some 2) 1048575 ?_
        refine dn (by kernel_rfl) ?_
        clear hHeld HBr rBK1
        have c_BK1 := blk_cell BK1.out; have z_BK1 := blk_frozen BK1.out
        replace H := H.out
        obtain rfl := Option.some.inj H
        clear H
        go_wp2
        go_ret
        exact ⟨rfl, HB.out⟩
      ·have c100_0 := decF c100; have c100_1 := eqF c100; have c100_2 := neF c100
       clear c100
       first | rw [c100_1] | rw [c100_2] | skip
       replace H := Aside0.mk H
       refine pu 6 (some 23) 127 ?_; refine pu 7 (some 24) 255 ?_; refine sk 8 (some 25) 511 ?_; refine sk 9 (some 26) 1023 ?_; refine sk 10 (some 27) 2047 ?_; refine sk 11 (some 28) 4095 ?_; refine pu 12 (some 29) 8191 ?_; refine pu 13 (some 30) 16383 ?_; refine sk 14 (some 31) 32767 ?_; refine sk 15 (some 32) 65535 ?_; refine sk 16 (some 33) 131071 ?_; refine sk 17 (some 34) 262143 ?_; refine pu 18 (some 35) 524287 ?_; refine pu 19 (some 2) 1048575 ?_
       refine dn (by kernel_rfl) ?_
       clear hHeld HBr rBK1
       have c_BK1 := blk_cell BK1.out; have z_BK1 := blk_frozen BK1.out
       replace H := H.out
       obtain rfl := Option.some.inj H
       clear H
       go_wp2
       go_ret
       exact ⟨rfl, HB.out⟩

end Go.Proofs.YtineejdlpcgnkaaGreat.QFnExactIsCenter
