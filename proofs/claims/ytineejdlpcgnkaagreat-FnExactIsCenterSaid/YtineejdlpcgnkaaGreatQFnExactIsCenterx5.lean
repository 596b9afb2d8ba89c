/- The machine side of FnExactIsCenter: what each function that it reaches computes, and that the machine's call gives just that. -/
import Derived.Test.YtineejdlpcgnkaaGreatQFnExactIsCenterx0
import Derived.Test.YtineejdlpcgnkaaGreatQFnExactIsCenterx3
namespace Go.Proofs.YtineejdlpcgnkaaGreat.QFnExactIsCenter
open Go.RowKit Go.Proofs.YtineejdlpcgnkaaGreatW.PrintWords Go.Proofs.YtineejdlpcgnkaaGreatW.PrintLast Go.Proofs.YtineejdlpcgnkaaGreatW.PrintMore
attribute [local go_sem] max2_int min2_int max_two min_two max_three min_three max_four min_four   -- for this text's walks alone
set_option linter.unusedVariables false
set_option linter.unusedSimpArgs false

/-! ### spec_ArityOf: function 203 -/
def spec_ArityOf.f (a0 : Int) : Option (Int) := if a0 = 1 then (some 0) else (if a0 = 2 then (some 0) else (if a0 = 3 then (some 0) else (if a0 = 4 then (some 0) else (if a0 = 5 then (some 0) else (if a0 = 6 then (some 0) else (if a0 = 7 then (some 1) else (if a0 = 8 then (some 2) else (if a0 = 9 then (some 2) else (some (-1))))))))))
open Go.Proofs.YtineejdlpcgnkaaGreatM in
set_option maxHeartbeats 8000000 in
set_option maxRecDepth 100000 in
theorem spec_ArityOf.calls (a0 : Int) (r : Int) (w : World) (h : spec_ArityOf.f a0 = some r) :
  Calls Tryz.prog 203 #[.int .i64 a0] w fun e w' => e = .returned (.int .i64 r) ∧ Below w.heap.size w w' := by
 have HB := Aside0.mk (Below.refl w.heap.size w)
 have H := h
 clear h
 unfold spec_ArityOf.f at H
 go_enter Tryz.func203, Tryz.ntmps203
 replace H := ifD H; rcases H with ⟨c1, H⟩ | ⟨c1, H⟩
 ·have c1_0 := decT c1; have c1_1 := eqT c1; have c1_2 := neT c1
  clear c1
  first | rw [c1_1] | rw [c1_2] | skip
  obtain rfl := Option.some.inj H
  clear H
  go_wp2
  go_ret
  exact ⟨rfl, HB.out⟩
 ·have c1_0 := decF c1; have c1_1 := eqF c1; have c1_2 := neF c1
  clear c1
  first | rw [c1_1] | rw [c1_2] | skip
  replace H := ifD H; rcases H with ⟨c2, H⟩ | ⟨c2, H⟩
  ·have c2_0 := decT c2; have c2_1 := eqT c2; have c2_2 := neT c2
   clear c2
   first | rw [c2_1] | rw [c2_2] | skip
   obtain rfl := Option.some.inj H
   clear H
   go_wp2
   go_ret
   exact ⟨rfl, HB.out⟩
  ·have c2_0 := decF c2; have c2_1 := eqF c2; have c2_2 := neF c2
   clear c2
   first | rw [c2_1] | rw [c2_2] | skip
   replace H := ifD H; rcases H with ⟨c3, H⟩ | ⟨c3, H⟩
   ·have c3_0 := decT c3; have c3_1 := eqT c3; have c3_2 := neT c3
    clear c3
    first | rw [c3_1] | rw [c3_2] | skip
    obtain rfl := Option.some.inj H
    clear H
    go_wp2
    go_ret
    exact ⟨rfl, HB.out⟩
   ·have c3_0 := decF c3; have c3_1 := eqF c3; have c3_2 := neF c3
    clear c3
    first | rw [c3_1] | rw [c3_2] | skip
    replace H := ifD H; rcases H with ⟨c4, H⟩ | ⟨c4, H⟩
    ·have c4_0 := decT c4; have c4_1 := eqT c4; have c4_2 := neT c4
     clear c4
     first | rw [c4_1] | rw [c4_2] | skip
     obtain rfl := Option.some.inj H
     clear H
     go_wp2
     go_ret
     exact ⟨rfl, HB.out⟩
    ·have c4_0 := decF c4; have c4_1 := eqF c4; have c4_2 := neF c4
     clear c4
     first | rw [c4_1] | rw [c4_2] | skip
     replace H := ifD H; rcases H with ⟨c5, H⟩ | ⟨c5, H⟩
     ·have c5_0 := decT c5; have c5_1 := eqT c5; have c5_2 := neT c5
      clear c5
      first | rw [c5_1] | rw [c5_2] | skip
      obtain rfl := Option.some.inj H
      clear H
      go_wp2
      go_ret
      exact ⟨rfl, HB.out⟩
     ·have c5_0 := decF c5; have c5_1 := eqF c5; have c5_2 := neF c5
      clear c5
      first | rw [c5_1] | rw [c5_2] | skip
      replace H := ifD H; rcases H with ⟨c6, H⟩ | ⟨c6, H⟩
      ·have c6_0 := decT c6; have c6_1 := eqT c6; have c6_2 := neT c6
       clear c6
       first | rw [c6_1] | rw [c6_2] | skip
       obtain rfl := Option.some.inj H
       clear H
       go_wp2
       go_ret
       exact ⟨rfl, HB.out⟩
      ·have c6_0 := decF c6; have c6_1 := eqF c6; have c6_2 := neF c6
       clear c6
       first | rw [c6_1] | rw [c6_2] | skip
       replace H := ifD H; rcases H with ⟨c7, H⟩ | ⟨c7, H⟩
       ·have c7_0 := decT c7; have c7_1 := eqT c7; have c7_2 := neT c7
        clear c7
        first | rw [c7_1] | rw [c7_2] | skip
        obtain rfl := Option.some.inj H
        clear H
        go_wp2
        go_ret
        exact ⟨rfl, HB.out⟩
       ·have c7_0 := decF c7; have c7_1 := eqF c7; have c7_2 := neF c7
        clear c7
        first | rw [c7_1] | rw [c7_2] | skip
        replace H := ifD H; rcases H with ⟨c8, H⟩ | ⟨c8, H⟩
        ·have c8_0 := decT c8; have c8_1 := eqT c8; have c8_2 := neT c8
         clear c8
         first | rw [c8_1] | rw [c8_2] | skip
         obtain rfl := Option.some.inj H
         clear H
         go_wp2
         go_ret
         exact ⟨rfl, HB.out⟩
        ·have c8_0 := decF c8; have c8_1 := eqF c8; have c8_2 := neF c8
         clear c8
         first | rw [c8_1] | rw [c8_2] | skip
         replace H := ifD H; rcases H with ⟨c9, H⟩ | ⟨c9, H⟩
         ·have c9_0 := decT c9; have c9_1 := eqT c9; have c9_2 := neT c9
          clear c9
          first | rw [c9_1] | rw [c9_2] | skip
          obtain rfl := Option.some.inj H
          clear H
          go_wp2
          go_ret
          exact ⟨rfl, HB.out⟩
         ·have c9_0 := decF c9; have c9_1 := eqF c9; have c9_2 := neF c9
          clear c9
          first | rw [c9_1] | rw [c9_2] | skip
          obtain rfl := Option.some.inj H
          clear H
          go_wp2
          go_ret
          exact ⟨rfl, HB.out⟩

/-! ### spec_l15Node: function 197 -/
def spec_l15Node.f (a0_0 : Int) (a0_1 : Int) (a0_2 : Int) (l0_3 : List (S164)) : Option (Bool) := if a0_0 = 2 then ((spec_l1In.f a0_1 0 5).bind fun t201 => ((spec_l1In.f a0_0 2 5).bind fun t202 => (if t202 = true then ((spec_IsTime.f a0_2).bind fun t203 => (if t201 = true then (if t203 = true then ((spec_ArityOf.f a0_0).bind fun t204 => (some ((l0_3.length : Int) == t204))) else (some false)) else (some false))) else (if t201 = true then (if a0_2 = 0 then ((spec_ArityOf.f a0_0).bind fun t205 => (some ((l0_3.length : Int) == t205))) else (some false)) else (some false))))) else (if a0_0 = 4 then ((spec_l1In.f a0_1 0 3).bind fun t206 => ((spec_l1In.f a0_0 2 5).bind fun t207 => (if t207 = true then ((spec_IsTime.f a0_2).bind fun t208 => (if t206 = true then (if t208 = true then ((spec_ArityOf.f a0_0).bind fun t209 => (some ((l0_3.length : Int) == t209))) else (some false)) else (some false))) else (if t206 = true then (if a0_2 = 0 then ((spec_ArityOf.f a0_0).bind fun t210 => (some ((l0_3.length : Int) == t210))) else (some false)) else (some false))))) else (if a0_0 = 5 then ((spec_l1In.f a0_1 0 3).bind fun t211 => ((spec_l1In.f a0_0 2 5).bind fun t212 => (if t212 = true then ((spec_IsTime.f a0_2).bind fun t213 => (if t211 = true then (if t213 = true then ((spec_ArityOf.f a0_0).bind fun t214 => (some ((l0_3.length : Int) == t214))) else (some false)) else (some false))) else (if t211 = true then (if a0_2 = 0 then ((spec_ArityOf.f a0_0).bind fun t215 => (some ((l0_3.length : Int) == t215))) else (some false)) else (some false))))) else (if a0_0 = 6 then ((spec_IsTime.f a0_1).bind fun t216 => ((spec_l1In.f a0_0 2 5).bind fun t217 => (if t217 = true then ((spec_IsTime.f a0_2).bind fun t218 => (if t216 = true then (if t218 = true then ((spec_ArityOf.f a0_0).bind fun t219 => (some ((l0_3.length : Int) == t219))) else (some false)) else (some false))) else (if t216 = true then (if a0_2 = 0 then ((spec_ArityOf.f a0_0).bind fun t220 => (some ((l0_3.length : Int) == t220))) else (some false)) else (some false))))) else ((spec_l1In.f a0_0 2 5).bind fun t221 => (if t221 = true then ((spec_IsTime.f a0_2).bind fun t222 => (if a0_1 = 0 then (if t222 = true then ((spec_ArityOf.f a0_0).bind fun t223 => (some ((l0_3.length : Int) == t223))) else (some false)) else (some false))) else (if a0_1 = 0 then (if a0_2 = 0 then ((spec_ArityOf.f a0_0).bind fun t224 => (some ((l0_3.length : Int) == t224))) else (some false)) else (some false)))))))
open Go.Proofs.YtineejdlpcgnkaaGreatM in
set_option maxHeartbeats 8000000 in
set_option maxRecDepth 100000 in
theorem spec_l15Node.calls (a0_0 : Int) (a0_1 : Int) (a0_2 : Int) (A0_3 : Option Addr) (c0_3 : Nat) (l0_3 : List (S164)) (r : Bool) (w : World) (hr0_3 : Kd.C k164 w A0_3 l0_3.length l0_3) (hc0_3 : l0_3.length ≤ c0_3) (h : spec_l15Node.f a0_0 a0_1 a0_2 l0_3 = some r) :
  Calls Tryz.prog 197 #[.agg #[.int .i64 a0_0, .int .i64 a0_1, .int .i64 a0_2, .slice A0_3 l0_3.length c0_3]] w fun e w' => e = .returned (.bool r) ∧ Below w.heap.size w w' := by
 have HR0_3 := Aside0.mk hr0_3
 have HC0_3 := Aside0.mk hc0_3
 clear hr0_3 hc0_3
 have HB := Aside0.mk (Below.refl w.heap.size w)
 have H := h
 clear h
 unfold spec_l15Node.f at H
 have hu164 := Tryz.underlying164
 go_enter Tryz.func197, Tryz.ntmps197
 replace H := Aside0.mk H
 go_upto_region 1 with (first | ((with_reducible refine gate_dst (N := 1) rfl ?_); refine box_event ?hg (N := 1) ?hd (cs := #[.int .i64 a0_0, .int .i64 a0_1, .int .i64 a0_2, .slice A0_3 l0_3.length c0_3]) (t := 164) ?hr ?_; (case hd => rfl); (case hg => rfl); (case hr => first | (go_simp; done) | (go_simp; rfl)); intro gb1 hg W1 hbox hb; replace HB := bH HB hb; clear hb; have BK1 := Aside0.mk hbox; have c_BK1 := blk_cell hbox; have z_BK1 := blk_frozen hbox; clear hg hbox))
 replace H := H.out
 replace H := ifD H; rcases H with ⟨c2, H⟩ | ⟨c2, H⟩
 ·have c2_0 := decT c2; have c2_1 := eqT c2; have c2_2 := neT c2
  clear c2
  first | rw [c2_1] | rw [c2_2] | skip
  replace H := Option.bind_eq_some_iff.mp H
  obtain ⟨t201, hm, H⟩ := H
  try dsimp only at H
  replace H := Aside0.mk H
  have hcall := spec_l1In.calls _ _ _ _ W1  hm
  clear hm
  go_wp2_with fail
  refine hcall.mono ?_
  rintro e W3 ⟨rfl, hb⟩
  clear hcall
  replace BK1 := bK BK1 hb; replace c_BK1 := blk_cell BK1.out; replace z_BK1 := blk_frozen BK1.out
  replace HB := bH HB hb; clear hb
  replace H := H.out
  replace H := Option.bind_eq_some_iff.mp H
  obtain ⟨t202, hm, H⟩ := H
  try dsimp only at H
  replace H := Aside0.mk H
  have hcall := spec_l1In.calls _ _ _ _ W3  hm
  clear hm
  go_wp2_with fail
  refine hcall.mono ?_
  rintro e W4 ⟨rfl, hb⟩
  clear hcall
  replace BK1 := bK BK1 hb; replace c_BK1 := blk_cell BK1.out; replace z_BK1 := blk_frozen BK1.out
  replace HB := bH HB hb; clear hb
  replace H := H.out
  replace H := ifD H; rcases H with ⟨c5, H⟩ | ⟨c5, H⟩
  ·subst c5
   replace H := Option.bind_eq_some_iff.mp H
   obtain ⟨t203, hm, H⟩ := H
   try dsimp only at H
   replace H := Aside0.mk H
   have hcall := spec_IsTime.calls _ _ W4  hm
   clear hm
   go_wp2_with fail
   refine hcall.mono ?_
   rintro e W6 ⟨rfl, hb⟩
   clear hcall
   replace BK1 := bK BK1 hb; replace c_BK1 := blk_cell BK1.out; replace z_BK1 := blk_frozen BK1.out
   replace HB := bH HB hb; clear hb
   try go_wp2
   clear c_BK1 z_BK1; have rBK1 := BK1; replace BK1 := dK BK1
   have HBr := HB; replace HB := dH HB
   refine stA (n := 14) (S := fun w' => Below W6.heap.size W6 w') (by kernel_rfl) rfl (below_drew1 (Below.refl _ W6)) (by kernel_rfl) (fun hHeld => ?_)
   generalize W6.drew = W7 at HB BK1 hHeld ⊢
   replace H := H.out
   replace H := ifD H; rcases H with ⟨c8, H⟩ | ⟨c8, H⟩
   ·subst c8
    replace H := ifD H; rcases H with ⟨c9, H⟩ | ⟨c9, H⟩
    ·subst c9
     replace H := Option.bind_eq_some_iff.mp H
     obtain ⟨t204, hm, H⟩ := H
     try dsimp only at H
     replace hm := Aside0.mk hm
     replace H := Aside0.mk H
     refine pu 0 (some 35) 1 ?_; refine pu 1 (some 36) 3 ?_; refine pu 2 (some 37) 7 ?_; refine pu 3 (some 38) 15 ?_; refine pu 4 (some 39) 31 ?_; refine pu 5 (some 40) 63 ?_; refine pu 8 (some 43) 319 ?_; refine ld 6 (some 41) 383 hHeld ?_ (hr := by (intro w' h_; have y_ := kD rBK1 h_; go_simp; with_reducible rfl)); refine pu 7 (some 42) 511 ?_; refine ld 9 (some 44) 1023 hHeld ?_ (hr := by (intro w' h_; have y_ := kD rBK1 h_; go_simp; with_reducible rfl))
     refine on 10 (some 45) 2047 (fun K hK => ?_)
     have hcall := spec_ArityOf.calls _ _ W7  hm.out
     refine goes_ Tryz.func203 (by kernel_rfl) rfl #[.int .i64 a0_0] (by rfl) rfl rfl (by (try simp only [List.map_toArray, List.map_cons, List.map_nil]); first | done | rfl) ?_
     refine hcall.mono ?_
     rintro e W11 ⟨rfl, hb⟩
     refine ⟨_, rfl, ?_⟩
     clear hcall hm
     replace hHeld := below_step hHeld hb
     replace BK1 := bK BK1 hb
     replace HB := bH HB hb; clear hb
     refine hK.out _ _ hHeld (fun hHeld => ?_)
     clear hK K
     refine nr 45 ?_
     refine pu 11 (some 46) 4095 ?_; refine pu 12 (some 47) 8191 ?_; refine pu 13 (some 2) 16383 ?_
     refine dn (by kernel_rfl) ?_
     clear hHeld HBr rBK1
     have c_BK1 := blk_cell BK1.out; have z_BK1 := blk_frozen BK1.out
     replace H := H.out
     obtain rfl := Option.some.inj H
     clear H
     go_wp2
     go_ret
     exact ⟨rfl, HB.out⟩
    ·replace c9 := (Bool.not_eq_true _).mp c9
     subst c9
     replace H := Aside0.mk H
     refine pu 0 (some 35) 1 ?_; refine pu 1 (some 36) 3 ?_; refine pu 2 (some 37) 7 ?_; refine pu 3 (some 38) 15 ?_; refine pu 4 (some 39) 31 ?_; refine sk 5 (some 40) 63 ?_; refine sk 6 (some 41) 127 ?_; refine sk 7 (some 42) 255 ?_; refine sk 8 (some 43) 511 ?_; refine sk 9 (some 44) 1023 ?_; refine sk 10 (some 45) 2047 ?_; refine sk 11 (some 46) 4095 ?_; refine pu 12 (some 47) 8191 ?_; refine pu 13 (some 2) 16383 ?_
     refine dn (by kernel_rfl) ?_
     clear hHeld HBr rBK1
     have c_BK1 := blk_cell BK1.out; have z_BK1 := blk_frozen BK1.out
     replace H := H.out
     obtain rfl := Option.some.inj H
     clear H
     go_wp2
     go_ret
     exact ⟨rfl, HB.out⟩
   ·replace c8 := (Bool.not_eq_true _).mp c8
    subst c8
    replace H := Aside0.mk H
    refine pu 0 (some 35) 1 ?_; refine pu 1 (some 36) 3 ?_; refine sk 2 (some 37) 7 ?_; refine pu 3 (some 38) 15 ?_; refine pu 4 (some 39) 31 ?_; refine sk 5 (some 40) 63 ?_; refine sk 6 (some 41) 127 ?_; refine sk 7 (some 42) 255 ?_; refine sk 8 (some 43) 511 ?_; refine sk 9 (some 44) 1023 ?_; refine sk 10 (some 45) 2047 ?_; refine sk 11 (some 46) 4095 ?_; refine pu 12 (some 47) 8191 ?_; refine pu 13 (some 2) 16383 ?_
    refine dn (by kernel_rfl) ?_
    clear hHeld HBr rBK1
    have c_BK1 := blk_cell BK1.out; have z_BK1 := blk_frozen BK1.out
    replace H := H.out
    obtain rfl := Option.some.inj H
    clear H
    go_wp2
    go_ret
    exact ⟨rfl, HB.out⟩
  ·replace c5 := (Bool.not_eq_true _).mp c5
   subst c5
   replace H := Aside0.mk H
   try go_wp2
   clear c_BK1 z_BK1; have rBK1 := BK1; replace BK1 := dK BK1
   have HBr := HB; replace HB := dH HB
   refine stA (n := 14) (S := fun w' => Below W4.heap.size W4 w') (by kernel_rfl) rfl (below_drew1 (Below.refl _ W4)) (by kernel_rfl) (fun hHeld => ?_)
   generalize W4.drew = W12 at HB BK1 hHeld ⊢
   replace H := H.out
   replace H := ifD H; rcases H with ⟨c13, H⟩ | ⟨c13, H⟩
   ·subst c13
    replace H := ifD H; rcases H with ⟨c14, H⟩ | ⟨c14, H⟩
    ·have c14_0 := decT c14; have c14_1 := eqT c14; have c14_2 := neT c14
     clear c14
     first | rw [c14_1] | rw [c14_2] | skip
     replace H := Option.bind_eq_some_iff.mp H
     obtain ⟨t205, hm, H⟩ := H
     try dsimp only at H
     replace hm := Aside0.mk hm
     replace H := Aside0.mk H
     refine pu 0 (some 35) 1 ?_; refine pu 1 (some 36) 3 ?_; refine pu 2 (some 37) 7 ?_; refine pu 3 (some 38) 15 ?_; refine pu 4 (some 39) 31 ?_; refine pu 5 (some 40) 63 ?_; refine pu 8 (some 43) 319 ?_; refine ld 6 (some 41) 383 hHeld ?_ (hr := by (intro w' h_; have y_ := kD rBK1 h_; go_simp; with_reducible rfl)); refine pu 7 (some 42) 511 ?_; refine ld 9 (some 44) 1023 hHeld ?_ (hr := by (intro w' h_; have y_ := kD rBK1 h_; go_simp; with_reducible rfl))
     refine on 10 (some 45) 2047 (fun K hK => ?_)
     have hcall := spec_ArityOf.calls _ _ W12  hm.out
     refine goes_ Tryz.func203 (by kernel_rfl) rfl #[.int .i64 a0_0] (by rfl) rfl rfl (by (try simp only [List.map_toArray, List.map_cons, List.map_nil]); first | done | rfl) ?_
     refine hcall.mono ?_
     rintro e W16 ⟨rfl, hb⟩
     refine ⟨_, rfl, ?_⟩
     clear hcall hm
     replace hHeld := below_step hHeld hb
     replace BK1 := bK BK1 hb
     replace HB := bH HB hb; clear hb
     refine hK.out _ _ hHeld (fun hHeld => ?_)
     clear hK K
     refine nr 45 ?_
     refine pu 11 (some 46) 4095 ?_; refine pu 12 (some 47) 8191 ?_; refine pu 13 (some 2) 16383 ?_
     refine dn (by kernel_rfl) ?_
     clear hHeld HBr rBK1
     have c_BK1 := blk_cell BK1.out; have z_BK1 := blk_frozen BK1.out
     replace H := H.out
     obtain rfl := Option.some.inj H
     clear H
     go_wp2
     go_ret
     exact ⟨rfl, HB.out⟩
    ·have c14_0 := decF c14; have c14_1 := eqF c14; have c14_2 := neF c14
     clear c14
     first | rw [c14_1] | rw [c14_2] | skip
     replace H := Aside0.mk H
     refine pu 0 (some 35) 1 ?_; refine pu 1 (some 36) 3 ?_; refine pu 2 (some 37) 7 ?_; refine pu 3 (some 38) 15 ?_; refine pu 4 (some 39) 31 ?_; refine sk 5 (some 40) 63 ?_; refine sk 6 (some 41) 127 ?_; refine sk 7 (some 42) 255 ?_; refine sk 8 (some 43) 511 ?_; refine sk 9 (some 44) 1023 ?_; refine sk 10 (some 45) 2047 ?_; refine sk 11 (some 46) 4095 ?_; refine pu 12 (some 47) 8191 ?_; refine pu 13 (some 2) 16383 ?_
     refine dn (by kernel_rfl) ?_
     clear hHeld HBr rBK1
     have c_BK1 := blk_cell BK1.out; have z_BK1 := blk_frozen BK1.out
     replace H := H.out
     obtain rfl := Option.some.inj H
     clear H
     go_wp2
     go_ret
     exact ⟨rfl, HB.out⟩
   ·replace c13 := (Bool.not_eq_true _).mp c13
    subst c13
    replace H := Aside0.mk H
    refine pu 0 (some 35) 1 ?_; refine pu 1 (some 36) 3 ?_; refine sk 2 (some 37) 7 ?_; refine pu 3 (some 38) 15 ?_; refine pu 4 (some 39) 31 ?_; refine sk 5 (some 40) 63 ?_; refine sk 6 (some 41) 127 ?_; refine sk 7 (some 42) 255 ?_; refine sk 8 (some 43) 511 ?_; refine sk 9 (some 44) 1023 ?_; refine sk 10 (some 45) 2047 ?_; refine sk 11 (some 46) 4095 ?_; refine pu 12 (some 47) 8191 ?_; refine pu 13 (some 2) 16383 ?_
    refine dn (by kernel_rfl) ?_
    clear hHeld HBr rBK1
    have c_BK1 := blk_cell BK1.out; have z_BK1 := blk_frozen BK1.out
    replace H := H.out
    obtain rfl := Option.some.inj H
    clear H
    go_wp2
    go_ret
    exact ⟨rfl, HB.out⟩
 ·have c2_0 := decF c2; have c2_1 := eqF c2; have c2_2 := neF c2
  clear c2
  first | rw [c2_1] | rw [c2_2] | skip
  replace H := ifD H; rcases H with ⟨c17, H⟩ | ⟨c17, H⟩
  ·have c17_0 := decT c17; have c17_1 := eqT c17; have c17_2 := neT c17
   clear c17
   first | rw [c17_1] | rw [c17_2] | skip
   replace H := Option.bind_eq_some_iff.mp H
   obtain ⟨t206, hm, H⟩ := H
   try dsimp only at H
   replace H := Aside0.mk H
   have hcall := spec_l1In.calls _ _ _ _ W1  hm
   clear hm
   go_wp2_with fail
   refine hcall.mono ?_
   rintro e W18 ⟨rfl, hb⟩
   clear hcall
   replace BK1 := bK BK1 hb; replace c_BK1 := blk_cell BK1.out; replace z_BK1 := blk_frozen BK1.out
   replace HB := bH HB hb; clear hb
   replace H := H.out
   replace H := Option.bind_eq_some_iff.mp H
   obtain ⟨t207, hm, H⟩ := H
   try dsimp only at H
   replace H := Aside0.mk H
   have hcall := spec_l1In.calls _ _ _ _ W18  hm
   clear hm
   go_wp2_with fail
   refine hcall.mono ?_
   rintro e W19 ⟨rfl, hb⟩
   clear hcall
   replace BK1 := bK BK1 hb; replace c_BK1 := blk_cell BK1.out; replace z_BK1 := blk_frozen BK1.out
   replace HB := bH HB hb; clear hb
   replace H := H.out
   replace H := ifD H; rcases H with ⟨c20, H⟩ | ⟨c20, H⟩
   ·subst c20
    replace H := Option.bind_eq_some_iff.mp H
    obtain ⟨t208, hm, H⟩ := H
    try dsimp only at H
    replace H := Aside0.mk H
    have hcall := spec_IsTime.calls _ _ W19  hm
    clear hm
    go_wp2_with fail
    refine hcall.mono ?_
    rintro e W21 ⟨rfl, hb⟩
    clear hcall
    replace BK1 := bK BK1 hb; replace c_BK1 := blk_cell BK1.out; replace z_BK1 := blk_frozen BK1.out
    replace HB := bH HB hb; clear hb
    try go_wp2
    clear c_BK1 z_BK1; have rBK1 := BK1; replace BK1 := dK BK1
    have HBr := HB; replace HB := dH HB
    refine stA (n := 14) (S := fun w' => Below W21.heap.size W21 w') (by kernel_rfl) rfl (below_drew1 (Below.refl _ W21)) (by kernel_rfl) (fun hHeld => ?_)
    generalize W21.drew = W22 at HB BK1 hHeld ⊢
    replace H := H.out
    replace H := ifD H; rcases H with ⟨c23, H⟩ | ⟨c23, H⟩
    ·subst c23
     replace H := ifD H; rcases H with ⟨c24, H⟩ | ⟨c24, H⟩
     ·subst c24
      replace H := Option.bind_eq_some_iff.mp H
      obtain ⟨t209, hm, H⟩ := H
      try dsimp only at H
      replace hm := Aside0.mk hm
      replace H := Aside0.mk H
      refine pu 0 (some 35) 1 ?_; refine pu 1 (some 36) 3 ?_; refine pu 2 (some 37) 7 ?_; refine pu 3 (some 38) 15 ?_; refine pu 4 (some 39) 31 ?_; refine pu 5 (some 40) 63 ?_; refine pu 8 (some 43) 319 ?_; refine ld 6 (some 41) 383 hHeld ?_ (hr := by (intro w' h_; have y_ := kD rBK1 h_; go_simp; with_reducible rfl)); refine pu 7 (some 42) 511 ?_; refine ld 9 (some 44) 1023 hHeld ?_ (hr := by (intro w' h_; have y_ := kD rBK1 h_; go_simp; with_reducible rfl))
      refine on 10 (some 45) 2047 (fun K hK => ?_)
      have hcall := spec_ArityOf.calls _ _ W22  hm.out
      refine goes_ Tryz.func203 (by kernel_rfl) rfl #[.int .i64 a0_0] (by rfl) rfl rfl (by (try simp only [List.map_toArray, List.map_cons, List.map_nil]); first | done | rfl) ?_
      refine hcall.mono ?_
      rintro e W26 ⟨rfl, hb⟩
      refine ⟨_, rfl, ?_⟩
      clear hcall hm
      replace hHeld := below_step hHeld hb
      replace BK1 := bK BK1 hb
      replace HB := bH HB hb; clear hb
      refine hK.out _ _ hHeld (fun hHeld => ?_)
      clear hK K
      refine nr 45 ?_
      refine pu 11 (some 46) 4095 ?_; refine pu 12 (some 47) 8191 ?_; refine pu 13 (some 2) 16383 ?_
      refine dn (by kernel_rfl) ?_
      clear hHeld HBr rBK1
      have c_BK1 := blk_cell BK1.out; have z_BK1 := blk_frozen BK1.out
      replace H := H.out
      obtain rfl := Option.some.inj H
      clear H
      go_wp2
      go_ret
      exact ⟨rfl, HB.out⟩
     ·replace c24 := (Bool.not_eq_true _).mp c24
      subst c24
      replace H := Aside0.mk H
      refine pu 0 (some 35) 1 ?_; refine pu 1 (some 36) 3 ?_; refine pu 2 (some 37) 7 ?_; refine pu 3 (some 38) 15 ?_; refine pu 4 (some 39) 31 ?_; refine sk 5 (some 40) 63 ?_; refine sk 6 (some 41) 127 ?_; refine sk 7 (some 42) 255 ?_; refine sk 8 (some 43) 511 ?_; refine sk 9 (some 44) 1023 ?_; refine sk 10 (some 45) 2047 ?_; refine sk 11 (some 46) 4095 ?_; refine pu 12 (some 47) 8191 ?_; refine pu 13 (some 2) 16383 ?_
      refine dn (by kernel_rfl) ?_
      clear hHeld HBr rBK1
      have c_BK1 := blk_cell BK1.out; have z_BK1 := blk_frozen BK1.out
      replace H := H.out
      obtain rfl := Option.some.inj H
      clear H
      go_wp2
      go_ret
      exact ⟨rfl, HB.out⟩
    ·replace c23 := (Bool.not_eq_true _).mp c23
     subst c23
     replace H := Aside0.mk H
     refine pu 0 (some 35) 1 ?_; refine pu 1 (some 36) 3 ?_; refine sk 2 (some 37) 7 ?_; refine pu 3 (some 38) 15 ?_; refine pu 4 (some 39) 31 ?_; refine sk 5 (some 40) 63 ?_; refine sk 6 (some 41) 127 ?_; refine sk 7 (some 42) 255 ?_; refine sk 8 (some 43) 511 ?_; refine sk 9 (some 44) 1023 ?_; refine sk 10 (some 45) 2047 ?_; refine sk 11 (some 46) 4095 ?_; refine pu 12 (some 47) 8191 ?_; refine pu 13 (some 2) 16383 ?_
     refine dn (by kernel_rfl) ?_
     clear hHeld HBr rBK1
     have c_BK1 := blk_cell BK1.out; have z_BK1 := blk_frozen BK1.out
     replace H := H.out
     obtain rfl := Option.some.inj H
     clear H
     go_wp2
     go_ret
     exact ⟨rfl, HB.out⟩
   ·replace c20 := (Bool.not_eq_true _).mp c20
    subst c20
    replace H := Aside0.mk H
    try go_wp2
    clear c_BK1 z_BK1; have rBK1 := BK1; replace BK1 := dK BK1
    have HBr := HB; replace HB := dH HB
    refine stA (n := 14) (S := fun w' => Below W19.heap.size W19 w') (by kernel_rfl) rfl (below_drew1 (Below.refl _ W19)) (by kernel_rfl) (fun hHeld => ?_)
    generalize W19.drew = W27 at HB BK1 hHeld ⊢
    replace H := H.out
    replace H := ifD H; rcases H with ⟨c28, H⟩ | ⟨c28, H⟩
    ·subst c28
     replace H := ifD H; rcases H with ⟨c29, H⟩ | ⟨c29, H⟩
     ·have c29_0 := decT c29; have c29_1 := eqT c29; have c29_2 := neT c29
      clear c29
      first | rw [c29_1] | rw [c29_2] | skip
      replace H := Option.bind_eq_some_iff.mp H
      obtain ⟨t210, hm, H⟩ := H
      try dsimp only at H
      replace hm := Aside0.mk hm
      replace H := Aside0.mk H
      refine pu 0 (some 35) 1 ?_; refine pu 1 (some 36) 3 ?_; refine pu 2 (some 37) 7 ?_; refine pu 3 (some 38) 15 ?_; refine pu 4 (some 39) 31 ?_; refine pu 5 (some 40) 63 ?_; refine pu 8 (some 43) 319 ?_; refine ld 6 (some 41) 383 hHeld ?_ (hr := by (intro w' h_; have y_ := kD rBK1 h_; go_simp; with_reducible rfl)); refine pu 7 (some 42) 511 ?_; refine ld 9 (some 44) 1023 hHeld ?_ (hr := by (intro w' h_; have y_ := kD rBK1 h_; go_simp; with_reducible rfl))
      refine on 10 (some 45) 2047 (fun K hK => ?_)
      have hcall := spec_ArityOf.calls _ _ W27  hm.out
      refine goes_ Tryz.func203 (by kernel_rfl) rfl #[.int .i64 a0_0] (by rfl) rfl rfl (by (try simp only [List.map_toArray, List.map_cons, List.map_nil]); first | done | rfl) ?_
      refine hcall.mono ?_
      rintro e W31 ⟨rfl, hb⟩
      refine ⟨_, rfl, ?_⟩
      clear hcall hm
      replace hHeld := below_step hHeld hb
      replace BK1 := bK BK1 hb
      replace HB := bH HB hb; clear hb
      refine hK.out _ _ hHeld (fun hHeld => ?_)
      clear hK K
      refine nr 45 ?_
      refine pu 11 (some 46) 4095 ?_; refine pu 12 (some 47) 8191 ?_; refine pu 13 (some 2) 16383 ?_
      refine dn (by kernel_rfl) ?_
      clear hHeld HBr rBK1
      have c_BK1 := blk_cell BK1.out; have z_BK1 := blk_frozen BK1.out
      replace H := H.out
      obtain rfl := Option.some.inj H
      clear H
      go_wp2
      go_ret
      exact ⟨rfl, HB.out⟩
     ·have c29_0 := decF c29; have c29_1 := eqF c29; have c29_2 := neF c29
      clear c29
      first | rw [c29_1] | rw [c29_2] | skip
      replace H := Aside0.mk H
      refine pu 0 (some 35) 1 ?_; refine pu 1 (some 36) 3 ?_; refine pu 2 (some 37) 7 ?_; refine pu 3 (some 38) 15 ?_; refine pu 4 (some 39) 31 ?_; refine sk 5 (some 40) 63 ?_; refine sk 6 (some 41) 127 ?_; refine sk 7 (some 42) 255 ?_; refine sk 8 (some 43) 511 ?_; refine sk 9 (some 44) 1023 ?_; refine sk 10 (some 45) 2047 ?_; refine sk 11 (some 46) 4095 ?_; refine pu 12 (some 47) 8191 ?_; refine pu 13 (some 2) 16383 ?_
      refine dn (by kernel_rfl) ?_
      clear hHeld HBr rBK1
      have c_BK1 := blk_cell BK1.out; have z_BK1 := blk_frozen BK1.out
      replace H := H.out
      obtain rfl := Option.some.inj H
      clear H
      go_wp2
      go_ret
      exact ⟨rfl, HB.out⟩
    ·replace c28 := (Bool.not_eq_true _).mp c28
     subst c28
     replace H := Aside0.mk H
     refine pu 0 (some 35) 1 ?_; refine pu 1 (some 36) 3 ?_; refine sk 2 (some 37) 7 ?_; refine pu 3 (some 38) 15 ?_; refine pu 4 (some 39) 31 ?_; refine sk 5 (some 40) 63 ?_; refine sk 6 (some 41) 127 ?_; refine sk 7 (some 42) 255 ?_; refine sk 8 (some 43) 511 ?_; refine sk 9 (some 44) 1023 ?_; refine sk 10 (some 45) 2047 ?_; refine sk 11 (some 46) 4095 ?_; refine pu 12 (some 47) 8191 ?_; refine pu 13 (some 2) 16383 ?_
     refine dn (by kernel_rfl) ?_
     clear hHeld HBr rBK1
     have c_BK1 := blk_cell BK1.out; have z_BK1 := blk_frozen BK1.out
     replace H := H.out
     obtain rfl := Option.some.inj H
     clear H
     go_wp2
     go_ret
     exact ⟨rfl, HB.out⟩
  ·have c17_0 := decF c17; have c17_1 := eqF c17; have c17_2 := neF c17
   clear c17
   first | rw [c17_1] | rw [c17_2] | skip
   replace H := ifD H; rcases H with ⟨c32, H⟩ | ⟨c32, H⟩
   ·have c32_0 := decT c32; have c32_1 := eqT c32; have c32_2 := neT c32
    clear c32
    first | rw [c32_1] | rw [c32_2] | skip
    replace H := Option.bind_eq_some_iff.mp H
    obtain ⟨t211, hm, H⟩ := H
    try dsimp only at H
    replace H := Aside0.mk H
    have hcall := spec_l1In.calls _ _ _ _ W1  hm
    clear hm
    go_wp2_with fail
    refine hcall.mono ?_
    rintro e W33 ⟨rfl, hb⟩
    clear hcall
    replace BK1 := bK BK1 hb; replace c_BK1 := blk_cell BK1.out; replace z_BK1 := blk_frozen BK1.out
    replace HB := bH HB hb; clear hb
    replace H := H.out
    replace H := Option.bind_eq_some_iff.mp H
    obtain ⟨t212, hm, H⟩ := H
    try dsimp only at H
    replace H := Aside0.mk H
    have hcall := spec_l1In.calls _ _ _ _ W33  hm
    clear hm
    go_wp2_with fail
    refine hcall.mono ?_
    rintro e W34 ⟨rfl, hb⟩
    clear hcall
    replace BK1 := bK BK1 hb; replace c_BK1 := blk_cell BK1.out; replace z_BK1 := blk_frozen BK1.out
    replace HB := bH HB hb; clear hb
    replace H := H.out
    replace H := ifD H; rcases H with ⟨c35, H⟩ | ⟨c35, H⟩
    ·subst c35
     replace H := Option.bind_eq_some_iff.mp H
     obtain ⟨t213, hm, H⟩ := H
     try dsimp only at H
     replace H := Aside0.mk H
     have hcall := spec_IsTime.calls _ _ W34  hm
     clear hm
     go_wp2_with fail
     refine hcall.mono ?_
     rintro e W36 ⟨rfl, hb⟩
     clear hcall
     replace BK1 := bK BK1 hb; replace c_BK1 := blk_cell BK1.out; replace z_BK1 := blk_frozen BK1.out
     replace HB := bH HB hb; clear hb
     try go_wp2
     clear c_BK1 z_BK1; have rBK1 := BK1; replace BK1 := dK BK1
     have HBr := HB; replace HB := dH HB
     refine stA (n := 14) (S := fun w' => Below W36.heap.size W36 w') (by kernel_rfl) rfl (below_drew1 (Below.refl _ W36)) (by kernel_rfl) (fun hHeld => ?_)
     generalize W36.drew = W37 at HB BK1 hHeld ⊢
     replace H := H.out
     replace H := ifD H; rcases H with ⟨c38, H⟩ | ⟨c38, H⟩
     ·subst c38
      replace H := ifD H; rcases H with ⟨c39, H⟩ | ⟨c39, H⟩
      ·subst c39
       replace H := Option.bind_eq_some_iff.mp H
       obtain ⟨t214, hm, H⟩ := H
       try dsimp only at H
       replace hm := Aside0.mk hm
       replace H := Aside0.mk H
       refine pu 0 (some 35) 1 ?_; refine pu 1 (some 36) 3 ?_; refine pu 2 (some 37) 7 ?_; refine pu 3 (some 38) 15 ?_; refine pu 4 (some 39) 31 ?_; refine pu 5 (some 40) 63 ?_; refine pu 8 (some 43) 319 ?_; refine ld 6 (some 41) 383 hHeld ?_ (hr := by (intro w' h_; have y_ := kD rBK1 h_; go_simp; with_reducible rfl)); refine pu 7 (some 42) 511 ?_; refine ld 9 (some 44) 1023 hHeld ?_ (hr := by (intro w' h_; have y_ := kD rBK1 h_; go_simp; with_reducible rfl))
       refine on 10 (some 45) 2047 (fun K hK => ?_)
       have hcall := spec_ArityOf.calls _ _ W37  hm.out
       refine goes_ Tryz.func203 (by kernel_rfl) rfl #[.int .i64 a0_0] (by rfl) rfl rfl (by (try simp only [List.map_toArray, List.map_cons, List.map_nil]); first | done | rfl) ?_
       refine hcall.mono ?_
       rintro e W41 ⟨rfl, hb⟩
       refine ⟨_, rfl, ?_⟩
       clear hcall hm
       replace hHeld := below_step hHeld hb
       replace BK1 := bK BK1 hb
       replace HB := bH HB hb; clear hb
       refine hK.out _ _ hHeld (fun hHeld => ?_)
       clear hK K
       refine nr 45 ?_
       refine pu 11 (some 46) 4095 ?_; refine pu 12 (some 47) 8191 ?_; refine pu 13 (some 2) 16383 ?_
       refine dn (by kernel_rfl) ?_
       clear hHeld HBr rBK1
       have c_BK1 := blk_cell BK1.out; have z_BK1 := blk_frozen BK1.out
       replace H := H.out
       obtain rfl := Option.some.inj H
       clear H
       go_wp2
       go_ret
       exact ⟨rfl, HB.out⟩
      ·replace c39 := (Bool.not_eq_true _).mp c39
       subst c39
       replace H := Aside0.mk H
       refine pu 0 (some 35) 1 ?_; refine pu 1 (some 36) 3 ?_; refine pu 2 (some 37) 7 ?_; refine pu 3 (some 38) 15 ?_; refine pu 4 (some 39) 31 ?_; refine sk 5 (some 40) 63 ?_; refine sk 6 (some 41) 127 ?_; refine sk 7 (some 42) 255 ?_; refine sk 8 (some 43) 511 ?_; refine sk 9 (some 44) 1023 ?_; refine sk 10 (some 45) 2047 ?_; refine sk 11 (some 46) 4095 ?_; refine pu 12 (some 47) 8191 ?_; refine pu 13 (some 2) 16383 ?_
       refine dn (by kernel_rfl) ?_
       clear hHeld HBr rBK1
       have c_BK1 := blk_cell BK1.out; have z_BK1 := blk_frozen BK1.out
       replace H := H.out
       obtain rfl := Option.some.inj H
       clear H
       go_wp2
       go_ret
       exact ⟨rfl, HB.out⟩
     ·replace c38 := (Bool.not_eq_true _).mp c38
      subst c38
      replace H := Aside0.mk H
      refine pu 0 (some 35) 1 ?_; refine pu 1 (some 36) 3 ?_; refine sk 2 (some 37) 7 ?_; refine pu 3 (some 38) 15 ?_; refine pu 4 (some 39) 31 ?_; refine sk 5 (some 40) 63 ?_; refine sk 6 (some 41) 127 ?_; refine sk 7 (some 42) 255 ?_; refine sk 8 (some 43) 511 ?_; refine sk 9 (some 44) 1023 ?_; refine sk 10 (some 45) 2047 ?_; refine sk 11 (some 46) 4095 ?_; refine pu 12 (some 47) 8191 ?_; refine pu 13 (some 2) 16383 ?_
      refine dn (by kernel_rfl) ?_
      clear hHeld HBr rBK1
      have c_BK1 := blk_cell BK1.out; have z_BK1 := blk_frozen BK1.out
      replace H := H.out
      obtain rfl := Option.some.inj H
      clear H
      go_wp2
      go_ret
      exact ⟨rfl, HB.out⟩
    ·replace c35 := (Bool.not_eq_true _).mp c35
     subst c35
     replace H := Aside0.mk H
     try go_wp2
     clear c_BK1 z_BK1; have rBK1 := BK1; replace BK1 := dK BK1
     have HBr := HB; replace HB := dH HB
     refine stA (n := 14) (S := fun w' => Below W34.heap.size W34 w') (by kernel_rfl) rfl (below_drew1 (Below.refl _ W34)) (by kernel_rfl) (fun hHeld => ?_)
     generalize W34.drew = W42 at HB BK1 hHeld ⊢
     replace H := H.out
     replace H := ifD H; rcases H with ⟨c43, H⟩ | ⟨c43, H⟩
     ·subst c43
      replace H := ifD H; rcases H with ⟨c44, H⟩ | ⟨c44, H⟩
      ·have c44_0 := decT c44; have c44_1 := eqT c44; have c44_2 := neT c44
       clear c44
       first | rw [c44_1] | rw [c44_2] | skip
       replace H := Option.bind_eq_some_iff.mp H
       obtain ⟨t215, hm, H⟩ := H
       try dsimp only at H
       replace hm := Aside0.mk hm
       replace H := Aside0.mk H
       refine pu 0 (some 35) 1 ?_; refine pu 1 (some 36) 3 ?_; refine pu 2 (some 37) 7 ?_; refine pu 3 (some 38) 15 ?_; refine pu 4 (some 39) 31 ?_; refine pu 5 (some 40) 63 ?_; refine pu 8 (some 43) 319 ?_; refine ld 6 (some 41) 383 hHeld ?_ (hr := by (intro w' h_; have y_ := kD rBK1 h_; go_simp; with_reducible rfl)); refine pu 7 (some 42) 511 ?_; refine ld 9 (some 44) 1023 hHeld ?_ (hr := by (intro w' h_; have y_ := kD rBK1 h_; go_simp; with_reducible rfl))
       refine on 10 (some 45) 2047 (fun K hK => ?_)
       have hcall := spec_ArityOf.calls _ _ W42  hm.out
       refine goes_ Tryz.func203 (by kernel_rfl) rfl #[.int .i64 a0_0] (by rfl) rfl rfl (by (try simp only [List.map_toArray, List.map_cons, List.map_nil]); first | done | rfl) ?_
       refine hcall.mono ?_
       rintro e W46 ⟨rfl, hb⟩
       refine ⟨_, rfl, ?_⟩
       clear hcall hm
       replace hHeld := below_step hHeld hb
       replace BK1 := bK BK1 hb
       replace HB := bH HB hb; clear hb
       refine hK.out _ _ hHeld (fun hHeld => ?_)
       clear hK K
       refine nr 45 ?_
       refine pu 11 (some 46) 4095 ?_; refine pu 12 (some 47) 8191 ?_; refine pu 13 (some 2) 16383 ?_
       refine dn (by kernel_rfl) ?_
       clear hHeld HBr rBK1
       have c_BK1 := blk_cell BK1.out; have z_BK1 := blk_frozen BK1.out
       replace H := H.out
       obtain rfl := Option.some.inj H
       clear H
       go_wp2
       go_ret
       exact ⟨rfl, HB.out⟩
      ·have c44_0 := decF c44; have c44_1 := eqF c44; have c44_2 := neF c44
       clear c44
       first | rw [c44_1] | rw [c44_2] | skip
       replace H := Aside0.mk H
       refine pu 0 (some 35) 1 ?_; refine pu 1 (some 36) 3 ?_; refine pu 2 (some 37) 7 ?_; refine pu 3 (some 38) 15 ?_; refine pu 4 (some 39) 31 ?_; refine sk 5 (some 40) 63 ?_; refine sk 6 (some 41) 127 ?_; refine sk 7 (some 42) 255 ?_; refine sk 8 (some 43) 511 ?_; refine sk 9 (some 44) 1023 ?_; refine sk 10 (some 45) 2047 ?_; refine sk 11 (some 46) 4095 ?_; refine pu 12 (some 47) 8191 ?_; refine pu 13 (some 2) 16383 ?_
       refine dn (by kernel_rfl) ?_
       clear hHeld HBr rBK1
       have c_BK1 := blk_cell BK1.out; have z_BK1 := blk_frozen BK1.out
       replace H := H.out
       obtain rfl := Option.some.inj H
       clear H
       go_wp2
       go_ret
       exact ⟨rfl, HB.out⟩
     ·replace c43 := (Bool.not_eq_true _).mp c43
      subst c43
      replace H := Aside0.mk H
      refine pu 0 (some 35) 1 ?_; refine pu 1 (some 36) 3 ?_; refine sk 2 (some 37) 7 ?_; refine pu 3 (some 38) 15 ?_; refine pu 4 (some 39) 31 ?_; refine sk 5 (some 40) 63 ?_; refine sk 6 (some 41) 127 ?_; refine sk 7 (some 42) 255 ?_; refine sk 8 (some 43) 511 ?_; refine sk 9 (some 44) 1023 ?_; refine sk 10 (some 45) 2047 ?_; refine sk 11 (some 46) 4095 ?_; refine pu 12 (some 47) 8191 ?_; refine pu 13 (some 2) 16383 ?_
      refine dn (by kernel_rfl) ?_
      clear hHeld HBr rBK1
      have c_BK1 := blk_cell BK1.out; have z_BK1 := blk_frozen BK1.out
      replace H := H.out
      obtain rfl := Option.some.inj H
      clear H
      go_wp2
      go_ret
      exact ⟨rfl, HB.out⟩
   ·have c32_0 := decF c32; have c32_1 := eqF c32; have c32_2 := neF c32
    clear c32
    first | rw [c32_1] | rw [c32_2] | skip
    replace H := ifD H; rcases H with ⟨c47, H⟩ | ⟨c47, H⟩
    ·have c47_0 := decT c47; have c47_1 := eqT c47; have c47_2 := neT c47
     clear c47
     first | rw [c47_1] | rw [c47_2] | skip
     replace H := Option.bind_eq_some_iff.mp H
     obtain ⟨t216, hm, H⟩ := H
     try dsimp only at H
     replace H := Aside0.mk H
     have hcall := spec_IsTime.calls _ _ W1  hm
     clear hm
     go_wp2_with fail
     refine hcall.mono ?_
     rintro e W48 ⟨rfl, hb⟩
     clear hcall
     replace BK1 := bK BK1 hb; replace c_BK1 := blk_cell BK1.out; replace z_BK1 := blk_frozen BK1.out
     replace HB := bH HB hb; clear hb
     replace H := H.out
     replace H := Option.bind_eq_some_iff.mp H
     obtain ⟨t217, hm, H⟩ := H
     try dsimp only at H
     replace H := Aside0.mk H
     have hcall := spec_l1In.calls _ _ _ _ W48  hm
     clear hm
     go_wp2_with fail
     refine hcall.mono ?_
     rintro e W49 ⟨rfl, hb⟩
     clear hcall
     replace BK1 := bK BK1 hb; replace c_BK1 := blk_cell BK1.out; replace z_BK1 := blk_frozen BK1.out
     replace HB := bH HB hb; clear hb
     replace H := H.out
     replace H := ifD H; rcases H with ⟨c50, H⟩ | ⟨c50, H⟩
     ·subst c50
      replace H := Option.bind_eq_some_iff.mp H
      obtain ⟨t218, hm, H⟩ := H
      try dsimp only at H
      replace H := Aside0.mk H
      have hcall := spec_IsTime.calls _ _ W49  hm
      clear hm
      go_wp2_with fail
      refine hcall.mono ?_
      rintro e W51 ⟨rfl, hb⟩
      clear hcall
      replace BK1 := bK BK1 hb; replace c_BK1 := blk_cell BK1.out; replace z_BK1 := blk_frozen BK1.out
      replace HB := bH HB hb; clear hb
      try go_wp2
      clear c_BK1 z_BK1; have rBK1 := BK1; replace BK1 := dK BK1
      have HBr := HB; replace HB := dH HB
      refine stA (n := 14) (S := fun w' => Below W51.heap.size W51 w') (by kernel_rfl) rfl (below_drew1 (Below.refl _ W51)) (by kernel_rfl) (fun hHeld => ?_)
      generalize W51.drew = W52 at HB BK1 hHeld ⊢
      replace H := H.out
      replace H := ifD H; rcases H with ⟨c53, H⟩ | ⟨c53, H⟩
      ·subst c53
       replace H := ifD H; rcases H with ⟨c54, H⟩ | ⟨c54, H⟩
       ·subst c54
        replace H := Option.bind_eq_some_iff.mp H
        obtain ⟨t219, hm, H⟩ := H
        try dsimp only at H
        replace hm := Aside0.mk hm
        replace H := Aside0.mk H
        refine pu 0 (some 35) 1 ?_; refine pu 1 (some 36) 3 ?_; refine pu 2 (some 37) 7 ?_; refine pu 3 (some 38) 15 ?_; refine pu 4 (some 39) 31 ?_; refine pu 5 (some 40) 63 ?_; refine pu 8 (some 43) 319 ?_; refine ld 6 (some 41) 383 hHeld ?_ (hr := by (intro w' h_; have y_ := kD rBK1 h_; go_simp; with_reducible rfl)); refine pu 7 (some 42) 511 ?_; refine ld 9 (some 44) 1023 hHeld ?_ (hr := by (intro w' h_; have y_ := kD rBK1 h_; go_simp; with_reducible rfl))
        refine on 10 (some 45) 2047 (fun K hK => ?_)
        have hcall := spec_ArityOf.calls _ _ W52  hm.out
        refine goes_ Tryz.func203 (by kernel_rfl) rfl #[.int .i64 a0_0] (by rfl) rfl rfl (by (try simp only [List.map_toArray, List.map_cons, List.map_nil]); first | done | rfl) ?_
        refine hcall.mono ?_
        rintro e W56 ⟨rfl, hb⟩
        refine ⟨_, rfl, ?_⟩
        clear hcall hm
        replace hHeld := below_step hHeld hb
        replace BK1 := bK BK1 hb
        replace HB := bH HB hb; clear hb
        refine hK.out _ _ hHeld (fun hHeld => ?_)
        clear hK K
        refine nr 45 ?_
        refine pu 11 (some 46) 4095 ?_; refine pu 12 (some 47) 8191 ?_; refine pu 13 (some 2) 16383 ?_
        refine dn (by kernel_rfl) ?_
        clear hHeld HBr rBK1
        have c_BK1 := blk_cell BK1.out; have z_BK1 := blk_frozen BK1.out
        replace H := H.out
        obtain rfl := Option.some.inj H
        clear H
        go_wp2
        go_ret
        exact ⟨rfl, HB.out⟩
       ·replace c54 := (Bool.not_eq_true _).mp c54
        subst c54
        replace H := Aside0.mk H
        refine pu 0 (some 35) 1 ?_; refine pu 1 (some 36) 3 ?_; refine pu 2 (some 37) 7 ?_; refine pu 3 (some 38) 15 ?_; refine pu 4 (some 39) 31 ?_; refine sk 5 (some 40) 63 ?_; refine sk 6 (some 41) 127 ?_; refine sk 7 (some 42) 255 ?_; refine sk 8 (some 43) 511 ?_; refine sk 9 (some 44) 1023 ?_; refine sk 10 (some 45) 2047 ?_; refine sk 11 (some 46) 4095 ?_; refine pu 12 (some 47) 8191 ?_; refine pu 13 (some 2) 16383 ?_
        refine dn (by kernel_rfl) ?_
        clear hHeld HBr rBK1
        have c_BK1 := blk_cell BK1.out; have z_BK1 := blk_frozen BK1.out
        replace H := H.out
        obtain rfl := Option.some.inj H
        clear H
        go_wp2
        go_ret
        exact ⟨rfl, HB.out⟩
      ·replace c53 := (Bool.not_eq_true _).mp c53
       subst c53
       replace H := Aside0.mk H
       refine pu 0 (some 35) 1 ?_; refine pu 1 (some 36) 3 ?_; refine sk 2 (some 37) 7 ?_; refine pu 3 (some 38) 15 ?_; refine pu 4 (some 39) 31 ?_; refine sk 5 (some 40) 63 ?_; refine sk 6 (some 41) 127 ?_; refine sk 7 (some 42) 255 ?_; refine sk 8 (some 43) 511 ?_; refine sk 9 (some 44) 1023 ?_; refine sk 10 (some 45) 2047 ?_; refine sk 11 (some 46) 4095 ?_; refine pu 12 (some 47) 8191 ?_; refine pu 13 (some 2) 16383 ?_
       refine dn (by kernel_rfl) ?_
       clear hHeld HBr rBK1
       have c_BK1 := blk_cell BK1.out; have z_BK1 := blk_frozen BK1.out
       replace H := H.out
       obtain rfl := Option.some.inj H
       clear H
       go_wp2
       go_ret
       exact ⟨rfl, HB.out⟩
     ·replace c50 := (Bool.not_eq_true _).mp c50
      subst c50
      replace H := Aside0.mk H
      try go_wp2
      clear c_BK1 z_BK1; have rBK1 := BK1; replace BK1 := dK BK1
      have HBr := HB; replace HB := dH HB
      refine stA (n := 14) (S := fun w' => Below W49.heap.size W49 w') (by kernel_rfl) rfl (below_drew1 (Below.refl _ W49)) (by kernel_rfl) (fun hHeld => ?_)
      generalize W49.drew = W57 at HB BK1 hHeld ⊢
      replace H := H.out
      replace H := ifD H; rcases H with ⟨c58, H⟩ | ⟨c58, H⟩
      ·subst c58
       replace H := ifD H; rcases H with ⟨c59, H⟩ | ⟨c59, H⟩
       ·have c59_0 := decT c59; have c59_1 := eqT c59; have c59_2 := neT c59
        clear c59
        first | rw [c59_1] | rw [c59_2] | skip
        replace H := Option.bind_eq_some_iff.mp H
        obtain ⟨t220, hm, H⟩ := H
        try dsimp only at H
        replace hm := Aside0.mk hm
        replace H := Aside0.mk H
        refine pu 0 (some 35) 1 ?_; refine pu 1 (some 36) 3 ?_; refine pu 2 (some 37) 7 ?_; refine pu 3 (some 38) 15 ?_; refine pu 4 (some 39) 31 ?_; refine pu 5 (some 40) 63 ?_; refine pu 8 (some 43) 319 ?_; refine ld 6 (some 41) 383 hHeld ?_ (hr := by (intro w' h_; have y_ := kD rBK1 h_; go_simp; with_reducible rfl)); refine pu 7 (some 42) 511 ?_; refine ld 9 (some 44) 1023 hHeld ?_ (hr := by (intro w' h_; have y_ := kD rBK1 h_; go_simp; with_reducible rfl))
        refine on 10 (some 45) 2047 (fun K hK => ?_)
        have hcall := spec_ArityOf.calls _ _ W57  hm.out
        refine goes_ Tryz.func203 (by kernel_rfl) rfl #[.int .i64 a0_0] (by rfl) rfl rfl (by (try simp only [List.map_toArray, List.map_cons, List.map_nil]); first | done | rfl) ?_
        refine hcall.mono ?_
        rintro e W61 ⟨rfl, hb⟩
        refine ⟨_, rfl, ?_⟩
        clear hcall hm
        replace hHeld := below_step hHeld hb
        replace BK1 := bK BK1 hb
        replace HB := bH HB hb; clear hb
        refine hK.out _ _ hHeld (fun hHeld => ?_)
        clear hK K
        refine nr 45 ?_
        refine pu 11 (some 46) 4095 ?_; refine pu 12 (some 47) 8191 ?_; refine pu 13 (some 2) 16383 ?_
        refine dn (by kernel_rfl) ?_
        clear hHeld HBr rBK1
        have c_BK1 := blk_cell BK1.out; have z_BK1 := blk_frozen BK1.out
        replace H := H.out
        obtain rfl := Option.some.inj H
        clear H
        go_wp2
        go_ret
        exact ⟨rfl, HB.out⟩
       ·have c59_0 := decF c59; have c59_1 := eqF c59; have c59_2 := neF c59
        clear c59
        first | rw [c59_1] | rw [c59_2] | skip
        replace H := Aside0.mk H
        refine pu 0 (some 35) 1 ?_; refine pu 1 (some 36) 3 ?_; refine pu 2 (some 37) 7 ?_; refine pu 3 (some 38) 15 ?_; refine pu 4 (some 39) 31 ?_; refine sk 5 (some 40) 63 ?_; refine sk 6 (some 41) 127 ?_; refine sk 7 (some 42) 255 ?_; refine sk 8 (some 43) 511 ?_; refine sk 9 (some 44) 1023 ?_; refine sk 10 (some 45) 2047 ?_; refine sk 11 (some 46) 4095 ?_; refine pu 12 (some 47) 8191 ?_; refine pu 13 (some 2) 16383 ?_
        refine dn (by kernel_rfl) ?_
        clear hHeld HBr rBK1
        have c_BK1 := blk_cell BK1.out; have z_BK1 := blk_frozen BK1.out
        replace H := H.out
        obtain rfl := Option.some.inj H
        clear H
        go_wp2
        go_ret
        exact ⟨rfl, HB.out⟩
      ·replace c58 := (Bool.not_eq_true _).mp c58
       subst c58
       replace H := Aside0.mk H
       refine pu 0 (some 35) 1 ?_; refine pu 1 (some 36) 3 ?_; refine sk 2 (some 37) 7 ?_; refine pu 3 (some 38) 15 ?_; refine pu 4 (some 39) 31 ?_; refine sk 5 (some 40) 63 ?_; refine sk 6 (some 41) 127 ?_; refine sk 7 (some 42) 255 ?_; refine sk 8 (some 43) 511 ?_; refine sk 9 (some 44) 1023 ?_; refine sk 10 (some 45) 2047 ?_; refine sk 11 (some 46) 4095 ?_; refine pu 12 (some 47) 8191 ?_; refine pu 13 (some 2) 16383 ?_
       refine dn (by kernel_rfl) ?_
       clear hHeld HBr rBK1
       have c_BK1 := blk_cell BK1.out; have z_BK1 := blk_frozen BK1.out
       replace H := H.out
       obtain rfl := Option.some.inj H
       clear H
       go_wp2
       go_ret
       exact ⟨rfl, HB.out⟩
    ·have c47_0 := decF c47; have c47_1 := eqF c47; have c47_2 := neF c47
     clear c47
     first | rw [c47_1] | rw [c47_2] | skip
     replace H := Option.bind_eq_some_iff.mp H
     obtain ⟨t221, hm, H⟩ := H
     try dsimp only at H
     replace H := Aside0.mk H
     have hcall := spec_l1In.calls _ _ _ _ W1  hm
     clear hm
     go_wp2_with fail
     refine hcall.mono ?_
     rintro e W62 ⟨rfl, hb⟩
     clear hcall
     replace BK1 := bK BK1 hb; replace c_BK1 := blk_cell BK1.out; replace z_BK1 := blk_frozen BK1.out
     replace HB := bH HB hb; clear hb
     replace H := H.out
     replace H := ifD H; rcases H with ⟨c63, H⟩ | ⟨c63, H⟩
     ·subst c63
      replace H := Option.bind_eq_some_iff.mp H
      obtain ⟨t222, hm, H⟩ := H
      try dsimp only at H
      replace H := Aside0.mk H
      have hcall := spec_IsTime.calls _ _ W62  hm
      clear hm
      go_wp2_with fail
      refine hcall.mono ?_
      rintro e W64 ⟨rfl, hb⟩
      clear hcall
      replace BK1 := bK BK1 hb; replace c_BK1 := blk_cell BK1.out; replace z_BK1 := blk_frozen BK1.out
      replace HB := bH HB hb; clear hb
      try go_wp2
      clear c_BK1 z_BK1; have rBK1 := BK1; replace BK1 := dK BK1
      have HBr := HB; replace HB := dH HB
      refine stA (n := 14) (S := fun w' => Below W64.heap.size W64 w') (by kernel_rfl) rfl (below_drew1 (Below.refl _ W64)) (by kernel_rfl) (fun hHeld => ?_)
      generalize W64.drew = W65 at HB BK1 hHeld ⊢
      replace H := H.out
      replace H := ifD H; rcases H with ⟨c66, H⟩ | ⟨c66, H⟩
      ·have c66_0 := decT c66; have c66_1 := eqT c66; have c66_2 := neT c66
       clear c66
       first | rw [c66_1] | rw [c66_2] | skip
       replace H := ifD H; rcases H with ⟨c67, H⟩ | ⟨c67, H⟩
       ·subst c67
        replace H := Option.bind_eq_some_iff.mp H
        obtain ⟨t223, hm, H⟩ := H
        try dsimp only at H
        replace hm := Aside0.mk hm
        replace H := Aside0.mk H
        refine pu 0 (some 35) 1 ?_; refine pu 1 (some 36) 3 ?_; refine pu 2 (some 37) 7 ?_; refine pu 3 (some 38) 15 ?_; refine pu 4 (some 39) 31 ?_; refine pu 5 (some 40) 63 ?_; refine pu 8 (some 43) 319 ?_; refine ld 6 (some 41) 383 hHeld ?_ (hr := by (intro w' h_; have y_ := kD rBK1 h_; go_simp; with_reducible rfl)); refine pu 7 (some 42) 511 ?_; refine ld 9 (some 44) 1023 hHeld ?_ (hr := by (intro w' h_; have y_ := kD rBK1 h_; go_simp; with_reducible rfl))
        refine on 10 (some 45) 2047 (fun K hK => ?_)
        have hcall := spec_ArityOf.calls _ _ W65  hm.out
        refine goes_ Tryz.func203 (by kernel_rfl) rfl #[.int .i64 a0_0] (by rfl) rfl rfl (by (try simp only [List.map_toArray, List.map_cons, List.map_nil]); first | done | rfl) ?_
        refine hcall.mono ?_
        rintro e W69 ⟨rfl, hb⟩
        refine ⟨_, rfl, ?_⟩
        clear hcall hm
        replace hHeld := below_step hHeld hb
        replace BK1 := bK BK1 hb
        replace HB := bH HB hb; clear hb
        refine hK.out _ _ hHeld (fun hHeld => ?_)
        clear hK K
        refine nr 45 ?_
        refine pu 11 (some 46) 4095 ?_; refine pu 12 (some 47) 8191 ?_; refine pu 13 (some 2) 16383 ?_
        refine dn (by kernel_rfl) ?_
        clear hHeld HBr rBK1
        have c_BK1 := blk_cell BK1.out; have z_BK1 := blk_frozen BK1.out
        replace H := H.out
        obtain rfl := Option.some.inj H
        clear H
        go_wp2
        go_ret
        exact ⟨rfl, HB.out⟩
       ·replace c67 := (Bool.not_eq_true _).mp c67
        subst c67
        replace H := Aside0.mk H
        refine pu 0 (some 35) 1 ?_; refine pu 1 (some 36) 3 ?_; refine pu 2 (some 37) 7 ?_; refine pu 3 (some 38) 15 ?_; refine pu 4 (some 39) 31 ?_; refine sk 5 (some 40) 63 ?_; refine sk 6 (some 41) 127 ?_; refine sk 7 (some 42) 255 ?_; refine sk 8 (some 43) 511 ?_; refine sk 9 (some 44) 1023 ?_; refine sk 10 (some 45) 2047 ?_; refine sk 11 (some 46) 4095 ?_; refine pu 12 (some 47) 8191 ?_; refine pu 13 (some 2) 16383 ?_
        refine dn (by kernel_rfl) ?_
        clear hHeld HBr rBK1
        have c_BK1 := blk_cell BK1.out; have z_BK1 := blk_frozen BK1.out
        replace H := H.out
        obtain rfl := Option.some.inj H
        clear H
        go_wp2
        go_ret
        exact ⟨rfl, HB.out⟩
      ·have c66_0 := decF c66; have c66_1 := eqF c66; have c66_2 := neF c66
       clear c66
       first | rw [c66_1] | rw [c66_2] | skip
       replace H := Aside0.mk H
       refine pu 0 (some 35) 1 ?_; refine pu 1 (some 36) 3 ?_; refine sk 2 (some 37) 7 ?_; refine pu 3 (some 38) 15 ?_; refine pu 4 (some 39) 31 ?_; refine sk 5 (some 40) 63 ?_; refine sk 6 (some 41) 127 ?_; refine sk 7 (some 42) 255 ?_; refine sk 8 (some 43) 511 ?_; refine sk 9 (some 44) 1023 ?_; refine sk 10 (some 45) 2047 ?_; refine sk 11 (some 46) 4095 ?_; refine pu 12 (some 47) 8191 ?_; refine pu 13 (some 2) 16383 ?_
       refine dn (by kernel_rfl) ?_
       clear hHeld HBr rBK1
       have c_BK1 := blk_cell BK1.out; have z_BK1 := blk_frozen BK1.out
       replace H := H.out
       obtain rfl := Option.some.inj H
       clear H
       go_wp2
       go_ret
       exact ⟨rfl, HB.out⟩
     ·replace c63 := (Bool.not_eq_true _).mp c63
      subst c63
      replace H := Aside0.mk H
      try go_wp2
      clear c_BK1 z_BK1; have rBK1 := BK1; replace BK1 := dK BK1
      have HBr := HB; replace HB := dH HB
      refine stA (n := 14) (S := fun w' => Below W62.heap.size W62 w') (by kernel_rfl) rfl (below_drew1 (Below.refl _ W62)) (by kernel_rfl) (fun hHeld => ?_)
      generalize W62.drew = W70 at HB BK1 hHeld ⊢
      replace H := H.out
      replace H := ifD H; rcases H with ⟨c71, H⟩ | ⟨c71, H⟩
      ·have c71_0 := decT c71; have c71_1 := eqT c71; have c71_2 := neT c71
       clear c71
       first | rw [c71_1] | rw [c71_2] | skip
       replace H := ifD H; rcases H with ⟨c72, H⟩ | ⟨c72, H⟩
       ·have c72_0 := decT c72; have c72_1 := eqT c72; have c72_2 := neT c72
        clear c72
        first | rw [c72_1] | rw [c72_2] | skip
        replace H := Option.bind_eq_some_iff.mp H
        obtain ⟨t224, hm, H⟩ := H
        try dsimp only at H
        replace hm := Aside0.mk hm
        replace H := Aside0.mk H
        refine pu 0 (some 35) 1 ?_; refine pu 1 (some 36) 3 ?_; refine pu 2 (some 37) 7 ?_; refine pu 3 (some 38) 15 ?_; refine pu 4 (some 39) 31 ?_; refine pu 5 (some 40) 63 ?_; refine pu 8 (some 43) 319 ?_; refine ld 6 (some 41) 383 hHeld ?_ (hr := by (intro w' h_; have y_ := kD rBK1 h_; go_simp; with_reducible rfl)); refine pu 7 (some 42) 511 ?_; refine ld 9 (some 44) 1023 hHeld ?_ (hr := by (intro w' h_; have y_ := kD rBK1 h_; go_simp; with_reducible rfl))
        refine on 10 (some 45) 2047 (fun K hK => ?_)
        have hcall := spec_ArityOf.calls _ _ W70  hm.out
        refine goes_ Tryz.func203 (by kernel_rfl) rfl #[.int .i64 a0_0] (by rfl) rfl rfl (by (try simp only [List.map_toArray, List.map_cons, List.map_nil]); first | done | rfl) ?_
        refine hcall.mono ?_
        rintro e W74 ⟨rfl, hb⟩
        refine ⟨_, rfl, ?_⟩
        clear hcall hm
        replace hHeld := below_step hHeld hb
        replace BK1 := bK BK1 hb
        replace HB := bH HB hb; clear hb
        refine hK.out _ _ hHeld (fun hHeld => ?_)
        clear hK K
        refine nr 45 ?_
        refine pu 11 (some 46) 4095 ?_; refine pu 12 (some 47) 8191 ?_; refine pu 13 (some 2) 16383 ?_
        refine dn (by kernel_rfl) ?_
        clear hHeld HBr rBK1
        have c_BK1 := blk_cell BK1.out; have z_BK1 := blk_frozen BK1.out
        replace H := H.out
        obtain rfl := Option.some.inj H
        clear H
        go_wp2
        go_ret
        exact ⟨rfl, HB.out⟩
       ·have c72_0 := decF c72; have c72_1 := eqF c72; have c72_2 := neF c72
        clear c72
        first | rw [c72_1] | rw [c72_2] | skip
        replace H := Aside0.mk H
        refine pu 0 (some 35) 1 ?_; refine pu 1 (some 36) 3 ?_; refine pu 2 (some 37) 7 ?_; refine pu 3 (some 38) 15 ?_; refine pu 4 (some 39) 31 ?_; refine sk 5 (some 40) 63 ?_; refine sk 6 (some 41) 127 ?_; refine sk 7 (some 42) 255 ?_; refine sk 8 (some 43) 511 ?_; refine sk 9 (some 44) 1023 ?_; refine sk 10 (some 45) 2047 ?_; refine sk 11 (some 46) 4095 ?_; refine pu 12 (some 47) 8191 ?_; refine pu 13 (some 2) 16383 ?_
        refine dn (by kernel_rfl) ?_
        clear hHeld HBr rBK1
        have c_BK1 := blk_cell BK1.out; have z_BK1 := blk_frozen BK1.out
        replace H := H.out
        obtain rfl := Option.some.inj H
        clear H
        go_wp2
        go_ret
        exact ⟨rfl, HB.out⟩
      ·have c71_0 := decF c71; have c71_1 := eqF c71; have c71_2 := neF c71
       clear c71
       first | rw [c71_1] | rw [c71_2] | skip
       replace H := Aside0.mk H
       refine pu 0 (some 35) 1 ?_; refine pu 1 (some 36) 3 ?_; refine sk 2 (some 37) 7 ?_; refine pu 3 (some 38) 15 ?_; refine pu 4 (some 39) 31 ?_; refine sk 5 (some 40) 63 ?_; refine sk 6 (some 41) 127 ?_; refine sk 7 (some 42) 255 ?_; refine sk 8 (some 43) 511 ?_; refine sk 9 (some 44) 1023 ?_; refine sk 10 (some 45) 2047 ?_; refine sk 11 (some 46) 4095 ?_; refine pu 12 (some 47) 8191 ?_; refine pu 13 (some 2) 16383 ?_
       refine dn (by kernel_rfl) ?_
       clear hHeld HBr rBK1
       have c_BK1 := blk_cell BK1.out; have z_BK1 := blk_frozen BK1.out
       replace H := H.out
       obtain rfl := Option.some.inj H
       clear H
       go_wp2
       go_ret
       exact ⟨rfl, HB.out⟩

end Go.Proofs.YtineejdlpcgnkaaGreat.QFnExactIsCenter
