/- The machine side of FnExactSaveDecision: what each function that it reaches computes, and that the machine's call gives just that. -/
import Derived.Test.YtmgfklmhelabcaaGreatQFnExactSaveDecisionx0
import Derived.Test.YtmgfklmhelabcaaGreatQFnExactSaveDecisionx10
import Derived.Test.YtmgfklmhelabcaaGreatQFnExactSaveDecisionx11
namespace Go.Proofs.YtmgfklmhelabcaaGreat.QFnExactSaveDecision
open Go.RowKit Go.Proofs.YtmgfklmhelabcaaGreatW.PrintWords Go.Proofs.YtmgfklmhelabcaaGreatW.PrintLast Go.Proofs.YtmgfklmhelabcaaGreatW.PrintMore
attribute [local go_sem] max2_int min2_int max_two min_two max_three min_three max_four min_four
set_option maxHeartbeats 8000000
set_option maxRecDepth 100000
open Go.Proofs.YtmgfklmhelabcaaGreatM
set_option linter.unusedVariables false
set_option linter.unusedSimpArgs false
def impl_isNode.f (a0_0 : Int) (a0_1 : Int) (a0_2 : Int) (l0_3 : List (S172)) : Option (Bool) := if a0_0 = 2 then ((impl_InRange.f a0_0 2 5).bind fun t490 => (if t490 = true then ((impl_ArityOf.f a0_0).bind fun t491 => (if (l0_3.length : Int) = t491 then ((impl_InRange.f a0_1 0 5).bind fun t492 => (if t492 = true then ((impl_InRange.f a0_2 0 10000).bind fun t493 => (some t493)) else (some false))) else (some false))) else ((impl_ArityOf.f a0_0).bind fun t494 => (if (l0_3.length : Int) = t494 then ((impl_InRange.f a0_1 0 5).bind fun t495 => (if t495 = true then ((impl_InRange.f a0_2 0 0).bind fun t496 => (some t496)) else (some false))) else (some false))))) else (if a0_0 = 4 then ((impl_InRange.f a0_0 2 5).bind fun t497 => (if t497 = true then ((impl_ArityOf.f a0_0).bind fun t498 => (if (l0_3.length : Int) = t498 then ((impl_InRange.f a0_1 0 3).bind fun t499 => (if t499 = true then ((impl_InRange.f a0_2 0 10000).bind fun t500 => (some t500)) else (some false))) else (some false))) else ((impl_ArityOf.f a0_0).bind fun t501 => (if (l0_3.length : Int) = t501 then ((impl_InRange.f a0_1 0 3).bind fun t502 => (if t502 = true then ((impl_InRange.f a0_2 0 0).bind fun t503 => (some t503)) else (some false))) else (some false))))) else (if a0_0 = 5 then ((impl_InRange.f a0_0 2 5).bind fun t504 => (if t504 = true then ((impl_ArityOf.f a0_0).bind fun t505 => (if (l0_3.length : Int) = t505 then ((impl_InRange.f a0_1 0 3).bind fun t506 => (if t506 = true then ((impl_InRange.f a0_2 0 10000).bind fun t507 => (some t507)) else (some false))) else (some false))) else ((impl_ArityOf.f a0_0).bind fun t508 => (if (l0_3.length : Int) = t508 then ((impl_InRange.f a0_1 0 3).bind fun t509 => (if t509 = true then ((impl_InRange.f a0_2 0 0).bind fun t510 => (some t510)) else (some false))) else (some false))))) else (if a0_0 = 6 then ((impl_InRange.f a0_0 2 5).bind fun t511 => (if t511 = true then ((impl_ArityOf.f a0_0).bind fun t512 => (if (l0_3.length : Int) = t512 then ((impl_InRange.f a0_1 0 10000).bind fun t513 => (if t513 = true then ((impl_InRange.f a0_2 0 10000).bind fun t514 => (some t514)) else (some false))) else (some false))) else ((impl_ArityOf.f a0_0).bind fun t515 => (if (l0_3.length : Int) = t515 then ((impl_InRange.f a0_1 0 10000).bind fun t516 => (if t516 = true then ((impl_InRange.f a0_2 0 0).bind fun t517 => (some t517)) else (some false))) else (some false))))) else ((impl_InRange.f a0_0 2 5).bind fun t518 => (if t518 = true then ((impl_ArityOf.f a0_0).bind fun t519 => (if (l0_3.length : Int) = t519 then ((impl_InRange.f a0_1 0 0).bind fun t520 => (if t520 = true then ((impl_InRange.f a0_2 0 10000).bind fun t521 => (some t521)) else (some false))) else (some false))) else ((impl_ArityOf.f a0_0).bind fun t522 => (if (l0_3.length : Int) = t522 then ((impl_InRange.f a0_1 0 0).bind fun t523 => (if t523 = true then ((impl_InRange.f a0_2 0 0).bind fun t524 => (some t524)) else (some false))) else (some false))))))))
theorem impl_isNode.calls (a0_0 : Int) (a0_1 : Int) (a0_2 : Int) (A0_3 : Option Addr) (c0_3 : Nat) (l0_3 : List (S172)) (r : Bool) (w : World) (hr0_3 : Kd.C k172 w A0_3 l0_3.length l0_3) (hc0_3 : l0_3.length ≤ c0_3) (h : impl_isNode.f a0_0 a0_1 a0_2 l0_3 = some r) :
  Calls Tryz.prog 369 #[.agg #[.int .i64 a0_0, .int .i64 a0_1, .int .i64 a0_2, .slice A0_3 l0_3.length c0_3]] w fun e w' => e = .returned (.bool r) ∧ Below w.heap.size w w' := by
 have HR0_3 := Aside0.mk hr0_3
 have HC0_3 := Aside0.mk hc0_3
 clear hr0_3 hc0_3
 have HB := Aside0.mk (Below.refl w.heap.size w)
 have H := h
 clear h
 unfold impl_isNode.f at H
 have hu172 := Tryz.underlying172
 go_enter Tryz.func369, Tryz.ntmps369
 replace H := Aside0.mk H
 go_upto_region 1 with (first | ((with_reducible refine gate_dst (N := 1) rfl ?_); refine box_event ?hg (N := 1) ?hd (cs := #[.int .i64 a0_0, .int .i64 a0_1, .int .i64 a0_2, .slice A0_3 l0_3.length c0_3]) (t := 172) ?hr ?_; (case hd => rfl); (case hg => rfl); (case hr => first | (go_simp; done) | (go_simp; rfl)); intro gb1 hg W1 hbox hb; replace HB := bH HB hb; clear hb; have BK1 := Aside0.mk hbox; have c_BK1 := blk_cell hbox; have z_BK1 := blk_frozen hbox; clear hg hbox))
 replace H := ifD H.out; rcases H with ⟨c2, H⟩ | ⟨c2, H⟩
 ·obtain ⟨c2_0, c2_1, c2_2⟩ := d3T c2
  clear c2
  (first | rw [c2_1] | rw [c2_2] | skip)
  replace H := obs H
  obtain ⟨t490, hm, H⟩ := H
  (try dsimp only at H)
  replace H := Aside0.mk H
  have hcall := impl_InRange.calls _ _ _ _ W1  hm
  clear hm
  (go_wp2_with fail)
  refine hcall.mono ?_
  rintro e W3 ⟨rfl, hb⟩
  clear hcall
  replace BK1 := bK BK1 hb; replace c_BK1 := bcl BK1; replace z_BK1 := bfr BK1
  replace HB := bH HB hb; clear hb
  replace H := ifD H.out; rcases H with ⟨c4, H⟩ | ⟨c4, H⟩
  ·subst c4; replace H := Aside0.mk H; try go_wp2
   clear c_BK1 z_BK1; have rBK1 := BK1; replace BK1 := dK BK1; have HBr := HB; replace HB := dH HB; refine stA (n := 20) (S := fun w' => Below W3.heap.size W3 w') (by kernel_rfl) rfl (below_drew1 (Below.refl _ W3)) (by kernel_rfl) (fun hHeld => ?_); generalize W3.drew = W5 at HB BK1 hHeld ⊢; replace H := H.out; replace H := obs H; obtain ⟨t491, hm, H⟩ := H; (try dsimp only at H); replace hm := Aside0.mk hm; replace H := Aside0.mk H; refine pu 0 (some 17) 1 ?_; refine pu 3 (some 20) 9 ?_; refine ld 1 (some 18) 11 hHeld ?_ (hr := by (intro w' h_; have y_ := kD rBK1 h_; go_simp; with_reducible rfl)); refine pu 2 (some 19) 15 ?_; refine ld 4 (some 21) 31 hHeld ?_ (hr := by (intro w' h_; have y_ := kD rBK1 h_; go_simp; with_reducible rfl)); refine on 5 (some 22) 63 (fun K hK => ?_); have hcall := impl_ArityOf.calls _ _ W5  hm.out; refine goes_ Tryz.func388 (by kernel_rfl) rfl #[.int .i64 a0_0] (by rfl) rfl rfl zM ?_; refine hcall.mono ?_; rintro e W7 ⟨rfl, hb⟩; refine ⟨_, rfl, ?_⟩; clear hcall hm; replace hHeld := below_step hHeld hb; replace BK1 := bK BK1 hb; replace HB := bH HB hb; clear hb; refine hK.out _ _ hHeld (fun hHeld => ?_); clear hK K; refine nr 22 ?_; replace H := ifD H.out; rcases H with ⟨c8, H⟩ | ⟨c8, H⟩; rotate_left
   ·obtain ⟨c8_0, c8_1, c8_2⟩ := d3F c8; clear c8; (first | rw [c8_1] | rw [c8_2] | skip); replace H := Aside0.mk H; refine pu 6 (some 23) 127 ?_; refine pu 7 (some 24) 255 ?_; refine sk 8 (some 25) 511 ?_; refine sk 9 (some 26) 1023 ?_; refine sk 10 (some 27) 2047 ?_; refine sk 11 (some 28) 4095 ?_; refine pu 12 (some 29) 8191 ?_; refine pu 13 (some 30) 16383 ?_; refine sk 14 (some 31) 32767 ?_; refine sk 15 (some 32) 65535 ?_; refine sk 16 (some 33) 131071 ?_; refine sk 17 (some 34) 262143 ?_; refine pu 18 (some 35) 524287 ?_; refine pu 19 (some 2) 1048575 ?_; refine dn (by kernel_rfl) ?_; clear hHeld HBr rBK1; have c_BK1 := bcl BK1; have z_BK1 := bfr BK1; replace H := H.out; cases H; go_wp2; go_ret; exact ⟨rfl, HB.out⟩
   obtain ⟨c8_0, c8_1, c8_2⟩ := d3T c8; clear c8; (first | rw [c8_1] | rw [c8_2] | skip); replace H := obs H; obtain ⟨t492, hm, H⟩ := H; (try dsimp only at H); replace hm := Aside0.mk hm; replace H := Aside0.mk H; refine pu 6 (some 23) 127 ?_; refine pu 7 (some 24) 255 ?_; refine pu 8 (some 25) 511 ?_; refine pu 10 (some 27) 1535 ?_; refine ld 9 (some 26) 2047 hHeld ?_ (hr := by (intro w' h_; have y_ := kD rBK1 h_; go_simp; with_reducible rfl)); refine on 11 (some 28) 4095 (fun K hK => ?_); have hcall := impl_InRange.calls _ _ _ _ W7  hm.out; refine goes_ Tryz.func98 (by kernel_rfl) rfl #[.int .i64 a0_1, .int .i64 0, .int .i64 5] (by rfl) rfl rfl zM ?_; refine hcall.mono ?_; rintro e W10 ⟨rfl, hb⟩; refine ⟨_, rfl, ?_⟩; clear hcall hm; replace hHeld := below_step hHeld hb; replace BK1 := bK BK1 hb; replace HB := bH HB hb; clear hb; refine hK.out _ _ hHeld (fun hHeld => ?_); clear hK K; refine nr 28 ?_; replace H := ifD H.out; rcases H with ⟨c11, H⟩ | ⟨c11, H⟩; rotate_left
   ·replace c11 := nT c11; subst c11; replace H := Aside0.mk H; refine pu 12 (some 29) 8191 ?_; refine pu 13 (some 30) 16383 ?_; refine sk 14 (some 31) 32767 ?_; refine sk 15 (some 32) 65535 ?_; refine sk 16 (some 33) 131071 ?_; refine sk 17 (some 34) 262143 ?_; refine pu 18 (some 35) 524287 ?_; refine pu 19 (some 2) 1048575 ?_; refine dn (by kernel_rfl) ?_; clear hHeld HBr rBK1; have c_BK1 := bcl BK1; have z_BK1 := bfr BK1; replace H := H.out; cases H; go_wp2; go_ret; exact ⟨rfl, HB.out⟩
   subst c11; replace H := obs H; obtain ⟨t493, hm, H⟩ := H; (try dsimp only at H); replace hm := Aside0.mk hm; replace H := Aside0.mk H; refine pu 12 (some 29) 8191 ?_; refine pu 13 (some 30) 16383 ?_; refine pu 14 (some 31) 32767 ?_; refine pu 16 (some 33) 98303 ?_; refine ld 15 (some 32) 131071 hHeld ?_ (hr := by (intro w' h_; have y_ := kD rBK1 h_; go_simp; with_reducible rfl)); refine on 17 (some 34) 262143 (fun K hK => ?_); have hcall := impl_InRange.calls _ _ _ _ W10  hm.out; refine goes_ Tryz.func98 (by kernel_rfl) rfl #[.int .i64 a0_2, .int .i64 0, .int .i64 10000] (by rfl) rfl rfl zM ?_; refine hcall.mono ?_; rintro e W13 ⟨rfl, hb⟩; refine ⟨_, rfl, ?_⟩; clear hcall hm; replace hHeld := below_step hHeld hb; replace BK1 := bK BK1 hb; replace HB := bH HB hb; clear hb; refine hK.out _ _ hHeld (fun hHeld => ?_); clear hK K; refine nr 34 ?_; refine pu 18 (some 35) 524287 ?_; refine pu 19 (some 2) 1048575 ?_; refine dn (by kernel_rfl) ?_; clear hHeld HBr rBK1; have c_BK1 := bcl BK1; have z_BK1 := bfr BK1; replace H := H.out; cases H; go_wp2; go_ret; exact ⟨rfl, HB.out⟩
  replace c4 := nT c4
  subst c4
  replace H := Aside0.mk H
  try go_wp2
  clear c_BK1 z_BK1; have rBK1 := BK1; replace BK1 := dK BK1
  have HBr := HB; replace HB := dH HB
  refine stA (n := 20) (S := fun w' => Below W3.heap.size W3 w') (by kernel_rfl) rfl (below_drew1 (Below.refl _ W3)) (by kernel_rfl) (fun hHeld => ?_)
  generalize W3.drew = W14 at HB BK1 hHeld ⊢
  replace H := H.out
  replace H := obs H
  obtain ⟨t494, hm, H⟩ := H
  (try dsimp only at H)
  replace hm := Aside0.mk hm
  replace H := Aside0.mk H
  refine pu 0 (some 17) 1 ?_; refine pu 3 (some 20) 9 ?_; refine ld 1 (some 18) 11 hHeld ?_ (hr := by (intro w' h_; have y_ := kD rBK1 h_; go_simp; with_reducible rfl)); refine pu 2 (some 19) 15 ?_; refine ld 4 (some 21) 31 hHeld ?_ (hr := by (intro w' h_; have y_ := kD rBK1 h_; go_simp; with_reducible rfl))
  refine on 5 (some 22) 63 (fun K hK => ?_)
  have hcall := impl_ArityOf.calls _ _ W14  hm.out
  refine goes_ Tryz.func388 (by kernel_rfl) rfl #[.int .i64 a0_0] (by rfl) rfl rfl zM ?_
  refine hcall.mono ?_
  rintro e W16 ⟨rfl, hb⟩
  refine ⟨_, rfl, ?_⟩
  clear hcall hm
  replace hHeld := below_step hHeld hb
  replace BK1 := bK BK1 hb
  replace HB := bH HB hb; clear hb
  refine hK.out _ _ hHeld (fun hHeld => ?_)
  clear hK K
  refine nr 22 ?_
  replace H := ifD H.out; rcases H with ⟨c17, H⟩ | ⟨c17, H⟩
  rotate_left
  ·obtain ⟨c17_0, c17_1, c17_2⟩ := d3F c17; clear c17; (first | rw [c17_1] | rw [c17_2] | skip); replace H := Aside0.mk H; refine pu 6 (some 23) 127 ?_; refine pu 7 (some 24) 255 ?_; refine sk 8 (some 25) 511 ?_; refine sk 9 (some 26) 1023 ?_; refine sk 10 (some 27) 2047 ?_; refine sk 11 (some 28) 4095 ?_; refine pu 12 (some 29) 8191 ?_; refine pu 13 (some 30) 16383 ?_; refine sk 14 (some 31) 32767 ?_; refine sk 15 (some 32) 65535 ?_; refine sk 16 (some 33) 131071 ?_; refine sk 17 (some 34) 262143 ?_; refine pu 18 (some 35) 524287 ?_; refine pu 19 (some 2) 1048575 ?_; refine dn (by kernel_rfl) ?_; clear hHeld HBr rBK1; have c_BK1 := bcl BK1; have z_BK1 := bfr BK1; replace H := H.out; cases H; go_wp2; go_ret; exact ⟨rfl, HB.out⟩
  obtain ⟨c17_0, c17_1, c17_2⟩ := d3T c17
  clear c17
  (first | rw [c17_1] | rw [c17_2] | skip)
  replace H := obs H
  obtain ⟨t495, hm, H⟩ := H
  (try dsimp only at H)
  replace hm := Aside0.mk hm
  replace H := Aside0.mk H
  refine pu 6 (some 23) 127 ?_; refine pu 7 (some 24) 255 ?_; refine pu 8 (some 25) 511 ?_; refine pu 10 (some 27) 1535 ?_; refine ld 9 (some 26) 2047 hHeld ?_ (hr := by (intro w' h_; have y_ := kD rBK1 h_; go_simp; with_reducible rfl))
  refine on 11 (some 28) 4095 (fun K hK => ?_)
  have hcall := impl_InRange.calls _ _ _ _ W16  hm.out
  refine goes_ Tryz.func98 (by kernel_rfl) rfl #[.int .i64 a0_1, .int .i64 0, .int .i64 5] (by rfl) rfl rfl zM ?_
  refine hcall.mono ?_
  rintro e W19 ⟨rfl, hb⟩
  refine ⟨_, rfl, ?_⟩
  clear hcall hm
  replace hHeld := below_step hHeld hb
  replace BK1 := bK BK1 hb
  replace HB := bH HB hb; clear hb
  refine hK.out _ _ hHeld (fun hHeld => ?_)
  clear hK K
  refine nr 28 ?_
  replace H := ifD H.out; rcases H with ⟨c20, H⟩ | ⟨c20, H⟩
  rotate_left
  ·replace c20 := nT c20; subst c20; replace H := Aside0.mk H; refine pu 12 (some 29) 8191 ?_; refine pu 13 (some 30) 16383 ?_; refine sk 14 (some 31) 32767 ?_; refine sk 15 (some 32) 65535 ?_; refine sk 16 (some 33) 131071 ?_; refine sk 17 (some 34) 262143 ?_; refine pu 18 (some 35) 524287 ?_; refine pu 19 (some 2) 1048575 ?_; refine dn (by kernel_rfl) ?_; clear hHeld HBr rBK1; have c_BK1 := bcl BK1; have z_BK1 := bfr BK1; replace H := H.out; cases H; go_wp2; go_ret; exact ⟨rfl, HB.out⟩
  subst c20
  replace H := obs H
  obtain ⟨t496, hm, H⟩ := H
  (try dsimp only at H)
  replace hm := Aside0.mk hm
  replace H := Aside0.mk H
  refine pu 12 (some 29) 8191 ?_; refine pu 13 (some 30) 16383 ?_; refine pu 14 (some 31) 32767 ?_; refine pu 16 (some 33) 98303 ?_; refine ld 15 (some 32) 131071 hHeld ?_ (hr := by (intro w' h_; have y_ := kD rBK1 h_; go_simp; with_reducible rfl))
  refine on 17 (some 34) 262143 (fun K hK => ?_)
  have hcall := impl_InRange.calls _ _ _ _ W19  hm.out
  refine goes_ Tryz.func98 (by kernel_rfl) rfl #[.int .i64 a0_2, .int .i64 0, .int .i64 0] (by rfl) rfl rfl zM ?_
  refine hcall.mono ?_
  rintro e W22 ⟨rfl, hb⟩
  refine ⟨_, rfl, ?_⟩
  clear hcall hm
  replace hHeld := below_step hHeld hb
  replace BK1 := bK BK1 hb
  replace HB := bH HB hb; clear hb
  refine hK.out _ _ hHeld (fun hHeld => ?_)
  clear hK K
  refine nr 34 ?_
  refine pu 18 (some 35) 524287 ?_; refine pu 19 (some 2) 1048575 ?_
  refine dn (by kernel_rfl) ?_
  clear hHeld HBr rBK1
  have c_BK1 := bcl BK1; have z_BK1 := bfr BK1
  replace H := H.out
  cases H
  go_wp2
  go_ret
  exact ⟨rfl, HB.out⟩
 obtain ⟨c2_0, c2_1, c2_2⟩ := d3F c2
 clear c2
 (first | rw [c2_1] | rw [c2_2] | skip)
 replace H := ifD H; rcases H with ⟨c23, H⟩ | ⟨c23, H⟩
 ·obtain ⟨c23_0, c23_1, c23_2⟩ := d3T c23
  clear c23
  (first | rw [c23_1] | rw [c23_2] | skip)
  replace H := obs H
  obtain ⟨t497, hm, H⟩ := H
  (try dsimp only at H)
  replace H := Aside0.mk H
  have hcall := impl_InRange.calls _ _ _ _ W1  hm
  clear hm
  (go_wp2_with fail)
  refine hcall.mono ?_
  rintro e W24 ⟨rfl, hb⟩
  clear hcall
  replace BK1 := bK BK1 hb; replace c_BK1 := bcl BK1; replace z_BK1 := bfr BK1
  replace HB := bH HB hb; clear hb
  replace H := ifD H.out; rcases H with ⟨c25, H⟩ | ⟨c25, H⟩
  ·subst c25; replace H := Aside0.mk H; try go_wp2
   clear c_BK1 z_BK1; have rBK1 := BK1; replace BK1 := dK BK1; have HBr := HB; replace HB := dH HB; refine stA (n := 20) (S := fun w' => Below W24.heap.size W24 w') (by kernel_rfl) rfl (below_drew1 (Below.refl _ W24)) (by kernel_rfl) (fun hHeld => ?_); generalize W24.drew = W26 at HB BK1 hHeld ⊢; replace H := H.out; replace H := obs H; obtain ⟨t498, hm, H⟩ := H; (try dsimp only at H); replace hm := Aside0.mk hm; replace H := Aside0.mk H; refine pu 0 (some 17) 1 ?_; refine pu 3 (some 20) 9 ?_; refine ld 1 (some 18) 11 hHeld ?_ (hr := by (intro w' h_; have y_ := kD rBK1 h_; go_simp; with_reducible rfl)); refine pu 2 (some 19) 15 ?_; refine ld 4 (some 21) 31 hHeld ?_ (hr := by (intro w' h_; have y_ := kD rBK1 h_; go_simp; with_reducible rfl)); refine on 5 (some 22) 63 (fun K hK => ?_); have hcall := impl_ArityOf.calls _ _ W26  hm.out; refine goes_ Tryz.func388 (by kernel_rfl) rfl #[.int .i64 a0_0] (by rfl) rfl rfl zM ?_; refine hcall.mono ?_; rintro e W28 ⟨rfl, hb⟩; refine ⟨_, rfl, ?_⟩; clear hcall hm; replace hHeld := below_step hHeld hb; replace BK1 := bK BK1 hb; replace HB := bH HB hb; clear hb; refine hK.out _ _ hHeld (fun hHeld => ?_); clear hK K; refine nr 22 ?_; replace H := ifD H.out; rcases H with ⟨c29, H⟩ | ⟨c29, H⟩; rotate_left
   ·obtain ⟨c29_0, c29_1, c29_2⟩ := d3F c29; clear c29; (first | rw [c29_1] | rw [c29_2] | skip); replace H := Aside0.mk H; refine pu 6 (some 23) 127 ?_; refine pu 7 (some 24) 255 ?_; refine sk 8 (some 25) 511 ?_; refine sk 9 (some 26) 1023 ?_; refine sk 10 (some 27) 2047 ?_; refine sk 11 (some 28) 4095 ?_; refine pu 12 (some 29) 8191 ?_; refine pu 13 (some 30) 16383 ?_; refine sk 14 (some 31) 32767 ?_; refine sk 15 (some 32) 65535 ?_; refine sk 16 (some 33) 131071 ?_; refine sk 17 (some 34) 262143 ?_; refine pu 18 (some 35) 524287 ?_; refine pu 19 (some 2) 1048575 ?_; refine dn (by kernel_rfl) ?_; clear hHeld HBr rBK1; have c_BK1 := bcl BK1; have z_BK1 := bfr BK1; replace H := H.out; cases H; go_wp2; go_ret; exact ⟨rfl, HB.out⟩
   obtain ⟨c29_0, c29_1, c29_2⟩ := d3T c29; clear c29; (first | rw [c29_1] | rw [c29_2] | skip); replace H := obs H; obtain ⟨t499, hm, H⟩ := H; (try dsimp only at H); replace hm := Aside0.mk hm; replace H := Aside0.mk H; refine pu 6 (some 23) 127 ?_; refine pu 7 (some 24) 255 ?_; refine pu 8 (some 25) 511 ?_; refine pu 10 (some 27) 1535 ?_; refine ld 9 (some 26) 2047 hHeld ?_ (hr := by (intro w' h_; have y_ := kD rBK1 h_; go_simp; with_reducible rfl)); refine on 11 (some 28) 4095 (fun K hK => ?_); have hcall := impl_InRange.calls _ _ _ _ W28  hm.out; refine goes_ Tryz.func98 (by kernel_rfl) rfl #[.int .i64 a0_1, .int .i64 0, .int .i64 3] (by rfl) rfl rfl zM ?_; refine hcall.mono ?_; rintro e W31 ⟨rfl, hb⟩; refine ⟨_, rfl, ?_⟩; clear hcall hm; replace hHeld := below_step hHeld hb; replace BK1 := bK BK1 hb; replace HB := bH HB hb; clear hb; refine hK.out _ _ hHeld (fun hHeld => ?_); clear hK K; refine nr 28 ?_; replace H := ifD H.out; rcases H with ⟨c32, H⟩ | ⟨c32, H⟩; rotate_left
   ·replace c32 := nT c32; subst c32; replace H := Aside0.mk H; refine pu 12 (some 29) 8191 ?_; refine pu 13 (some 30) 16383 ?_; refine sk 14 (some 31) 32767 ?_; refine sk 15 (some 32) 65535 ?_; refine sk 16 (some 33) 131071 ?_; refine sk 17 (some 34) 262143 ?_; refine pu 18 (some 35) 524287 ?_; refine pu 19 (some 2) 1048575 ?_; refine dn (by kernel_rfl) ?_; clear hHeld HBr rBK1; have c_BK1 := bcl BK1; have z_BK1 := bfr BK1; replace H := H.out; cases H; go_wp2; go_ret; exact ⟨rfl, HB.out⟩
   subst c32; replace H := obs H; obtain ⟨t500, hm, H⟩ := H; (try dsimp only at H); replace hm := Aside0.mk hm; replace H := Aside0.mk H; refine pu 12 (some 29) 8191 ?_; refine pu 13 (some 30) 16383 ?_; refine pu 14 (some 31) 32767 ?_; refine pu 16 (some 33) 98303 ?_; refine ld 15 (some 32) 131071 hHeld ?_ (hr := by (intro w' h_; have y_ := kD rBK1 h_; go_simp; with_reducible rfl)); refine on 17 (some 34) 262143 (fun K hK => ?_); have hcall := impl_InRange.calls _ _ _ _ W31  hm.out; refine goes_ Tryz.func98 (by kernel_rfl) rfl #[.int .i64 a0_2, .int .i64 0, .int .i64 10000] (by rfl) rfl rfl zM ?_; refine hcall.mono ?_; rintro e W34 ⟨rfl, hb⟩; refine ⟨_, rfl, ?_⟩; clear hcall hm; replace hHeld := below_step hHeld hb; replace BK1 := bK BK1 hb; replace HB := bH HB hb; clear hb; refine hK.out _ _ hHeld (fun hHeld => ?_); clear hK K; refine nr 34 ?_; refine pu 18 (some 35) 524287 ?_; refine pu 19 (some 2) 1048575 ?_; refine dn (by kernel_rfl) ?_; clear hHeld HBr rBK1; have c_BK1 := bcl BK1; have z_BK1 := bfr BK1; replace H := H.out; cases H; go_wp2; go_ret; exact ⟨rfl, HB.out⟩
  replace c25 := nT c25
  subst c25
  replace H := Aside0.mk H
  try go_wp2
  clear c_BK1 z_BK1; have rBK1 := BK1; replace BK1 := dK BK1
  have HBr := HB; replace HB := dH HB
  refine stA (n := 20) (S := fun w' => Below W24.heap.size W24 w') (by kernel_rfl) rfl (below_drew1 (Below.refl _ W24)) (by kernel_rfl) (fun hHeld => ?_)
  generalize W24.drew = W35 at HB BK1 hHeld ⊢
  replace H := H.out
  replace H := obs H
  obtain ⟨t501, hm, H⟩ := H
  (try dsimp only at H)
  replace hm := Aside0.mk hm
  replace H := Aside0.mk H
  refine pu 0 (some 17) 1 ?_; refine pu 3 (some 20) 9 ?_; refine ld 1 (some 18) 11 hHeld ?_ (hr := by (intro w' h_; have y_ := kD rBK1 h_; go_simp; with_reducible rfl)); refine pu 2 (some 19) 15 ?_; refine ld 4 (some 21) 31 hHeld ?_ (hr := by (intro w' h_; have y_ := kD rBK1 h_; go_simp; with_reducible rfl))
  refine on 5 (some 22) 63 (fun K hK => ?_)
  have hcall := impl_ArityOf.calls _ _ W35  hm.out
  refine goes_ Tryz.func388 (by kernel_rfl) rfl #[.int .i64 a0_0] (by rfl) rfl rfl zM ?_
  refine hcall.mono ?_
  rintro e W37 ⟨rfl, hb⟩
  refine ⟨_, rfl, ?_⟩
  clear hcall hm
  replace hHeld := below_step hHeld hb
  replace BK1 := bK BK1 hb
  replace HB := bH HB hb; clear hb
  refine hK.out _ _ hHeld (fun hHeld => ?_)
  clear hK K
  refine nr 22 ?_
  replace H := ifD H.out; rcases H with ⟨c38, H⟩ | ⟨c38, H⟩
  rotate_left
  ·obtain ⟨c38_0, c38_1, c38_2⟩ := d3F c38; clear c38; (first | rw [c38_1] | rw [c38_2] | skip); replace H := Aside0.mk H; refine pu 6 (some 23) 127 ?_; refine pu 7 (some 24) 255 ?_; refine sk 8 (some 25) 511 ?_; refine sk 9 (some 26) 1023 ?_; refine sk 10 (some 27) 2047 ?_; refine sk 11 (some 28) 4095 ?_; refine pu 12 (some 29) 8191 ?_; refine pu 13 (some 30) 16383 ?_; refine sk 14 (some 31) 32767 ?_; refine sk 15 (some 32) 65535 ?_; refine sk 16 (some 33) 131071 ?_; refine sk 17 (some 34) 262143 ?_; refine pu 18 (some 35) 524287 ?_; refine pu 19 (some 2) 1048575 ?_; refine dn (by kernel_rfl) ?_; clear hHeld HBr rBK1; have c_BK1 := bcl BK1; have z_BK1 := bfr BK1; replace H := H.out; cases H; go_wp2; go_ret; exact ⟨rfl, HB.out⟩
  obtain ⟨c38_0, c38_1, c38_2⟩ := d3T c38
  clear c38
  (first | rw [c38_1] | rw [c38_2] | skip)
  replace H := obs H
  obtain ⟨t502, hm, H⟩ := H
  (try dsimp only at H)
  replace hm := Aside0.mk hm
  replace H := Aside0.mk H
  refine pu 6 (some 23) 127 ?_; refine pu 7 (some 24) 255 ?_; refine pu 8 (some 25) 511 ?_; refine pu 10 (some 27) 1535 ?_; refine ld 9 (some 26) 2047 hHeld ?_ (hr := by (intro w' h_; have y_ := kD rBK1 h_; go_simp; with_reducible rfl))
  refine on 11 (some 28) 4095 (fun K hK => ?_)
  have hcall := impl_InRange.calls _ _ _ _ W37  hm.out
  refine goes_ Tryz.func98 (by kernel_rfl) rfl #[.int .i64 a0_1, .int .i64 0, .int .i64 3] (by rfl) rfl rfl zM ?_
  refine hcall.mono ?_
  rintro e W40 ⟨rfl, hb⟩
  refine ⟨_, rfl, ?_⟩
  clear hcall hm
  replace hHeld := below_step hHeld hb
  replace BK1 := bK BK1 hb
  replace HB := bH HB hb; clear hb
  refine hK.out _ _ hHeld (fun hHeld => ?_)
  clear hK K
  refine nr 28 ?_
  replace H := ifD H.out; rcases H with ⟨c41, H⟩ | ⟨c41, H⟩
  rotate_left
  ·replace c41 := nT c41; subst c41; replace H := Aside0.mk H; refine pu 12 (some 29) 8191 ?_; refine pu 13 (some 30) 16383 ?_; refine sk 14 (some 31) 32767 ?_; refine sk 15 (some 32) 65535 ?_; refine sk 16 (some 33) 131071 ?_; refine sk 17 (some 34) 262143 ?_; refine pu 18 (some 35) 524287 ?_; refine pu 19 (some 2) 1048575 ?_; refine dn (by kernel_rfl) ?_; clear hHeld HBr rBK1; have c_BK1 := bcl BK1; have z_BK1 := bfr BK1; replace H := H.out; cases H; go_wp2; go_ret; exact ⟨rfl, HB.out⟩
  subst c41
  replace H := obs H
  obtain ⟨t503, hm, H⟩ := H
  (try dsimp only at H)
  replace hm := Aside0.mk hm
  replace H := Aside0.mk H
  refine pu 12 (some 29) 8191 ?_; refine pu 13 (some 30) 16383 ?_; refine pu 14 (some 31) 32767 ?_; refine pu 16 (some 33) 98303 ?_; refine ld 15 (some 32) 131071 hHeld ?_ (hr := by (intro w' h_; have y_ := kD rBK1 h_; go_simp; with_reducible rfl))
  refine on 17 (some 34) 262143 (fun K hK => ?_)
  have hcall := impl_InRange.calls _ _ _ _ W40  hm.out
  refine goes_ Tryz.func98 (by kernel_rfl) rfl #[.int .i64 a0_2, .int .i64 0, .int .i64 0] (by rfl) rfl rfl zM ?_
  refine hcall.mono ?_
  rintro e W43 ⟨rfl, hb⟩
  refine ⟨_, rfl, ?_⟩
  clear hcall hm
  replace hHeld := below_step hHeld hb
  replace BK1 := bK BK1 hb
  replace HB := bH HB hb; clear hb
  refine hK.out _ _ hHeld (fun hHeld => ?_)
  clear hK K
  refine nr 34 ?_
  refine pu 18 (some 35) 524287 ?_; refine pu 19 (some 2) 1048575 ?_
  refine dn (by kernel_rfl) ?_
  clear hHeld HBr rBK1
  have c_BK1 := bcl BK1; have z_BK1 := bfr BK1
  replace H := H.out
  cases H
  go_wp2
  go_ret
  exact ⟨rfl, HB.out⟩
 obtain ⟨c23_0, c23_1, c23_2⟩ := d3F c23
 clear c23
 (first | rw [c23_1] | rw [c23_2] | skip)
 replace H := ifD H; rcases H with ⟨c44, H⟩ | ⟨c44, H⟩
 ·obtain ⟨c44_0, c44_1, c44_2⟩ := d3T c44
  clear c44
  (first | rw [c44_1] | rw [c44_2] | skip)
  replace H := obs H
  obtain ⟨t504, hm, H⟩ := H
  (try dsimp only at H)
  replace H := Aside0.mk H
  have hcall := impl_InRange.calls _ _ _ _ W1  hm
  clear hm
  (go_wp2_with fail)
  refine hcall.mono ?_
  rintro e W45 ⟨rfl, hb⟩
  clear hcall
  replace BK1 := bK BK1 hb; replace c_BK1 := bcl BK1; replace z_BK1 := bfr BK1
  replace HB := bH HB hb; clear hb
  replace H := ifD H.out; rcases H with ⟨c46, H⟩ | ⟨c46, H⟩
  ·subst c46; replace H := Aside0.mk H; try go_wp2
   clear c_BK1 z_BK1; have rBK1 := BK1; replace BK1 := dK BK1; have HBr := HB; replace HB := dH HB; refine stA (n := 20) (S := fun w' => Below W45.heap.size W45 w') (by kernel_rfl) rfl (below_drew1 (Below.refl _ W45)) (by kernel_rfl) (fun hHeld => ?_); generalize W45.drew = W47 at HB BK1 hHeld ⊢; replace H := H.out; replace H := obs H; obtain ⟨t505, hm, H⟩ := H; (try dsimp only at H); replace hm := Aside0.mk hm; replace H := Aside0.mk H; refine pu 0 (some 17) 1 ?_; refine pu 3 (some 20) 9 ?_; refine ld 1 (some 18) 11 hHeld ?_ (hr := by (intro w' h_; have y_ := kD rBK1 h_; go_simp; with_reducible rfl)); refine pu 2 (some 19) 15 ?_; refine ld 4 (some 21) 31 hHeld ?_ (hr := by (intro w' h_; have y_ := kD rBK1 h_; go_simp; with_reducible rfl)); refine on 5 (some 22) 63 (fun K hK => ?_); have hcall := impl_ArityOf.calls _ _ W47  hm.out; refine goes_ Tryz.func388 (by kernel_rfl) rfl #[.int .i64 a0_0] (by rfl) rfl rfl zM ?_; refine hcall.mono ?_; rintro e W49 ⟨rfl, hb⟩; refine ⟨_, rfl, ?_⟩; clear hcall hm; replace hHeld := below_step hHeld hb; replace BK1 := bK BK1 hb; replace HB := bH HB hb; clear hb; refine hK.out _ _ hHeld (fun hHeld => ?_); clear hK K; refine nr 22 ?_; replace H := ifD H.out; rcases H with ⟨c50, H⟩ | ⟨c50, H⟩; rotate_left
   ·obtain ⟨c50_0, c50_1, c50_2⟩ := d3F c50; clear c50; (first | rw [c50_1] | rw [c50_2] | skip); replace H := Aside0.mk H; refine pu 6 (some 23) 127 ?_; refine pu 7 (some 24) 255 ?_; refine sk 8 (some 25) 511 ?_; refine sk 9 (some 26) 1023 ?_; refine sk 10 (some 27) 2047 ?_; refine sk 11 (some 28) 4095 ?_; refine pu 12 (some 29) 8191 ?_; refine pu 13 (some 30) 16383 ?_; refine sk 14 (some 31) 32767 ?_; refine sk 15 (some 32) 65535 ?_; refine sk 16 (some 33) 131071 ?_; refine sk 17 (some 34) 262143 ?_; refine pu 18 (some 35) 524287 ?_; refine pu 19 (some 2) 1048575 ?_; refine dn (by kernel_rfl) ?_; clear hHeld HBr rBK1; have c_BK1 := bcl BK1; have z_BK1 := bfr BK1; replace H := H.out; cases H; go_wp2; go_ret; exact ⟨rfl, HB.out⟩
   obtain ⟨c50_0, c50_1, c50_2⟩ := d3T c50; clear c50; (first | rw [c50_1] | rw [c50_2] | skip); replace H := obs H; obtain ⟨t506, hm, H⟩ := H; (try dsimp only at H); replace hm := Aside0.mk hm; replace H := Aside0.mk H; refine pu 6 (some 23) 127 ?_; refine pu 7 (some 24) 255 ?_; refine pu 8 (some 25) 511 ?_; refine pu 10 (some 27) 1535 ?_; refine ld 9 (some 26) 2047 hHeld ?_ (hr := by (intro w' h_; have y_ := kD rBK1 h_; go_simp; with_reducible rfl)); refine on 11 (some 28) 4095 (fun K hK => ?_); have hcall := impl_InRange.calls _ _ _ _ W49  hm.out; refine goes_ Tryz.func98 (by kernel_rfl) rfl #[.int .i64 a0_1, .int .i64 0, .int .i64 3] (by rfl) rfl rfl zM ?_; refine hcall.mono ?_; rintro e W52 ⟨rfl, hb⟩; refine ⟨_, rfl, ?_⟩; clear hcall hm; replace hHeld := below_step hHeld hb; replace BK1 := bK BK1 hb; replace HB := bH HB hb; clear hb; refine hK.out _ _ hHeld (fun hHeld => ?_); clear hK K; refine nr 28 ?_; replace H := ifD H.out; rcases H with ⟨c53, H⟩ | ⟨c53, H⟩; rotate_left
   ·replace c53 := nT c53; subst c53; replace H := Aside0.mk H; refine pu 12 (some 29) 8191 ?_; refine pu 13 (some 30) 16383 ?_; refine sk 14 (some 31) 32767 ?_; refine sk 15 (some 32) 65535 ?_; refine sk 16 (some 33) 131071 ?_; refine sk 17 (some 34) 262143 ?_; refine pu 18 (some 35) 524287 ?_; refine pu 19 (some 2) 1048575 ?_; refine dn (by kernel_rfl) ?_; clear hHeld HBr rBK1; have c_BK1 := bcl BK1; have z_BK1 := bfr BK1; replace H := H.out; cases H; go_wp2; go_ret; exact ⟨rfl, HB.out⟩
   subst c53; replace H := obs H; obtain ⟨t507, hm, H⟩ := H; (try dsimp only at H); replace hm := Aside0.mk hm; replace H := Aside0.mk H; refine pu 12 (some 29) 8191 ?_; refine pu 13 (some 30) 16383 ?_; refine pu 14 (some 31) 32767 ?_; refine pu 16 (some 33) 98303 ?_; refine ld 15 (some 32) 131071 hHeld ?_ (hr := by (intro w' h_; have y_ := kD rBK1 h_; go_simp; with_reducible rfl)); refine on 17 (some 34) 262143 (fun K hK => ?_); have hcall := impl_InRange.calls _ _ _ _ W52  hm.out; refine goes_ Tryz.func98 (by kernel_rfl) rfl #[.int .i64 a0_2, .int .i64 0, .int .i64 10000] (by rfl) rfl rfl zM ?_; refine hcall.mono ?_; rintro e W55 ⟨rfl, hb⟩; refine ⟨_, rfl, ?_⟩; clear hcall hm; replace hHeld := below_step hHeld hb; replace BK1 := bK BK1 hb; replace HB := bH HB hb; clear hb; refine hK.out _ _ hHeld (fun hHeld => ?_); clear hK K; refine nr 34 ?_; refine pu 18 (some 35) 524287 ?_; refine pu 19 (some 2) 1048575 ?_; refine dn (by kernel_rfl) ?_; clear hHeld HBr rBK1; have c_BK1 := bcl BK1; have z_BK1 := bfr BK1; replace H := H.out; cases H; go_wp2; go_ret; exact ⟨rfl, HB.out⟩
  replace c46 := nT c46
  subst c46
  replace H := Aside0.mk H
  try go_wp2
  clear c_BK1 z_BK1; have rBK1 := BK1; replace BK1 := dK BK1
  have HBr := HB; replace HB := dH HB
  refine stA (n := 20) (S := fun w' => Below W45.heap.size W45 w') (by kernel_rfl) rfl (below_drew1 (Below.refl _ W45)) (by kernel_rfl) (fun hHeld => ?_)
  generalize W45.drew = W56 at HB BK1 hHeld ⊢
  replace H := H.out
  replace H := obs H
  obtain ⟨t508, hm, H⟩ := H
  (try dsimp only at H)
  replace hm := Aside0.mk hm
  replace H := Aside0.mk H
  refine pu 0 (some 17) 1 ?_; refine pu 3 (some 20) 9 ?_; refine ld 1 (some 18) 11 hHeld ?_ (hr := by (intro w' h_; have y_ := kD rBK1 h_; go_simp; with_reducible rfl)); refine pu 2 (some 19) 15 ?_; refine ld 4 (some 21) 31 hHeld ?_ (hr := by (intro w' h_; have y_ := kD rBK1 h_; go_simp; with_reducible rfl))
  refine on 5 (some 22) 63 (fun K hK => ?_)
  have hcall := impl_ArityOf.calls _ _ W56  hm.out
  refine goes_ Tryz.func388 (by kernel_rfl) rfl #[.int .i64 a0_0] (by rfl) rfl rfl zM ?_
  refine hcall.mono ?_
  rintro e W58 ⟨rfl, hb⟩
  refine ⟨_, rfl, ?_⟩
  clear hcall hm
  replace hHeld := below_step hHeld hb
  replace BK1 := bK BK1 hb
  replace HB := bH HB hb; clear hb
  refine hK.out _ _ hHeld (fun hHeld => ?_)
  clear hK K
  refine nr 22 ?_
  replace H := ifD H.out; rcases H with ⟨c59, H⟩ | ⟨c59, H⟩
  rotate_left
  ·obtain ⟨c59_0, c59_1, c59_2⟩ := d3F c59; clear c59; (first | rw [c59_1] | rw [c59_2] | skip); replace H := Aside0.mk H; refine pu 6 (some 23) 127 ?_; refine pu 7 (some 24) 255 ?_; refine sk 8 (some 25) 511 ?_; refine sk 9 (some 26) 1023 ?_; refine sk 10 (some 27) 2047 ?_; refine sk 11 (some 28) 4095 ?_; refine pu 12 (some 29) 8191 ?_; refine pu 13 (some 30) 16383 ?_; refine sk 14 (some 31) 32767 ?_; refine sk 15 (some 32) 65535 ?_; refine sk 16 (some 33) 131071 ?_; refine sk 17 (some 34) 262143 ?_; refine pu 18 (some 35) 524287 ?_; refine pu 19 (some 2) 1048575 ?_; refine dn (by kernel_rfl) ?_; clear hHeld HBr rBK1; have c_BK1 := bcl BK1; have z_BK1 := bfr BK1; replace H := H.out; cases H; go_wp2; go_ret; exact ⟨rfl, HB.out⟩
  obtain ⟨c59_0, c59_1, c59_2⟩ := d3T c59
  clear c59
  (first | rw [c59_1] | rw [c59_2] | skip)
  replace H := obs H
  obtain ⟨t509, hm, H⟩ := H
  (try dsimp only at H)
  replace hm := Aside0.mk hm
  replace H := Aside0.mk H
  refine pu 6 (some 23) 127 ?_; refine pu 7 (some 24) 255 ?_; refine pu 8 (some 25) 511 ?_; refine pu 10 (some 27) 1535 ?_; refine ld 9 (some 26) 2047 hHeld ?_ (hr := by (intro w' h_; have y_ := kD rBK1 h_; go_simp; with_reducible rfl))
  refine on 11 (some 28) 4095 (fun K hK => ?_)
  have hcall := impl_InRange.calls _ _ _ _ W58  hm.out
  refine goes_ Tryz.func98 (by kernel_rfl) rfl #[.int .i64 a0_1, .int .i64 0, .int .i64 3] (by rfl) rfl rfl zM ?_
  refine hcall.mono ?_
  rintro e W61 ⟨rfl, hb⟩
  refine ⟨_, rfl, ?_⟩
  clear hcall hm
  replace hHeld := below_step hHeld hb
  replace BK1 := bK BK1 hb
  replace HB := bH HB hb; clear hb
  refine hK.out _ _ hHeld (fun hHeld => ?_)
  clear hK K
  refine nr 28 ?_
  replace H := ifD H.out; rcases H with ⟨c62, H⟩ | ⟨c62, H⟩
  rotate_left
  ·replace c62 := nT c62; subst c62; replace H := Aside0.mk H; refine pu 12 (some 29) 8191 ?_; refine pu 13 (some 30) 16383 ?_; refine sk 14 (some 31) 32767 ?_; refine sk 15 (some 32) 65535 ?_; refine sk 16 (some 33) 131071 ?_; refine sk 17 (some 34) 262143 ?_; refine pu 18 (some 35) 524287 ?_; refine pu 19 (some 2) 1048575 ?_; refine dn (by kernel_rfl) ?_; clear hHeld HBr rBK1; have c_BK1 := bcl BK1; have z_BK1 := bfr BK1; replace H := H.out; cases H; go_wp2; go_ret; exact ⟨rfl, HB.out⟩
  subst c62
  replace H := obs H
  obtain ⟨t510, hm, H⟩ := H
  (try dsimp only at H)
  replace hm := Aside0.mk hm
  replace H := Aside0.mk H
  refine pu 12 (some 29) 8191 ?_; refine pu 13 (some 30) 16383 ?_; refine pu 14 (some 31) 32767 ?_; refine pu 16 (some 33) 98303 ?_; refine ld 15 (some 32) 131071 hHeld ?_ (hr := by (intro w' h_; have y_ := kD rBK1 h_; go_simp; with_reducible rfl))
  refine on 17 (some 34) 262143 (fun K hK => ?_)
  have hcall := impl_InRange.calls _ _ _ _ W61  hm.out
  refine goes_ Tryz.func98 (by kernel_rfl) rfl #[.int .i64 a0_2, .int .i64 0, .int .i64 0] (by rfl) rfl rfl zM ?_
  refine hcall.mono ?_
  rintro e W64 ⟨rfl, hb⟩
  refine ⟨_, rfl, ?_⟩
  clear hcall hm
  replace hHeld := below_step hHeld hb
  replace BK1 := bK BK1 hb
  replace HB := bH HB hb; clear hb
  refine hK.out _ _ hHeld (fun hHeld => ?_)
  clear hK K
  refine nr 34 ?_
  refine pu 18 (some 35) 524287 ?_; refine pu 19 (some 2) 1048575 ?_
  refine dn (by kernel_rfl) ?_
  clear hHeld HBr rBK1
  have c_BK1 := bcl BK1; have z_BK1 := bfr BK1
  replace H := H.out
  cases H
  go_wp2
  go_ret
  exact ⟨rfl, HB.out⟩
 obtain ⟨c44_0, c44_1, c44_2⟩ := d3F c44
 clear c44
 (first | rw [c44_1] | rw [c44_2] | skip)
 replace H := ifD H; rcases H with ⟨c65, H⟩ | ⟨c65, H⟩
 ·obtain ⟨c65_0, c65_1, c65_2⟩ := d3T c65
  clear c65
  (first | rw [c65_1] | rw [c65_2] | skip)
  replace H := obs H
  obtain ⟨t511, hm, H⟩ := H
  (try dsimp only at H)
  replace H := Aside0.mk H
  have hcall := impl_InRange.calls _ _ _ _ W1  hm
  clear hm
  (go_wp2_with fail)
  refine hcall.mono ?_
  rintro e W66 ⟨rfl, hb⟩
  clear hcall
  replace BK1 := bK BK1 hb; replace c_BK1 := bcl BK1; replace z_BK1 := bfr BK1
  replace HB := bH HB hb; clear hb
  replace H := ifD H.out; rcases H with ⟨c67, H⟩ | ⟨c67, H⟩
  ·subst c67; replace H := Aside0.mk H; try go_wp2
   clear c_BK1 z_BK1; have rBK1 := BK1; replace BK1 := dK BK1; have HBr := HB; replace HB := dH HB; refine stA (n := 20) (S := fun w' => Below W66.heap.size W66 w') (by kernel_rfl) rfl (below_drew1 (Below.refl _ W66)) (by kernel_rfl) (fun hHeld => ?_); generalize W66.drew = W68 at HB BK1 hHeld ⊢; replace H := H.out; replace H := obs H; obtain ⟨t512, hm, H⟩ := H; (try dsimp only at H); replace hm := Aside0.mk hm; replace H := Aside0.mk H; refine pu 0 (some 17) 1 ?_; refine pu 3 (some 20) 9 ?_; refine ld 1 (some 18) 11 hHeld ?_ (hr := by (intro w' h_; have y_ := kD rBK1 h_; go_simp; with_reducible rfl)); refine pu 2 (some 19) 15 ?_; refine ld 4 (some 21) 31 hHeld ?_ (hr := by (intro w' h_; have y_ := kD rBK1 h_; go_simp; with_reducible rfl)); refine on 5 (some 22) 63 (fun K hK => ?_); have hcall := impl_ArityOf.calls _ _ W68  hm.out; refine goes_ Tryz.func388 (by kernel_rfl) rfl #[.int .i64 a0_0] (by rfl) rfl rfl zM ?_; refine hcall.mono ?_; rintro e W70 ⟨rfl, hb⟩; refine ⟨_, rfl, ?_⟩; clear hcall hm; replace hHeld := below_step hHeld hb; replace BK1 := bK BK1 hb; replace HB := bH HB hb; clear hb; refine hK.out _ _ hHeld (fun hHeld => ?_); clear hK K; refine nr 22 ?_; replace H := ifD H.out; rcases H with ⟨c71, H⟩ | ⟨c71, H⟩; rotate_left
   ·obtain ⟨c71_0, c71_1, c71_2⟩ := d3F c71; clear c71; (first | rw [c71_1] | rw [c71_2] | skip); replace H := Aside0.mk H; refine pu 6 (some 23) 127 ?_; refine pu 7 (some 24) 255 ?_; refine sk 8 (some 25) 511 ?_; refine sk 9 (some 26) 1023 ?_; refine sk 10 (some 27) 2047 ?_; refine sk 11 (some 28) 4095 ?_; refine pu 12 (some 29) 8191 ?_; refine pu 13 (some 30) 16383 ?_; refine sk 14 (some 31) 32767 ?_; refine sk 15 (some 32) 65535 ?_; refine sk 16 (some 33) 131071 ?_; refine sk 17 (some 34) 262143 ?_; refine pu 18 (some 35) 524287 ?_; refine pu 19 (some 2) 1048575 ?_; refine dn (by kernel_rfl) ?_; clear hHeld HBr rBK1; have c_BK1 := bcl BK1; have z_BK1 := bfr BK1; replace H := H.out; cases H; go_wp2; go_ret; exact ⟨rfl, HB.out⟩
   obtain ⟨c71_0, c71_1, c71_2⟩ := d3T c71; clear c71; (first | rw [c71_1] | rw [c71_2] | skip); replace H := obs H; obtain ⟨t513, hm, H⟩ := H; (try dsimp only at H); replace hm := Aside0.mk hm; replace H := Aside0.mk H; refine pu 6 (some 23) 127 ?_; refine pu 7 (some 24) 255 ?_; refine pu 8 (some 25) 511 ?_; refine pu 10 (some 27) 1535 ?_; refine ld 9 (some 26) 2047 hHeld ?_ (hr := by (intro w' h_; have y_ := kD rBK1 h_; go_simp; with_reducible rfl)); refine on 11 (some 28) 4095 (fun K hK => ?_); have hcall := impl_InRange.calls _ _ _ _ W70  hm.out; refine goes_ Tryz.func98 (by kernel_rfl) rfl #[.int .i64 a0_1, .int .i64 0, .int .i64 10000] (by rfl) rfl rfl zM ?_; refine hcall.mono ?_; rintro e W73 ⟨rfl, hb⟩; refine ⟨_, rfl, ?_⟩; clear hcall hm; replace hHeld := below_step hHeld hb; replace BK1 := bK BK1 hb; replace HB := bH HB hb; clear hb; refine hK.out _ _ hHeld (fun hHeld => ?_); clear hK K; refine nr 28 ?_; replace H := ifD H.out; rcases H with ⟨c74, H⟩ | ⟨c74, H⟩; rotate_left
   ·replace c74 := nT c74; subst c74; replace H := Aside0.mk H; refine pu 12 (some 29) 8191 ?_; refine pu 13 (some 30) 16383 ?_; refine sk 14 (some 31) 32767 ?_; refine sk 15 (some 32) 65535 ?_; refine sk 16 (some 33) 131071 ?_; refine sk 17 (some 34) 262143 ?_; refine pu 18 (some 35) 524287 ?_; refine pu 19 (some 2) 1048575 ?_; refine dn (by kernel_rfl) ?_; clear hHeld HBr rBK1; have c_BK1 := bcl BK1; have z_BK1 := bfr BK1; replace H := H.out; cases H; go_wp2; go_ret; exact ⟨rfl, HB.out⟩
   subst c74; replace H := obs H; obtain ⟨t514, hm, H⟩ := H; (try dsimp only at H); replace hm := Aside0.mk hm; replace H := Aside0.mk H; refine pu 12 (some 29) 8191 ?_; refine pu 13 (some 30) 16383 ?_; refine pu 14 (some 31) 32767 ?_; refine pu 16 (some 33) 98303 ?_; refine ld 15 (some 32) 131071 hHeld ?_ (hr := by (intro w' h_; have y_ := kD rBK1 h_; go_simp; with_reducible rfl)); refine on 17 (some 34) 262143 (fun K hK => ?_); have hcall := impl_InRange.calls _ _ _ _ W73  hm.out; refine goes_ Tryz.func98 (by kernel_rfl) rfl #[.int .i64 a0_2, .int .i64 0, .int .i64 10000] (by rfl) rfl rfl zM ?_; refine hcall.mono ?_; rintro e W76 ⟨rfl, hb⟩; refine ⟨_, rfl, ?_⟩; clear hcall hm; replace hHeld := below_step hHeld hb; replace BK1 := bK BK1 hb; replace HB := bH HB hb; clear hb; refine hK.out _ _ hHeld (fun hHeld => ?_); clear hK K; refine nr 34 ?_; refine pu 18 (some 35) 524287 ?_; refine pu 19 (some 2) 1048575 ?_; refine dn (by kernel_rfl) ?_; clear hHeld HBr rBK1; have c_BK1 := bcl BK1; have z_BK1 := bfr BK1; replace H := H.out; cases H; go_wp2; go_ret; exact ⟨rfl, HB.out⟩
  replace c67 := nT c67
  subst c67
  replace H := Aside0.mk H
  try go_wp2
  clear c_BK1 z_BK1; have rBK1 := BK1; replace BK1 := dK BK1
  have HBr := HB; replace HB := dH HB
  refine stA (n := 20) (S := fun w' => Below W66.heap.size W66 w') (by kernel_rfl) rfl (below_drew1 (Below.refl _ W66)) (by kernel_rfl) (fun hHeld => ?_)
  generalize W66.drew = W77 at HB BK1 hHeld ⊢
  replace H := H.out
  replace H := obs H
  obtain ⟨t515, hm, H⟩ := H
  (try dsimp only at H)
  replace hm := Aside0.mk hm
  replace H := Aside0.mk H
  refine pu 0 (some 17) 1 ?_; refine pu 3 (some 20) 9 ?_; refine ld 1 (some 18) 11 hHeld ?_ (hr := by (intro w' h_; have y_ := kD rBK1 h_; go_simp; with_reducible rfl)); refine pu 2 (some 19) 15 ?_; refine ld 4 (some 21) 31 hHeld ?_ (hr := by (intro w' h_; have y_ := kD rBK1 h_; go_simp; with_reducible rfl))
  refine on 5 (some 22) 63 (fun K hK => ?_)
  have hcall := impl_ArityOf.calls _ _ W77  hm.out
  refine goes_ Tryz.func388 (by kernel_rfl) rfl #[.int .i64 a0_0] (by rfl) rfl rfl zM ?_
  refine hcall.mono ?_
  rintro e W79 ⟨rfl, hb⟩
  refine ⟨_, rfl, ?_⟩
  clear hcall hm
  replace hHeld := below_step hHeld hb
  replace BK1 := bK BK1 hb
  replace HB := bH HB hb; clear hb
  refine hK.out _ _ hHeld (fun hHeld => ?_)
  clear hK K
  refine nr 22 ?_
  replace H := ifD H.out; rcases H with ⟨c80, H⟩ | ⟨c80, H⟩
  rotate_left
  ·obtain ⟨c80_0, c80_1, c80_2⟩ := d3F c80; clear c80; (first | rw [c80_1] | rw [c80_2] | skip); replace H := Aside0.mk H; refine pu 6 (some 23) 127 ?_; refine pu 7 (some 24) 255 ?_; refine sk 8 (some 25) 511 ?_; refine sk 9 (some 26) 1023 ?_; refine sk 10 (some 27) 2047 ?_; refine sk 11 (some 28) 4095 ?_; refine pu 12 (some 29) 8191 ?_; refine pu 13 (some 30) 16383 ?_; refine sk 14 (some 31) 32767 ?_; refine sk 15 (some 32) 65535 ?_; refine sk 16 (some 33) 131071 ?_; refine sk 17 (some 34) 262143 ?_; refine pu 18 (some 35) 524287 ?_; refine pu 19 (some 2) 1048575 ?_; refine dn (by kernel_rfl) ?_; clear hHeld HBr rBK1; have c_BK1 := bcl BK1; have z_BK1 := bfr BK1; replace H := H.out; cases H; go_wp2; go_ret; exact ⟨rfl, HB.out⟩
  obtain ⟨c80_0, c80_1, c80_2⟩ := d3T c80
  clear c80
  (first | rw [c80_1] | rw [c80_2] | skip)
  replace H := obs H
  obtain ⟨t516, hm, H⟩ := H
  (try dsimp only at H)
  replace hm := Aside0.mk hm
  replace H := Aside0.mk H
  refine pu 6 (some 23) 127 ?_; refine pu 7 (some 24) 255 ?_; refine pu 8 (some 25) 511 ?_; refine pu 10 (some 27) 1535 ?_; refine ld 9 (some 26) 2047 hHeld ?_ (hr := by (intro w' h_; have y_ := kD rBK1 h_; go_simp; with_reducible rfl))
  refine on 11 (some 28) 4095 (fun K hK => ?_)
  have hcall := impl_InRange.calls _ _ _ _ W79  hm.out
  refine goes_ Tryz.func98 (by kernel_rfl) rfl #[.int .i64 a0_1, .int .i64 0, .int .i64 10000] (by rfl) rfl rfl zM ?_
  refine hcall.mono ?_
  rintro e W82 ⟨rfl, hb⟩
  refine ⟨_, rfl, ?_⟩
  clear hcall hm
  replace hHeld := below_step hHeld hb
  replace BK1 := bK BK1 hb
  replace HB := bH HB hb; clear hb
  refine hK.out _ _ hHeld (fun hHeld => ?_)
  clear hK K
  refine nr 28 ?_
  replace H := ifD H.out; rcases H with ⟨c83, H⟩ | ⟨c83, H⟩
  rotate_left
  ·replace c83 := nT c83; subst c83; replace H := Aside0.mk H; refine pu 12 (some 29) 8191 ?_; refine pu 13 (some 30) 16383 ?_; refine sk 14 (some 31) 32767 ?_; refine sk 15 (some 32) 65535 ?_; refine sk 16 (some 33) 131071 ?_; refine sk 17 (some 34) 262143 ?_; refine pu 18 (some 35) 524287 ?_; refine pu 19 (some 2) 1048575 ?_; refine dn (by kernel_rfl) ?_; clear hHeld HBr rBK1; have c_BK1 := bcl BK1; have z_BK1 := bfr BK1; replace H := H.out; cases H; go_wp2; go_ret; exact ⟨rfl, HB.out⟩
  subst c83
  replace H := obs H
  obtain ⟨t517, hm, H⟩ := H
  (try dsimp only at H)
  replace hm := Aside0.mk hm
  replace H := Aside0.mk H
  refine pu 12 (some 29) 8191 ?_; refine pu 13 (some 30) 16383 ?_; refine pu 14 (some 31) 32767 ?_; refine pu 16 (some 33) 98303 ?_; refine ld 15 (some 32) 131071 hHeld ?_ (hr := by (intro w' h_; have y_ := kD rBK1 h_; go_simp; with_reducible rfl))
  refine on 17 (some 34) 262143 (fun K hK => ?_)
  have hcall := impl_InRange.calls _ _ _ _ W82  hm.out
  refine goes_ Tryz.func98 (by kernel_rfl) rfl #[.int .i64 a0_2, .int .i64 0, .int .i64 0] (by rfl) rfl rfl zM ?_
  refine hcall.mono ?_
  rintro e W85 ⟨rfl, hb⟩
  refine ⟨_, rfl, ?_⟩
  clear hcall hm
  replace hHeld := below_step hHeld hb
  replace BK1 := bK BK1 hb
  replace HB := bH HB hb; clear hb
  refine hK.out _ _ hHeld (fun hHeld => ?_)
  clear hK K
  refine nr 34 ?_
  refine pu 18 (some 35) 524287 ?_; refine pu 19 (some 2) 1048575 ?_
  refine dn (by kernel_rfl) ?_
  clear hHeld HBr rBK1
  have c_BK1 := bcl BK1; have z_BK1 := bfr BK1
  replace H := H.out
  cases H
  go_wp2
  go_ret
  exact ⟨rfl, HB.out⟩
 obtain ⟨c65_0, c65_1, c65_2⟩ := d3F c65
 clear c65
 (first | rw [c65_1] | rw [c65_2] | skip)
 replace H := obs H
 obtain ⟨t518, hm, H⟩ := H
 (try dsimp only at H)
 replace H := Aside0.mk H
 have hcall := impl_InRange.calls _ _ _ _ W1  hm
 clear hm
 (go_wp2_with fail)
 refine hcall.mono ?_
 rintro e W86 ⟨rfl, hb⟩
 clear hcall
 replace BK1 := bK BK1 hb; replace c_BK1 := bcl BK1; replace z_BK1 := bfr BK1
 replace HB := bH HB hb; clear hb
 replace H := ifD H.out; rcases H with ⟨c87, H⟩ | ⟨c87, H⟩
 ·subst c87
  replace H := Aside0.mk H
  try go_wp2
  clear c_BK1 z_BK1; have rBK1 := BK1; replace BK1 := dK BK1
  have HBr := HB; replace HB := dH HB
  refine stA (n := 20) (S := fun w' => Below W86.heap.size W86 w') (by kernel_rfl) rfl (below_drew1 (Below.refl _ W86)) (by kernel_rfl) (fun hHeld => ?_)
  generalize W86.drew = W88 at HB BK1 hHeld ⊢
  replace H := H.out
  replace H := obs H
  obtain ⟨t519, hm, H⟩ := H
  (try dsimp only at H)
  replace hm := Aside0.mk hm
  replace H := Aside0.mk H
  refine pu 0 (some 17) 1 ?_; refine pu 3 (some 20) 9 ?_; refine ld 1 (some 18) 11 hHeld ?_ (hr := by (intro w' h_; have y_ := kD rBK1 h_; go_simp; with_reducible rfl)); refine pu 2 (some 19) 15 ?_; refine ld 4 (some 21) 31 hHeld ?_ (hr := by (intro w' h_; have y_ := kD rBK1 h_; go_simp; with_reducible rfl))
  refine on 5 (some 22) 63 (fun K hK => ?_)
  have hcall := impl_ArityOf.calls _ _ W88  hm.out
  refine goes_ Tryz.func388 (by kernel_rfl) rfl #[.int .i64 a0_0] (by rfl) rfl rfl zM ?_
  refine hcall.mono ?_
  rintro e W90 ⟨rfl, hb⟩
  refine ⟨_, rfl, ?_⟩
  clear hcall hm
  replace hHeld := below_step hHeld hb
  replace BK1 := bK BK1 hb
  replace HB := bH HB hb; clear hb
  refine hK.out _ _ hHeld (fun hHeld => ?_)
  clear hK K
  refine nr 22 ?_
  replace H := ifD H.out; rcases H with ⟨c91, H⟩ | ⟨c91, H⟩
  rotate_left
  ·obtain ⟨c91_0, c91_1, c91_2⟩ := d3F c91; clear c91; (first | rw [c91_1] | rw [c91_2] | skip); replace H := Aside0.mk H; refine pu 6 (some 23) 127 ?_; refine pu 7 (some 24) 255 ?_; refine sk 8 (some 25) 511 ?_; refine sk 9 (some 26) 1023 ?_; refine sk 10 (some 27) 2047 ?_; refine sk 11 (some 28) 4095 ?_; refine pu 12 (some 29) 8191 ?_; refine pu 13 (some 30) 16383 ?_; refine sk 14 (some 31) 32767 ?_; refine sk 15 (some 32) 65535 ?_; refine sk 16 (some 33) 131071 ?_; refine sk 17 (some 34) 262143 ?_; refine pu 18 (some 35) 524287 ?_; refine pu 19 (some 2) 1048575 ?_; refine dn (by kernel_rfl) ?_; clear hHeld HBr rBK1; have c_BK1 := bcl BK1; have z_BK1 := bfr BK1; replace H := H.out; cases H; go_wp2; go_ret; exact ⟨rfl, HB.out⟩
  obtain ⟨c91_0, c91_1, c91_2⟩ := d3T c91
  clear c91
  (first | rw [c91_1] | rw [c91_2] | skip)
  replace H := obs H
  obtain ⟨t520, hm, H⟩ := H
  (try dsimp only at H)
  replace hm := Aside0.mk hm
  replace H := Aside0.mk H
  refine pu 6 (some 23) 127 ?_; refine pu 7 (some 24) 255 ?_; refine pu 8 (some 25) 511 ?_; refine pu 10 (some 27) 1535 ?_; refine ld 9 (some 26) 2047 hHeld ?_ (hr := by (intro w' h_; have y_ := kD rBK1 h_; go_simp; with_reducible rfl))
  refine on 11 (some 28) 4095 (fun K hK => ?_)
  have hcall := impl_InRange.calls _ _ _ _ W90  hm.out
  refine goes_ Tryz.func98 (by kernel_rfl) rfl #[.int .i64 a0_1, .int .i64 0, .int .i64 0] (by rfl) rfl rfl zM ?_
  refine hcall.mono ?_
  rintro e W93 ⟨rfl, hb⟩
  refine ⟨_, rfl, ?_⟩
  clear hcall hm
  replace hHeld := below_step hHeld hb
  replace BK1 := bK BK1 hb
  replace HB := bH HB hb; clear hb
  refine hK.out _ _ hHeld (fun hHeld => ?_)
  clear hK K
  refine nr 28 ?_
  replace H := ifD H.out; rcases H with ⟨c94, H⟩ | ⟨c94, H⟩
  rotate_left
  ·replace c94 := nT c94; subst c94; replace H := Aside0.mk H; refine pu 12 (some 29) 8191 ?_; refine pu 13 (some 30) 16383 ?_; refine sk 14 (some 31) 32767 ?_; refine sk 15 (some 32) 65535 ?_; refine sk 16 (some 33) 131071 ?_; refine sk 17 (some 34) 262143 ?_; refine pu 18 (some 35) 524287 ?_; refine pu 19 (some 2) 1048575 ?_; refine dn (by kernel_rfl) ?_; clear hHeld HBr rBK1; have c_BK1 := bcl BK1; have z_BK1 := bfr BK1; replace H := H.out; cases H; go_wp2; go_ret; exact ⟨rfl, HB.out⟩
  subst c94
  replace H := obs H
  obtain ⟨t521, hm, H⟩ := H
  (try dsimp only at H)
  replace hm := Aside0.mk hm
  replace H := Aside0.mk H
  refine pu 12 (some 29) 8191 ?_; refine pu 13 (some 30) 16383 ?_; refine pu 14 (some 31) 32767 ?_; refine pu 16 (some 33) 98303 ?_; refine ld 15 (some 32) 131071 hHeld ?_ (hr := by (intro w' h_; have y_ := kD rBK1 h_; go_simp; with_reducible rfl))
  refine on 17 (some 34) 262143 (fun K hK => ?_)
  have hcall := impl_InRange.calls _ _ _ _ W93  hm.out
  refine goes_ Tryz.func98 (by kernel_rfl) rfl #[.int .i64 a0_2, .int .i64 0, .int .i64 10000] (by rfl) rfl rfl zM ?_
  refine hcall.mono ?_
  rintro e W96 ⟨rfl, hb⟩
  refine ⟨_, rfl, ?_⟩
  clear hcall hm
  replace hHeld := below_step hHeld hb
  replace BK1 := bK BK1 hb
  replace HB := bH HB hb; clear hb
  refine hK.out _ _ hHeld (fun hHeld => ?_)
  clear hK K
  refine nr 34 ?_
  refine pu 18 (some 35) 524287 ?_; refine pu 19 (some 2) 1048575 ?_
  refine dn (by kernel_rfl) ?_
  clear hHeld HBr rBK1
  have c_BK1 := bcl BK1; have z_BK1 := bfr BK1
  replace H := H.out
  cases H
  go_wp2
  go_ret
  exact ⟨rfl, HB.out⟩
 replace c87 := nT c87
 subst c87
 replace H := Aside0.mk H
 try go_wp2
 clear c_BK1 z_BK1; have rBK1 := BK1; replace BK1 := dK BK1
 have HBr := HB; replace HB := dH HB
 refine stA (n := 20) (S := fun w' => Below W86.heap.size W86 w') (by kernel_rfl) rfl (below_drew1 (Below.refl _ W86)) (by kernel_rfl) (fun hHeld => ?_)
 generalize W86.drew = W97 at HB BK1 hHeld ⊢
 replace H := H.out
 replace H := obs H
 obtain ⟨t522, hm, H⟩ := H
 (try dsimp only at H)
 replace hm := Aside0.mk hm
 replace H := Aside0.mk H
 refine pu 0 (some 17) 1 ?_; refine pu 3 (some 20) 9 ?_; refine ld 1 (some 18) 11 hHeld ?_ (hr := by (intro w' h_; have y_ := kD rBK1 h_; go_simp; with_reducible rfl)); refine pu 2 (some 19) 15 ?_; refine ld 4 (some 21) 31 hHeld ?_ (hr := by (intro w' h_; have y_ := kD rBK1 h_; go_simp; with_reducible rfl))
 refine on 5 (some 22) 63 (fun K hK => ?_)
 have hcall := impl_ArityOf.calls _ _ W97  hm.out
 refine goes_ Tryz.func388 (by kernel_rfl) rfl #[.int .i64 a0_0] (by rfl) rfl rfl zM ?_
 refine hcall.mono ?_
 rintro e W99 ⟨rfl, hb⟩
 refine ⟨_, rfl, ?_⟩
 clear hcall hm
 replace hHeld := below_step hHeld hb
 replace BK1 := bK BK1 hb
 replace HB := bH HB hb; clear hb
 refine hK.out _ _ hHeld (fun hHeld => ?_)
 clear hK K
 refine nr 22 ?_
 replace H := ifD H.out; rcases H with ⟨c100, H⟩ | ⟨c100, H⟩
 rotate_left
 ·obtain ⟨c100_0, c100_1, c100_2⟩ := d3F c100
  clear c100
  (first | rw [c100_1] | rw [c100_2] | skip)
  replace H := Aside0.mk H
  refine pu 6 (some 23) 127 ?_; refine pu 7 (some 24) 255 ?_; refine sk 8 (some 25) 511 ?_; refine sk 9 (some 26) 1023 ?_; refine sk 10 (some 27) 2047 ?_; refine sk 11 (some 28) 4095 ?_; refine pu 12 (some 29) 8191 ?_; refine pu 13 (some 30) 16383 ?_; refine sk 14 (some 31) 32767 ?_; refine sk 15 (some 32) 65535 ?_; refine sk 16 (some 33) 131071 ?_; refine sk 17 (some 34) 262143 ?_; refine pu 18 (some 35) 524287 ?_; refine pu 19 (some 2) 1048575 ?_
  refine dn (by kernel_rfl) ?_
  clear hHeld HBr rBK1
  have c_BK1 := bcl BK1; have z_BK1 := bfr BK1
  replace H := H.out
  cases H
  go_wp2
  go_ret
  exact ⟨rfl, HB.out⟩
 obtain ⟨c100_0, c100_1, c100_2⟩ := d3T c100
 clear c100
 (first | rw [c100_1] | rw [c100_2] | skip)
 replace H := obs H
 obtain ⟨t523, hm, H⟩ := H
 (try dsimp only at H)
 replace hm := Aside0.mk hm
 replace H := Aside0.mk H
 refine pu 6 (some 23) 127 ?_; refine pu 7 (some 24) 255 ?_; refine pu 8 (some 25) 511 ?_; refine pu 10 (some 27) 1535 ?_; refine ld 9 (some 26) 2047 hHeld ?_ (hr := by (intro w' h_; have y_ := kD rBK1 h_; go_simp; with_reducible rfl))
 refine on 11 (some 28) 4095 (fun K hK => ?_)
 have hcall := impl_InRange.calls _ _ _ _ W99  hm.out
 refine goes_ Tryz.func98 (by kernel_rfl) rfl #[.int .i64 a0_1, .int .i64 0, .int .i64 0] (by rfl) rfl rfl zM ?_
 refine hcall.mono ?_
 rintro e W102 ⟨rfl, hb⟩
 refine ⟨_, rfl, ?_⟩
 clear hcall hm
 replace hHeld := below_step hHeld hb
 replace BK1 := bK BK1 hb
 replace HB := bH HB hb; clear hb
 refine hK.out _ _ hHeld (fun hHeld => ?_)
 clear hK K
 refine nr 28 ?_
 replace H := ifD H.out; rcases H with ⟨c103, H⟩ | ⟨c103, H⟩
 rotate_left
 ·replace c103 := nT c103
  subst c103
  replace H := Aside0.mk H
  refine pu 12 (some 29) 8191 ?_; refine pu 13 (some 30) 16383 ?_; refine sk 14 (some 31) 32767 ?_; refine sk 15 (some 32) 65535 ?_; refine sk 16 (some 33) 131071 ?_; refine sk 17 (some 34) 262143 ?_; refine pu 18 (some 35) 524287 ?_; refine pu 19 (some 2) 1048575 ?_
  refine dn (by kernel_rfl) ?_
  clear hHeld HBr rBK1
  have c_BK1 := bcl BK1; have z_BK1 := bfr BK1
  replace H := H.out
  cases H
  go_wp2
  go_ret
  exact ⟨rfl, HB.out⟩
 subst c103
 replace H := obs H
 obtain ⟨t524, hm, H⟩ := H
 (try dsimp only at H)
 replace hm := Aside0.mk hm
 replace H := Aside0.mk H
 refine pu 12 (some 29) 8191 ?_; refine pu 13 (some 30) 16383 ?_; refine pu 14 (some 31) 32767 ?_; refine pu 16 (some 33) 98303 ?_; refine ld 15 (some 32) 131071 hHeld ?_ (hr := by (intro w' h_; have y_ := kD rBK1 h_; go_simp; with_reducible rfl))
 refine on 17 (some 34) 262143 (fun K hK => ?_)
 have hcall := impl_InRange.calls _ _ _ _ W102  hm.out
 refine goes_ Tryz.func98 (by kernel_rfl) rfl #[.int .i64 a0_2, .int .i64 0, .int .i64 0] (by rfl) rfl rfl zM ?_
 refine hcall.mono ?_
 rintro e W105 ⟨rfl, hb⟩
 refine ⟨_, rfl, ?_⟩
 clear hcall hm
 replace hHeld := below_step hHeld hb
 replace BK1 := bK BK1 hb
 replace HB := bH HB hb; clear hb
 refine hK.out _ _ hHeld (fun hHeld => ?_)
 clear hK K
 refine nr 34 ?_
 refine pu 18 (some 35) 524287 ?_; refine pu 19 (some 2) 1048575 ?_
 refine dn (by kernel_rfl) ?_
 clear hHeld HBr rBK1
 have c_BK1 := bcl BK1; have z_BK1 := bfr BK1
 replace H := H.out
 cases H
 go_wp2
 go_ret
 exact ⟨rfl, HB.out⟩
end Go.Proofs.YtmgfklmhelabcaaGreat.QFnExactSaveDecision
