/- The machine side of FnExactSaveDecision: what each function that it reaches computes, and that the machine's call gives just that. -/
import Derived.Test.YtmgfklmhelabcaaGreatQFnExactSaveDecisionx0
import Derived.Test.YtmgfklmhelabcaaGreatQFnExactSaveDecisionx2
import Derived.Test.YtmgfklmhelabcaaGreatQFnExactSaveDecisionx3
namespace Go.Proofs.YtmgfklmhelabcaaGreat.QFnExactSaveDecision
open Go.RowKit Go.Proofs.YtmgfklmhelabcaaGreatW.PrintWords Go.Proofs.YtmgfklmhelabcaaGreatW.PrintLast Go.Proofs.YtmgfklmhelabcaaGreatW.PrintMore
attribute [local go_sem] max2_int min2_int max_two min_two max_three min_three max_four min_four
set_option maxHeartbeats 8000000
set_option maxRecDepth 100000
open Go.Proofs.YtmgfklmhelabcaaGreatM
set_option linter.unusedVariables false
set_option linter.unusedSimpArgs false
def spec_l15Node.f (a0_0 : Int) (a0_1 : Int) (a0_2 : Int) (l0_3 : List (S172)) : Option (Bool) := if a0_0 = 2 then ((spec_l1In.f a0_1 0 5).bind fun t279 => ((spec_l1In.f a0_0 2 5).bind fun t280 => (if t280 = true then ((spec_IsTime.f a0_2).bind fun t281 => (if t279 = true then (if t281 = true then ((spec_ArityOf.f a0_0).bind fun t282 => (some ((l0_3.length : Int) == t282))) else (some false)) else (some false))) else (if t279 = true then (if a0_2 = 0 then ((spec_ArityOf.f a0_0).bind fun t283 => (some ((l0_3.length : Int) == t283))) else (some false)) else (some false))))) else (if a0_0 = 4 then ((spec_l1In.f a0_1 0 3).bind fun t284 => ((spec_l1In.f a0_0 2 5).bind fun t285 => (if t285 = true then ((spec_IsTime.f a0_2).bind fun t286 => (if t284 = true then (if t286 = true then ((spec_ArityOf.f a0_0).bind fun t287 => (some ((l0_3.length : Int) == t287))) else (some false)) else (some false))) else (if t284 = true then (if a0_2 = 0 then ((spec_ArityOf.f a0_0).bind fun t288 => (some ((l0_3.length : Int) == t288))) else (some false)) else (some false))))) else (if a0_0 = 5 then ((spec_l1In.f a0_1 0 3).bind fun t289 => ((spec_l1In.f a0_0 2 5).bind fun t290 => (if t290 = true then ((spec_IsTime.f a0_2).bind fun t291 => (if t289 = true then (if t291 = true then ((spec_ArityOf.f a0_0).bind fun t292 => (some ((l0_3.length : Int) == t292))) else (some false)) else (some false))) else (if t289 = true then (if a0_2 = 0 then ((spec_ArityOf.f a0_0).bind fun t293 => (some ((l0_3.length : Int) == t293))) else (some false)) else (some false))))) else (if a0_0 = 6 then ((spec_IsTime.f a0_1).bind fun t294 => ((spec_l1In.f a0_0 2 5).bind fun t295 => (if t295 = true then ((spec_IsTime.f a0_2).bind fun t296 => (if t294 = true then (if t296 = true then ((spec_ArityOf.f a0_0).bind fun t297 => (some ((l0_3.length : Int) == t297))) else (some false)) else (some false))) else (if t294 = true then (if a0_2 = 0 then ((spec_ArityOf.f a0_0).bind fun t298 => (some ((l0_3.length : Int) == t298))) else (some false)) else (some false))))) else ((spec_l1In.f a0_0 2 5).bind fun t299 => (if t299 = true then ((spec_IsTime.f a0_2).bind fun t300 => (if a0_1 = 0 then (if t300 = true then ((spec_ArityOf.f a0_0).bind fun t301 => (some ((l0_3.length : Int) == t301))) else (some false)) else (some false))) else (if a0_1 = 0 then (if a0_2 = 0 then ((spec_ArityOf.f a0_0).bind fun t302 => (some ((l0_3.length : Int) == t302))) else (some false)) else (some false)))))))
theorem spec_l15Node.calls (a0_0 : Int) (a0_1 : Int) (a0_2 : Int) (A0_3 : Option Addr) (c0_3 : Nat) (l0_3 : List (S172)) (r : Bool) (w : World) (hr0_3 : Kd.C k172 w A0_3 l0_3.length l0_3) (hc0_3 : l0_3.length ≤ c0_3) (h : spec_l15Node.f a0_0 a0_1 a0_2 l0_3 = some r) :
  Calls Tryz.prog 384 #[.agg #[.int .i64 a0_0, .int .i64 a0_1, .int .i64 a0_2, .slice A0_3 l0_3.length c0_3]] w fun e w' => e = .returned (.bool r) ∧ Below w.heap.size w w' := by
 have HR0_3 := Aside0.mk hr0_3
 have HC0_3 := Aside0.mk hc0_3
 clear hr0_3 hc0_3
 have HB := Aside0.mk (Below.refl w.heap.size w)
 have H := h
 clear h
 unfold spec_l15Node.f at H
 have hu172 := Tryz.underlying172
 go_enter Tryz.func384, Tryz.ntmps384
 replace H := Aside0.mk H
 go_upto_region 1 with (first | ((with_reducible refine gate_dst (N := 1) rfl ?_); refine box_event ?hg (N := 1) ?hd (cs := #[.int .i64 a0_0, .int .i64 a0_1, .int .i64 a0_2, .slice A0_3 l0_3.length c0_3]) (t := 172) ?hr ?_; (case hd => rfl); (case hg => rfl); (case hr => first | (go_simp; done) | (go_simp; rfl)); intro gb1 hg W1 hbox hb; replace HB := bH HB hb; clear hb; have BK1 := Aside0.mk hbox; have c_BK1 := blk_cell hbox; have z_BK1 := blk_frozen hbox; clear hg hbox))
 replace H := ifD H.out; rcases H with ⟨c2, H⟩ | ⟨c2, H⟩
 ·obtain ⟨c2_0, c2_1, c2_2⟩ := d3T c2
  clear c2
  (first | rw [c2_1] | rw [c2_2] | skip)
  replace H := obs H
  obtain ⟨t279, hm, H⟩ := H
  (try dsimp only at H)
  replace H := Aside0.mk H
  have hcall := spec_l1In.calls _ _ _ _ W1  hm
  clear hm
  (go_wp2_with fail)
  refine hcall.mono ?_
  rintro e W3 ⟨rfl, hb⟩
  clear hcall
  replace BK1 := bK BK1 hb; replace c_BK1 := bcl BK1; replace z_BK1 := bfr BK1
  replace HB := bH HB hb; clear hb
  replace H := H.out
  replace H := obs H
  obtain ⟨t280, hm, H⟩ := H
  (try dsimp only at H)
  replace H := Aside0.mk H
  have hcall := spec_l1In.calls _ _ _ _ W3  hm
  clear hm
  (go_wp2_with fail)
  refine hcall.mono ?_
  rintro e W4 ⟨rfl, hb⟩
  clear hcall
  replace BK1 := bK BK1 hb; replace c_BK1 := bcl BK1; replace z_BK1 := bfr BK1
  replace HB := bH HB hb; clear hb
  replace H := ifD H.out; rcases H with ⟨c5, H⟩ | ⟨c5, H⟩
  rotate_left
  ·replace c5 := nT c5; subst c5; replace H := Aside0.mk H; try go_wp2
   clear c_BK1 z_BK1; have rBK1 := BK1; replace BK1 := dK BK1; have HBr := HB; replace HB := dH HB; refine stA (n := 14) (S := fun w' => Below W4.heap.size W4 w') (by kernel_rfl) rfl (below_drew1 (Below.refl _ W4)) (by kernel_rfl) (fun hHeld => ?_); generalize W4.drew = W12 at HB BK1 hHeld ⊢; replace H := ifD H.out; rcases H with ⟨c13, H⟩ | ⟨c13, H⟩; rotate_left
   ·replace c13 := nT c13; subst c13; replace H := Aside0.mk H; refine pu 0 (some 35) 1 ?_; refine pu 1 (some 36) 3 ?_; refine sk 2 (some 37) 7 ?_; refine pu 3 (some 38) 15 ?_; refine pu 4 (some 39) 31 ?_; refine sk 5 (some 40) 63 ?_; refine sk 6 (some 41) 127 ?_; refine sk 7 (some 42) 255 ?_; refine sk 8 (some 43) 511 ?_; refine sk 9 (some 44) 1023 ?_; refine sk 10 (some 45) 2047 ?_; refine sk 11 (some 46) 4095 ?_; refine pu 12 (some 47) 8191 ?_; refine pu 13 (some 2) 16383 ?_; refine dn (by kernel_rfl) ?_; clear hHeld HBr rBK1; have c_BK1 := bcl BK1; have z_BK1 := bfr BK1; replace H := H.out; cases H; go_wp2; go_ret; exact ⟨rfl, HB.out⟩
   subst c13; replace H := ifD H; rcases H with ⟨c14, H⟩ | ⟨c14, H⟩; rotate_left
   ·obtain ⟨c14_0, c14_1, c14_2⟩ := d3F c14; clear c14; (first | rw [c14_1] | rw [c14_2] | skip); replace H := Aside0.mk H; refine pu 0 (some 35) 1 ?_; refine pu 1 (some 36) 3 ?_; refine pu 2 (some 37) 7 ?_; refine pu 3 (some 38) 15 ?_; refine pu 4 (some 39) 31 ?_; refine sk 5 (some 40) 63 ?_; refine sk 6 (some 41) 127 ?_; refine sk 7 (some 42) 255 ?_; refine sk 8 (some 43) 511 ?_; refine sk 9 (some 44) 1023 ?_; refine sk 10 (some 45) 2047 ?_; refine sk 11 (some 46) 4095 ?_; refine pu 12 (some 47) 8191 ?_; refine pu 13 (some 2) 16383 ?_; refine dn (by kernel_rfl) ?_; clear hHeld HBr rBK1; have c_BK1 := bcl BK1; have z_BK1 := bfr BK1; replace H := H.out; cases H; go_wp2; go_ret; exact ⟨rfl, HB.out⟩
   obtain ⟨c14_0, c14_1, c14_2⟩ := d3T c14; clear c14; (first | rw [c14_1] | rw [c14_2] | skip); replace H := obs H; obtain ⟨t283, hm, H⟩ := H; (try dsimp only at H); replace hm := Aside0.mk hm; replace H := Aside0.mk H; refine pu 0 (some 35) 1 ?_; refine pu 1 (some 36) 3 ?_; refine pu 2 (some 37) 7 ?_; refine pu 3 (some 38) 15 ?_; refine pu 4 (some 39) 31 ?_; refine pu 5 (some 40) 63 ?_; refine pu 8 (some 43) 319 ?_; refine ld 6 (some 41) 383 hHeld ?_ (hr := by (intro w' h_; have y_ := kD rBK1 h_; go_simp; with_reducible rfl)); refine pu 7 (some 42) 511 ?_; refine ld 9 (some 44) 1023 hHeld ?_ (hr := by (intro w' h_; have y_ := kD rBK1 h_; go_simp; with_reducible rfl)); refine on 10 (some 45) 2047 (fun K hK => ?_); have hcall := spec_ArityOf.calls _ _ W12  hm.out; refine goes_ Tryz.func397 (by kernel_rfl) rfl #[.int .i64 a0_0] (by rfl) rfl rfl zM ?_; refine hcall.mono ?_; rintro e W16 ⟨rfl, hb⟩; refine ⟨_, rfl, ?_⟩; clear hcall hm; replace hHeld := below_step hHeld hb; replace BK1 := bK BK1 hb; replace HB := bH HB hb; clear hb; refine hK.out _ _ hHeld (fun hHeld => ?_); clear hK K; refine nr 45 ?_; refine pu 11 (some 46) 4095 ?_; refine pu 12 (some 47) 8191 ?_; refine pu 13 (some 2) 16383 ?_; refine dn (by kernel_rfl) ?_; clear hHeld HBr rBK1; have c_BK1 := bcl BK1; have z_BK1 := bfr BK1; replace H := H.out; cases H; go_wp2; go_ret; exact ⟨rfl, HB.out⟩
  subst c5
  replace H := obs H
  obtain ⟨t281, hm, H⟩ := H
  (try dsimp only at H)
  replace H := Aside0.mk H
  have hcall := spec_IsTime.calls _ _ W4  hm
  clear hm
  (go_wp2_with fail)
  refine hcall.mono ?_
  rintro e W6 ⟨rfl, hb⟩
  clear hcall
  replace BK1 := bK BK1 hb; replace c_BK1 := bcl BK1; replace z_BK1 := bfr BK1
  replace HB := bH HB hb; clear hb
  try go_wp2
  clear c_BK1 z_BK1; have rBK1 := BK1; replace BK1 := dK BK1
  have HBr := HB; replace HB := dH HB
  refine stA (n := 14) (S := fun w' => Below W6.heap.size W6 w') (by kernel_rfl) rfl (below_drew1 (Below.refl _ W6)) (by kernel_rfl) (fun hHeld => ?_)
  generalize W6.drew = W7 at HB BK1 hHeld ⊢
  replace H := ifD H.out; rcases H with ⟨c8, H⟩ | ⟨c8, H⟩
  rotate_left
  ·replace c8 := nT c8; subst c8; replace H := Aside0.mk H; refine pu 0 (some 35) 1 ?_; refine pu 1 (some 36) 3 ?_; refine sk 2 (some 37) 7 ?_; refine pu 3 (some 38) 15 ?_; refine pu 4 (some 39) 31 ?_; refine sk 5 (some 40) 63 ?_; refine sk 6 (some 41) 127 ?_; refine sk 7 (some 42) 255 ?_; refine sk 8 (some 43) 511 ?_; refine sk 9 (some 44) 1023 ?_; refine sk 10 (some 45) 2047 ?_; refine sk 11 (some 46) 4095 ?_; refine pu 12 (some 47) 8191 ?_; refine pu 13 (some 2) 16383 ?_; refine dn (by kernel_rfl) ?_; clear hHeld HBr rBK1; have c_BK1 := bcl BK1; have z_BK1 := bfr BK1; replace H := H.out; cases H; go_wp2; go_ret; exact ⟨rfl, HB.out⟩
  subst c8
  replace H := ifD H; rcases H with ⟨c9, H⟩ | ⟨c9, H⟩
  rotate_left
  ·replace c9 := nT c9; subst c9; replace H := Aside0.mk H; refine pu 0 (some 35) 1 ?_; refine pu 1 (some 36) 3 ?_; refine pu 2 (some 37) 7 ?_; refine pu 3 (some 38) 15 ?_; refine pu 4 (some 39) 31 ?_; refine sk 5 (some 40) 63 ?_; refine sk 6 (some 41) 127 ?_; refine sk 7 (some 42) 255 ?_; refine sk 8 (some 43) 511 ?_; refine sk 9 (some 44) 1023 ?_; refine sk 10 (some 45) 2047 ?_; refine sk 11 (some 46) 4095 ?_; refine pu 12 (some 47) 8191 ?_; refine pu 13 (some 2) 16383 ?_; refine dn (by kernel_rfl) ?_; clear hHeld HBr rBK1; have c_BK1 := bcl BK1; have z_BK1 := bfr BK1; replace H := H.out; cases H; go_wp2; go_ret; exact ⟨rfl, HB.out⟩
  subst c9
  replace H := obs H
  obtain ⟨t282, hm, H⟩ := H
  (try dsimp only at H)
  replace hm := Aside0.mk hm
  replace H := Aside0.mk H
  refine pu 0 (some 35) 1 ?_; refine pu 1 (some 36) 3 ?_; refine pu 2 (some 37) 7 ?_; refine pu 3 (some 38) 15 ?_; refine pu 4 (some 39) 31 ?_; refine pu 5 (some 40) 63 ?_; refine pu 8 (some 43) 319 ?_; refine ld 6 (some 41) 383 hHeld ?_ (hr := by (intro w' h_; have y_ := kD rBK1 h_; go_simp; with_reducible rfl)); refine pu 7 (some 42) 511 ?_; refine ld 9 (some 44) 1023 hHeld ?_ (hr := by (intro w' h_; have y_ := kD rBK1 h_; go_simp; with_reducible rfl))
  refine on 10 (some 45) 2047 (fun K hK => ?_)
  have hcall := spec_ArityOf.calls _ _ W7  hm.out
  refine goes_ Tryz.func397 (by kernel_rfl) rfl #[.int .i64 a0_0] (by rfl) rfl rfl zM ?_
  refine hcall.mono ?_
  rintro e W11 ⟨rfl, hb⟩
  refine ⟨_, rfl, ?_⟩
  clear hcall hm
  replace hHeld := below_step hHeld hb
  replace BK1 := bK BK1 hb
  replace HB := bH HB hb; clear hb
  refine hK.out _ _ hHeld (fun hHeld => ?_)
  clear hK K
  refine nr 45 ?_
  refine pu 11 (some 46) 4095 ?_; refine pu 12 (some 47) 8191 ?_; refine pu 13 (some 2) 16383 ?_
  refine dn (by kernel_rfl) ?_
  clear hHeld HBr rBK1
  have c_BK1 := bcl BK1; have z_BK1 := bfr BK1
  replace H := H.out
  cases H
  go_wp2
  go_ret
  exact ⟨rfl, HB.out⟩
 obtain ⟨c2_0, c2_1, c2_2⟩ := d3F c2
 clear c2
 (first | rw [c2_1] | rw [c2_2] | skip)
 replace H := ifD H; rcases H with ⟨c17, H⟩ | ⟨c17, H⟩
 ·obtain ⟨c17_0, c17_1, c17_2⟩ := d3T c17
  clear c17
  (first | rw [c17_1] | rw [c17_2] | skip)
  replace H := obs H
  obtain ⟨t284, hm, H⟩ := H
  (try dsimp only at H)
  replace H := Aside0.mk H
  have hcall := spec_l1In.calls _ _ _ _ W1  hm
  clear hm
  (go_wp2_with fail)
  refine hcall.mono ?_
  rintro e W18 ⟨rfl, hb⟩
  clear hcall
  replace BK1 := bK BK1 hb; replace c_BK1 := bcl BK1; replace z_BK1 := bfr BK1
  replace HB := bH HB hb; clear hb
  replace H := H.out
  replace H := obs H
  obtain ⟨t285, hm, H⟩ := H
  (try dsimp only at H)
  replace H := Aside0.mk H
  have hcall := spec_l1In.calls _ _ _ _ W18  hm
  clear hm
  (go_wp2_with fail)
  refine hcall.mono ?_
  rintro e W19 ⟨rfl, hb⟩
  clear hcall
  replace BK1 := bK BK1 hb; replace c_BK1 := bcl BK1; replace z_BK1 := bfr BK1
  replace HB := bH HB hb; clear hb
  replace H := ifD H.out; rcases H with ⟨c20, H⟩ | ⟨c20, H⟩
  rotate_left
  ·replace c20 := nT c20; subst c20; replace H := Aside0.mk H; try go_wp2
   clear c_BK1 z_BK1; have rBK1 := BK1; replace BK1 := dK BK1; have HBr := HB; replace HB := dH HB; refine stA (n := 14) (S := fun w' => Below W19.heap.size W19 w') (by kernel_rfl) rfl (below_drew1 (Below.refl _ W19)) (by kernel_rfl) (fun hHeld => ?_); generalize W19.drew = W27 at HB BK1 hHeld ⊢; replace H := ifD H.out; rcases H with ⟨c28, H⟩ | ⟨c28, H⟩; rotate_left
   ·replace c28 := nT c28; subst c28; replace H := Aside0.mk H; refine pu 0 (some 35) 1 ?_; refine pu 1 (some 36) 3 ?_; refine sk 2 (some 37) 7 ?_; refine pu 3 (some 38) 15 ?_; refine pu 4 (some 39) 31 ?_; refine sk 5 (some 40) 63 ?_; refine sk 6 (some 41) 127 ?_; refine sk 7 (some 42) 255 ?_; refine sk 8 (some 43) 511 ?_; refine sk 9 (some 44) 1023 ?_; refine sk 10 (some 45) 2047 ?_; refine sk 11 (some 46) 4095 ?_; refine pu 12 (some 47) 8191 ?_; refine pu 13 (some 2) 16383 ?_; refine dn (by kernel_rfl) ?_; clear hHeld HBr rBK1; have c_BK1 := bcl BK1; have z_BK1 := bfr BK1; replace H := H.out; cases H; go_wp2; go_ret; exact ⟨rfl, HB.out⟩
   subst c28; replace H := ifD H; rcases H with ⟨c29, H⟩ | ⟨c29, H⟩; rotate_left
   ·obtain ⟨c29_0, c29_1, c29_2⟩ := d3F c29; clear c29; (first | rw [c29_1] | rw [c29_2] | skip); replace H := Aside0.mk H; refine pu 0 (some 35) 1 ?_; refine pu 1 (some 36) 3 ?_; refine pu 2 (some 37) 7 ?_; refine pu 3 (some 38) 15 ?_; refine pu 4 (some 39) 31 ?_; refine sk 5 (some 40) 63 ?_; refine sk 6 (some 41) 127 ?_; refine sk 7 (some 42) 255 ?_; refine sk 8 (some 43) 511 ?_; refine sk 9 (some 44) 1023 ?_; refine sk 10 (some 45) 2047 ?_; refine sk 11 (some 46) 4095 ?_; refine pu 12 (some 47) 8191 ?_; refine pu 13 (some 2) 16383 ?_; refine dn (by kernel_rfl) ?_; clear hHeld HBr rBK1; have c_BK1 := bcl BK1; have z_BK1 := bfr BK1; replace H := H.out; cases H; go_wp2; go_ret; exact ⟨rfl, HB.out⟩
   obtain ⟨c29_0, c29_1, c29_2⟩ := d3T c29; clear c29; (first | rw [c29_1] | rw [c29_2] | skip); replace H := obs H; obtain ⟨t288, hm, H⟩ := H; (try dsimp only at H); replace hm := Aside0.mk hm; replace H := Aside0.mk H; refine pu 0 (some 35) 1 ?_; refine pu 1 (some 36) 3 ?_; refine pu 2 (some 37) 7 ?_; refine pu 3 (some 38) 15 ?_; refine pu 4 (some 39) 31 ?_; refine pu 5 (some 40) 63 ?_; refine pu 8 (some 43) 319 ?_; refine ld 6 (some 41) 383 hHeld ?_ (hr := by (intro w' h_; have y_ := kD rBK1 h_; go_simp; with_reducible rfl)); refine pu 7 (some 42) 511 ?_; refine ld 9 (some 44) 1023 hHeld ?_ (hr := by (intro w' h_; have y_ := kD rBK1 h_; go_simp; with_reducible rfl)); refine on 10 (some 45) 2047 (fun K hK => ?_); have hcall := spec_ArityOf.calls _ _ W27  hm.out; refine goes_ Tryz.func397 (by kernel_rfl) rfl #[.int .i64 a0_0] (by rfl) rfl rfl zM ?_; refine hcall.mono ?_; rintro e W31 ⟨rfl, hb⟩; refine ⟨_, rfl, ?_⟩; clear hcall hm; replace hHeld := below_step hHeld hb; replace BK1 := bK BK1 hb; replace HB := bH HB hb; clear hb; refine hK.out _ _ hHeld (fun hHeld => ?_); clear hK K; refine nr 45 ?_; refine pu 11 (some 46) 4095 ?_; refine pu 12 (some 47) 8191 ?_; refine pu 13 (some 2) 16383 ?_; refine dn (by kernel_rfl) ?_; clear hHeld HBr rBK1; have c_BK1 := bcl BK1; have z_BK1 := bfr BK1; replace H := H.out; cases H; go_wp2; go_ret; exact ⟨rfl, HB.out⟩
  subst c20
  replace H := obs H
  obtain ⟨t286, hm, H⟩ := H
  (try dsimp only at H)
  replace H := Aside0.mk H
  have hcall := spec_IsTime.calls _ _ W19  hm
  clear hm
  (go_wp2_with fail)
  refine hcall.mono ?_
  rintro e W21 ⟨rfl, hb⟩
  clear hcall
  replace BK1 := bK BK1 hb; replace c_BK1 := bcl BK1; replace z_BK1 := bfr BK1
  replace HB := bH HB hb; clear hb
  try go_wp2
  clear c_BK1 z_BK1; have rBK1 := BK1; replace BK1 := dK BK1
  have HBr := HB; replace HB := dH HB
  refine stA (n := 14) (S := fun w' => Below W21.heap.size W21 w') (by kernel_rfl) rfl (below_drew1 (Below.refl _ W21)) (by kernel_rfl) (fun hHeld => ?_)
  generalize W21.drew = W22 at HB BK1 hHeld ⊢
  replace H := ifD H.out; rcases H with ⟨c23, H⟩ | ⟨c23, H⟩
  rotate_left
  ·replace c23 := nT c23; subst c23; replace H := Aside0.mk H; refine pu 0 (some 35) 1 ?_; refine pu 1 (some 36) 3 ?_; refine sk 2 (some 37) 7 ?_; refine pu 3 (some 38) 15 ?_; refine pu 4 (some 39) 31 ?_; refine sk 5 (some 40) 63 ?_; refine sk 6 (some 41) 127 ?_; refine sk 7 (some 42) 255 ?_; refine sk 8 (some 43) 511 ?_; refine sk 9 (some 44) 1023 ?_; refine sk 10 (some 45) 2047 ?_; refine sk 11 (some 46) 4095 ?_; refine pu 12 (some 47) 8191 ?_; refine pu 13 (some 2) 16383 ?_; refine dn (by kernel_rfl) ?_; clear hHeld HBr rBK1; have c_BK1 := bcl BK1; have z_BK1 := bfr BK1; replace H := H.out; cases H; go_wp2; go_ret; exact ⟨rfl, HB.out⟩
  subst c23
  replace H := ifD H; rcases H with ⟨c24, H⟩ | ⟨c24, H⟩
  rotate_left
  ·replace c24 := nT c24; subst c24; replace H := Aside0.mk H; refine pu 0 (some 35) 1 ?_; refine pu 1 (some 36) 3 ?_; refine pu 2 (some 37) 7 ?_; refine pu 3 (some 38) 15 ?_; refine pu 4 (some 39) 31 ?_; refine sk 5 (some 40) 63 ?_; refine sk 6 (some 41) 127 ?_; refine sk 7 (some 42) 255 ?_; refine sk 8 (some 43) 511 ?_; refine sk 9 (some 44) 1023 ?_; refine sk 10 (some 45) 2047 ?_; refine sk 11 (some 46) 4095 ?_; refine pu 12 (some 47) 8191 ?_; refine pu 13 (some 2) 16383 ?_; refine dn (by kernel_rfl) ?_; clear hHeld HBr rBK1; have c_BK1 := bcl BK1; have z_BK1 := bfr BK1; replace H := H.out; cases H; go_wp2; go_ret; exact ⟨rfl, HB.out⟩
  subst c24
  replace H := obs H
  obtain ⟨t287, hm, H⟩ := H
  (try dsimp only at H)
  replace hm := Aside0.mk hm
  replace H := Aside0.mk H
  refine pu 0 (some 35) 1 ?_; refine pu 1 (some 36) 3 ?_; refine pu 2 (some 37) 7 ?_; refine pu 3 (some 38) 15 ?_; refine pu 4 (some 39) 31 ?_; refine pu 5 (some 40) 63 ?_; refine pu 8 (some 43) 319 ?_; refine ld 6 (some 41) 383 hHeld ?_ (hr := by (intro w' h_; have y_ := kD rBK1 h_; go_simp; with_reducible rfl)); refine pu 7 (some 42) 511 ?_; refine ld 9 (some 44) 1023 hHeld ?_ (hr := by (intro w' h_; have y_ := kD rBK1 h_; go_simp; with_reducible rfl))
  refine on 10 (some 45) 2047 (fun K hK => ?_)
  have hcall := spec_ArityOf.calls _ _ W22  hm.out
  refine goes_ Tryz.func397 (by kernel_rfl) rfl #[.int .i64 a0_0] (by rfl) rfl rfl zM ?_
  refine hcall.mono ?_
  rintro e W26 ⟨rfl, hb⟩
  refine ⟨_, rfl, ?_⟩
  clear hcall hm
  replace hHeld := below_step hHeld hb
  replace BK1 := bK BK1 hb
  replace HB := bH HB hb; clear hb
  refine hK.out _ _ hHeld (fun hHeld => ?_)
  clear hK K
  refine nr 45 ?_
  refine pu 11 (some 46) 4095 ?_; refine pu 12 (some 47) 8191 ?_; refine pu 13 (some 2) 16383 ?_
  refine dn (by kernel_rfl) ?_
  clear hHeld HBr rBK1
  have c_BK1 := bcl BK1; have z_BK1 := bfr BK1
  replace H := H.out
  cases H
  go_wp2
  go_ret
  exact ⟨rfl, HB.out⟩
 obtain ⟨c17_0, c17_1, c17_2⟩ := d3F c17
 clear c17
 (first | rw [c17_1] | rw [c17_2] | skip)
 replace H := ifD H; rcases H with ⟨c32, H⟩ | ⟨c32, H⟩
 ·obtain ⟨c32_0, c32_1, c32_2⟩ := d3T c32
  clear c32
  (first | rw [c32_1] | rw [c32_2] | skip)
  replace H := obs H
  obtain ⟨t289, hm, H⟩ := H
  (try dsimp only at H)
  replace H := Aside0.mk H
  have hcall := spec_l1In.calls _ _ _ _ W1  hm
  clear hm
  (go_wp2_with fail)
  refine hcall.mono ?_
  rintro e W33 ⟨rfl, hb⟩
  clear hcall
  replace BK1 := bK BK1 hb; replace c_BK1 := bcl BK1; replace z_BK1 := bfr BK1
  replace HB := bH HB hb; clear hb
  replace H := H.out
  replace H := obs H
  obtain ⟨t290, hm, H⟩ := H
  (try dsimp only at H)
  replace H := Aside0.mk H
  have hcall := spec_l1In.calls _ _ _ _ W33  hm
  clear hm
  (go_wp2_with fail)
  refine hcall.mono ?_
  rintro e W34 ⟨rfl, hb⟩
  clear hcall
  replace BK1 := bK BK1 hb; replace c_BK1 := bcl BK1; replace z_BK1 := bfr BK1
  replace HB := bH HB hb; clear hb
  replace H := ifD H.out; rcases H with ⟨c35, H⟩ | ⟨c35, H⟩
  rotate_left
  ·replace c35 := nT c35; subst c35; replace H := Aside0.mk H; try go_wp2
   clear c_BK1 z_BK1; have rBK1 := BK1; replace BK1 := dK BK1; have HBr := HB; replace HB := dH HB; refine stA (n := 14) (S := fun w' => Below W34.heap.size W34 w') (by kernel_rfl) rfl (below_drew1 (Below.refl _ W34)) (by kernel_rfl) (fun hHeld => ?_); generalize W34.drew = W42 at HB BK1 hHeld ⊢; replace H := ifD H.out; rcases H with ⟨c43, H⟩ | ⟨c43, H⟩; rotate_left
   ·replace c43 := nT c43; subst c43; replace H := Aside0.mk H; refine pu 0 (some 35) 1 ?_; refine pu 1 (some 36) 3 ?_; refine sk 2 (some 37) 7 ?_; refine pu 3 (some 38) 15 ?_; refine pu 4 (some 39) 31 ?_; refine sk 5 (some 40) 63 ?_; refine sk 6 (some 41) 127 ?_; refine sk 7 (some 42) 255 ?_; refine sk 8 (some 43) 511 ?_; refine sk 9 (some 44) 1023 ?_; refine sk 10 (some 45) 2047 ?_; refine sk 11 (some 46) 4095 ?_; refine pu 12 (some 47) 8191 ?_; refine pu 13 (some 2) 16383 ?_; refine dn (by kernel_rfl) ?_; clear hHeld HBr rBK1; have c_BK1 := bcl BK1; have z_BK1 := bfr BK1; replace H := H.out; cases H; go_wp2; go_ret; exact ⟨rfl, HB.out⟩
   subst c43; replace H := ifD H; rcases H with ⟨c44, H⟩ | ⟨c44, H⟩; rotate_left
   ·obtain ⟨c44_0, c44_1, c44_2⟩ := d3F c44; clear c44; (first | rw [c44_1] | rw [c44_2] | skip); replace H := Aside0.mk H; refine pu 0 (some 35) 1 ?_; refine pu 1 (some 36) 3 ?_; refine pu 2 (some 37) 7 ?_; refine pu 3 (some 38) 15 ?_; refine pu 4 (some 39) 31 ?_; refine sk 5 (some 40) 63 ?_; refine sk 6 (some 41) 127 ?_; refine sk 7 (some 42) 255 ?_; refine sk 8 (some 43) 511 ?_; refine sk 9 (some 44) 1023 ?_; refine sk 10 (some 45) 2047 ?_; refine sk 11 (some 46) 4095 ?_; refine pu 12 (some 47) 8191 ?_; refine pu 13 (some 2) 16383 ?_; refine dn (by kernel_rfl) ?_; clear hHeld HBr rBK1; have c_BK1 := bcl BK1; have z_BK1 := bfr BK1; replace H := H.out; cases H; go_wp2; go_ret; exact ⟨rfl, HB.out⟩
   obtain ⟨c44_0, c44_1, c44_2⟩ := d3T c44; clear c44; (first | rw [c44_1] | rw [c44_2] | skip); replace H := obs H; obtain ⟨t293, hm, H⟩ := H; (try dsimp only at H); replace hm := Aside0.mk hm; replace H := Aside0.mk H; refine pu 0 (some 35) 1 ?_; refine pu 1 (some 36) 3 ?_; refine pu 2 (some 37) 7 ?_; refine pu 3 (some 38) 15 ?_; refine pu 4 (some 39) 31 ?_; refine pu 5 (some 40) 63 ?_; refine pu 8 (some 43) 319 ?_; refine ld 6 (some 41) 383 hHeld ?_ (hr := by (intro w' h_; have y_ := kD rBK1 h_; go_simp; with_reducible rfl)); refine pu 7 (some 42) 511 ?_; refine ld 9 (some 44) 1023 hHeld ?_ (hr := by (intro w' h_; have y_ := kD rBK1 h_; go_simp; with_reducible rfl)); refine on 10 (some 45) 2047 (fun K hK => ?_); have hcall := spec_ArityOf.calls _ _ W42  hm.out; refine goes_ Tryz.func397 (by kernel_rfl) rfl #[.int .i64 a0_0] (by rfl) rfl rfl zM ?_; refine hcall.mono ?_; rintro e W46 ⟨rfl, hb⟩; refine ⟨_, rfl, ?_⟩; clear hcall hm; replace hHeld := below_step hHeld hb; replace BK1 := bK BK1 hb; replace HB := bH HB hb; clear hb; refine hK.out _ _ hHeld (fun hHeld => ?_); clear hK K; refine nr 45 ?_; refine pu 11 (some 46) 4095 ?_; refine pu 12 (some 47) 8191 ?_; refine pu 13 (some 2) 16383 ?_; refine dn (by kernel_rfl) ?_; clear hHeld HBr rBK1; have c_BK1 := bcl BK1; have z_BK1 := bfr BK1; replace H := H.out; cases H; go_wp2; go_ret; exact ⟨rfl, HB.out⟩
  subst c35
  replace H := obs H
  obtain ⟨t291, hm, H⟩ := H
  (try dsimp only at H)
  replace H := Aside0.mk H
  have hcall := spec_IsTime.calls _ _ W34  hm
  clear hm
  (go_wp2_with fail)
  refine hcall.mono ?_
  rintro e W36 ⟨rfl, hb⟩
  clear hcall
  replace BK1 := bK BK1 hb; replace c_BK1 := bcl BK1; replace z_BK1 := bfr BK1
  replace HB := bH HB hb; clear hb
  try go_wp2
  clear c_BK1 z_BK1; have rBK1 := BK1; replace BK1 := dK BK1
  have HBr := HB; replace HB := dH HB
  refine stA (n := 14) (S := fun w' => Below W36.heap.size W36 w') (by kernel_rfl) rfl (below_drew1 (Below.refl _ W36)) (by kernel_rfl) (fun hHeld => ?_)
  generalize W36.drew = W37 at HB BK1 hHeld ⊢
  replace H := ifD H.out; rcases H with ⟨c38, H⟩ | ⟨c38, H⟩
  rotate_left
  ·replace c38 := nT c38; subst c38; replace H := Aside0.mk H; refine pu 0 (some 35) 1 ?_; refine pu 1 (some 36) 3 ?_; refine sk 2 (some 37) 7 ?_; refine pu 3 (some 38) 15 ?_; refine pu 4 (some 39) 31 ?_; refine sk 5 (some 40) 63 ?_; refine sk 6 (some 41) 127 ?_; refine sk 7 (some 42) 255 ?_; refine sk 8 (some 43) 511 ?_; refine sk 9 (some 44) 1023 ?_; refine sk 10 (some 45) 2047 ?_; refine sk 11 (some 46) 4095 ?_; refine pu 12 (some 47) 8191 ?_; refine pu 13 (some 2) 16383 ?_; refine dn (by kernel_rfl) ?_; clear hHeld HBr rBK1; have c_BK1 := bcl BK1; have z_BK1 := bfr BK1; replace H := H.out; cases H; go_wp2; go_ret; exact ⟨rfl, HB.out⟩
  subst c38
  replace H := ifD H; rcases H with ⟨c39, H⟩ | ⟨c39, H⟩
  rotate_left
  ·replace c39 := nT c39; subst c39; replace H := Aside0.mk H; refine pu 0 (some 35) 1 ?_; refine pu 1 (some 36) 3 ?_; refine pu 2 (some 37) 7 ?_; refine pu 3 (some 38) 15 ?_; refine pu 4 (some 39) 31 ?_; refine sk 5 (some 40) 63 ?_; refine sk 6 (some 41) 127 ?_; refine sk 7 (some 42) 255 ?_; refine sk 8 (some 43) 511 ?_; refine sk 9 (some 44) 1023 ?_; refine sk 10 (some 45) 2047 ?_; refine sk 11 (some 46) 4095 ?_; refine pu 12 (some 47) 8191 ?_; refine pu 13 (some 2) 16383 ?_; refine dn (by kernel_rfl) ?_; clear hHeld HBr rBK1; have c_BK1 := bcl BK1; have z_BK1 := bfr BK1; replace H := H.out; cases H; go_wp2; go_ret; exact ⟨rfl, HB.out⟩
  subst c39
  replace H := obs H
  obtain ⟨t292, hm, H⟩ := H
  (try dsimp only at H)
  replace hm := Aside0.mk hm
  replace H := Aside0.mk H
  refine pu 0 (some 35) 1 ?_; refine pu 1 (some 36) 3 ?_; refine pu 2 (some 37) 7 ?_; refine pu 3 (some 38) 15 ?_; refine pu 4 (some 39) 31 ?_; refine pu 5 (some 40) 63 ?_; refine pu 8 (some 43) 319 ?_; refine ld 6 (some 41) 383 hHeld ?_ (hr := by (intro w' h_; have y_ := kD rBK1 h_; go_simp; with_reducible rfl)); refine pu 7 (some 42) 511 ?_; refine ld 9 (some 44) 1023 hHeld ?_ (hr := by (intro w' h_; have y_ := kD rBK1 h_; go_simp; with_reducible rfl))
  refine on 10 (some 45) 2047 (fun K hK => ?_)
  have hcall := spec_ArityOf.calls _ _ W37  hm.out
  refine goes_ Tryz.func397 (by kernel_rfl) rfl #[.int .i64 a0_0] (by rfl) rfl rfl zM ?_
  refine hcall.mono ?_
  rintro e W41 ⟨rfl, hb⟩
  refine ⟨_, rfl, ?_⟩
  clear hcall hm
  replace hHeld := below_step hHeld hb
  replace BK1 := bK BK1 hb
  replace HB := bH HB hb; clear hb
  refine hK.out _ _ hHeld (fun hHeld => ?_)
  clear hK K
  refine nr 45 ?_
  refine pu 11 (some 46) 4095 ?_; refine pu 12 (some 47) 8191 ?_; refine pu 13 (some 2) 16383 ?_
  refine dn (by kernel_rfl) ?_
  clear hHeld HBr rBK1
  have c_BK1 := bcl BK1; have z_BK1 := bfr BK1
  replace H := H.out
  cases H
  go_wp2
  go_ret
  exact ⟨rfl, HB.out⟩
 obtain ⟨c32_0, c32_1, c32_2⟩ := d3F c32
 clear c32
 (first | rw [c32_1] | rw [c32_2] | skip)
 replace H := ifD H; rcases H with ⟨c47, H⟩ | ⟨c47, H⟩
 rotate_left
 ·obtain ⟨c47_0, c47_1, c47_2⟩ := d3F c47
  clear c47
  (first | rw [c47_1] | rw [c47_2] | skip)
  replace H := obs H
  obtain ⟨t299, hm, H⟩ := H
  (try dsimp only at H)
  replace H := Aside0.mk H
  have hcall := spec_l1In.calls _ _ _ _ W1  hm
  clear hm
  (go_wp2_with fail)
  refine hcall.mono ?_
  rintro e W62 ⟨rfl, hb⟩
  clear hcall
  replace BK1 := bK BK1 hb; replace c_BK1 := bcl BK1; replace z_BK1 := bfr BK1
  replace HB := bH HB hb; clear hb
  replace H := ifD H.out; rcases H with ⟨c63, H⟩ | ⟨c63, H⟩
  rotate_left
  ·replace c63 := nT c63; subst c63; replace H := Aside0.mk H; try go_wp2
   clear c_BK1 z_BK1; have rBK1 := BK1; replace BK1 := dK BK1; have HBr := HB; replace HB := dH HB; refine stA (n := 14) (S := fun w' => Below W62.heap.size W62 w') (by kernel_rfl) rfl (below_drew1 (Below.refl _ W62)) (by kernel_rfl) (fun hHeld => ?_); generalize W62.drew = W70 at HB BK1 hHeld ⊢; replace H := ifD H.out; rcases H with ⟨c71, H⟩ | ⟨c71, H⟩; rotate_left
   ·obtain ⟨c71_0, c71_1, c71_2⟩ := d3F c71; clear c71; (first | rw [c71_1] | rw [c71_2] | skip); replace H := Aside0.mk H; refine pu 0 (some 35) 1 ?_; refine pu 1 (some 36) 3 ?_; refine sk 2 (some 37) 7 ?_; refine pu 3 (some 38) 15 ?_; refine pu 4 (some 39) 31 ?_; refine sk 5 (some 40) 63 ?_; refine sk 6 (some 41) 127 ?_; refine sk 7 (some 42) 255 ?_; refine sk 8 (some 43) 511 ?_; refine sk 9 (some 44) 1023 ?_; refine sk 10 (some 45) 2047 ?_; refine sk 11 (some 46) 4095 ?_; refine pu 12 (some 47) 8191 ?_; refine pu 13 (some 2) 16383 ?_; refine dn (by kernel_rfl) ?_; clear hHeld HBr rBK1; have c_BK1 := bcl BK1; have z_BK1 := bfr BK1; replace H := H.out; cases H; go_wp2; go_ret; exact ⟨rfl, HB.out⟩
   obtain ⟨c71_0, c71_1, c71_2⟩ := d3T c71; clear c71; (first | rw [c71_1] | rw [c71_2] | skip); replace H := ifD H; rcases H with ⟨c72, H⟩ | ⟨c72, H⟩; rotate_left
   ·obtain ⟨c72_0, c72_1, c72_2⟩ := d3F c72; clear c72; (first | rw [c72_1] | rw [c72_2] | skip); replace H := Aside0.mk H; refine pu 0 (some 35) 1 ?_; refine pu 1 (some 36) 3 ?_; refine pu 2 (some 37) 7 ?_; refine pu 3 (some 38) 15 ?_; refine pu 4 (some 39) 31 ?_; refine sk 5 (some 40) 63 ?_; refine sk 6 (some 41) 127 ?_; refine sk 7 (some 42) 255 ?_; refine sk 8 (some 43) 511 ?_; refine sk 9 (some 44) 1023 ?_; refine sk 10 (some 45) 2047 ?_; refine sk 11 (some 46) 4095 ?_; refine pu 12 (some 47) 8191 ?_; refine pu 13 (some 2) 16383 ?_; refine dn (by kernel_rfl) ?_; clear hHeld HBr rBK1; have c_BK1 := bcl BK1; have z_BK1 := bfr BK1; replace H := H.out; cases H; go_wp2; go_ret; exact ⟨rfl, HB.out⟩
   obtain ⟨c72_0, c72_1, c72_2⟩ := d3T c72; clear c72; (first | rw [c72_1] | rw [c72_2] | skip); replace H := obs H; obtain ⟨t302, hm, H⟩ := H; (try dsimp only at H); replace hm := Aside0.mk hm; replace H := Aside0.mk H; refine pu 0 (some 35) 1 ?_; refine pu 1 (some 36) 3 ?_; refine pu 2 (some 37) 7 ?_; refine pu 3 (some 38) 15 ?_; refine pu 4 (some 39) 31 ?_; refine pu 5 (some 40) 63 ?_; refine pu 8 (some 43) 319 ?_; refine ld 6 (some 41) 383 hHeld ?_ (hr := by (intro w' h_; have y_ := kD rBK1 h_; go_simp; with_reducible rfl)); refine pu 7 (some 42) 511 ?_; refine ld 9 (some 44) 1023 hHeld ?_ (hr := by (intro w' h_; have y_ := kD rBK1 h_; go_simp; with_reducible rfl)); refine on 10 (some 45) 2047 (fun K hK => ?_); have hcall := spec_ArityOf.calls _ _ W70  hm.out; refine goes_ Tryz.func397 (by kernel_rfl) rfl #[.int .i64 a0_0] (by rfl) rfl rfl zM ?_; refine hcall.mono ?_; rintro e W74 ⟨rfl, hb⟩; refine ⟨_, rfl, ?_⟩; clear hcall hm; replace hHeld := below_step hHeld hb; replace BK1 := bK BK1 hb; replace HB := bH HB hb; clear hb; refine hK.out _ _ hHeld (fun hHeld => ?_); clear hK K; refine nr 45 ?_; refine pu 11 (some 46) 4095 ?_; refine pu 12 (some 47) 8191 ?_; refine pu 13 (some 2) 16383 ?_; refine dn (by kernel_rfl) ?_; clear hHeld HBr rBK1; have c_BK1 := bcl BK1; have z_BK1 := bfr BK1; replace H := H.out; cases H; go_wp2; go_ret; exact ⟨rfl, HB.out⟩
  subst c63
  replace H := obs H
  obtain ⟨t300, hm, H⟩ := H
  (try dsimp only at H)
  replace H := Aside0.mk H
  have hcall := spec_IsTime.calls _ _ W62  hm
  clear hm
  (go_wp2_with fail)
  refine hcall.mono ?_
  rintro e W64 ⟨rfl, hb⟩
  clear hcall
  replace BK1 := bK BK1 hb; replace c_BK1 := bcl BK1; replace z_BK1 := bfr BK1
  replace HB := bH HB hb; clear hb
  try go_wp2
  clear c_BK1 z_BK1; have rBK1 := BK1; replace BK1 := dK BK1
  have HBr := HB; replace HB := dH HB
  refine stA (n := 14) (S := fun w' => Below W64.heap.size W64 w') (by kernel_rfl) rfl (below_drew1 (Below.refl _ W64)) (by kernel_rfl) (fun hHeld => ?_)
  generalize W64.drew = W65 at HB BK1 hHeld ⊢
  replace H := ifD H.out; rcases H with ⟨c66, H⟩ | ⟨c66, H⟩
  rotate_left
  ·obtain ⟨c66_0, c66_1, c66_2⟩ := d3F c66; clear c66; (first | rw [c66_1] | rw [c66_2] | skip); replace H := Aside0.mk H; refine pu 0 (some 35) 1 ?_; refine pu 1 (some 36) 3 ?_; refine sk 2 (some 37) 7 ?_; refine pu 3 (some 38) 15 ?_; refine pu 4 (some 39) 31 ?_; refine sk 5 (some 40) 63 ?_; refine sk 6 (some 41) 127 ?_; refine sk 7 (some 42) 255 ?_; refine sk 8 (some 43) 511 ?_; refine sk 9 (some 44) 1023 ?_; refine sk 10 (some 45) 2047 ?_; refine sk 11 (some 46) 4095 ?_; refine pu 12 (some 47) 8191 ?_; refine pu 13 (some 2) 16383 ?_; refine dn (by kernel_rfl) ?_; clear hHeld HBr rBK1; have c_BK1 := bcl BK1; have z_BK1 := bfr BK1; replace H := H.out; cases H; go_wp2; go_ret; exact ⟨rfl, HB.out⟩
  obtain ⟨c66_0, c66_1, c66_2⟩ := d3T c66
  clear c66
  (first | rw [c66_1] | rw [c66_2] | skip)
  replace H := ifD H; rcases H with ⟨c67, H⟩ | ⟨c67, H⟩
  rotate_left
  ·replace c67 := nT c67; subst c67; replace H := Aside0.mk H; refine pu 0 (some 35) 1 ?_; refine pu 1 (some 36) 3 ?_; refine pu 2 (some 37) 7 ?_; refine pu 3 (some 38) 15 ?_; refine pu 4 (some 39) 31 ?_; refine sk 5 (some 40) 63 ?_; refine sk 6 (some 41) 127 ?_; refine sk 7 (some 42) 255 ?_; refine sk 8 (some 43) 511 ?_; refine sk 9 (some 44) 1023 ?_; refine sk 10 (some 45) 2047 ?_; refine sk 11 (some 46) 4095 ?_; refine pu 12 (some 47) 8191 ?_; refine pu 13 (some 2) 16383 ?_; refine dn (by kernel_rfl) ?_; clear hHeld HBr rBK1; have c_BK1 := bcl BK1; have z_BK1 := bfr BK1; replace H := H.out; cases H; go_wp2; go_ret; exact ⟨rfl, HB.out⟩
  subst c67
  replace H := obs H
  obtain ⟨t301, hm, H⟩ := H
  (try dsimp only at H)
  replace hm := Aside0.mk hm
  replace H := Aside0.mk H
  refine pu 0 (some 35) 1 ?_; refine pu 1 (some 36) 3 ?_; refine pu 2 (some 37) 7 ?_; refine pu 3 (some 38) 15 ?_; refine pu 4 (some 39) 31 ?_; refine pu 5 (some 40) 63 ?_; refine pu 8 (some 43) 319 ?_; refine ld 6 (some 41) 383 hHeld ?_ (hr := by (intro w' h_; have y_ := kD rBK1 h_; go_simp; with_reducible rfl)); refine pu 7 (some 42) 511 ?_; refine ld 9 (some 44) 1023 hHeld ?_ (hr := by (intro w' h_; have y_ := kD rBK1 h_; go_simp; with_reducible rfl))
  refine on 10 (some 45) 2047 (fun K hK => ?_)
  have hcall := spec_ArityOf.calls _ _ W65  hm.out
  refine goes_ Tryz.func397 (by kernel_rfl) rfl #[.int .i64 a0_0] (by rfl) rfl rfl zM ?_
  refine hcall.mono ?_
  rintro e W69 ⟨rfl, hb⟩
  refine ⟨_, rfl, ?_⟩
  clear hcall hm
  replace hHeld := below_step hHeld hb
  replace BK1 := bK BK1 hb
  replace HB := bH HB hb; clear hb
  refine hK.out _ _ hHeld (fun hHeld => ?_)
  clear hK K
  refine nr 45 ?_
  refine pu 11 (some 46) 4095 ?_; refine pu 12 (some 47) 8191 ?_; refine pu 13 (some 2) 16383 ?_
  refine dn (by kernel_rfl) ?_
  clear hHeld HBr rBK1
  have c_BK1 := bcl BK1; have z_BK1 := bfr BK1
  replace H := H.out
  cases H
  go_wp2
  go_ret
  exact ⟨rfl, HB.out⟩
 obtain ⟨c47_0, c47_1, c47_2⟩ := d3T c47
 clear c47
 (first | rw [c47_1] | rw [c47_2] | skip)
 replace H := obs H
 obtain ⟨t294, hm, H⟩ := H
 (try dsimp only at H)
 replace H := Aside0.mk H
 have hcall := spec_IsTime.calls _ _ W1  hm
 clear hm
 (go_wp2_with fail)
 refine hcall.mono ?_
 rintro e W48 ⟨rfl, hb⟩
 clear hcall
 replace BK1 := bK BK1 hb; replace c_BK1 := bcl BK1; replace z_BK1 := bfr BK1
 replace HB := bH HB hb; clear hb
 replace H := H.out
 replace H := obs H
 obtain ⟨t295, hm, H⟩ := H
 (try dsimp only at H)
 replace H := Aside0.mk H
 have hcall := spec_l1In.calls _ _ _ _ W48  hm
 clear hm
 (go_wp2_with fail)
 refine hcall.mono ?_
 rintro e W49 ⟨rfl, hb⟩
 clear hcall
 replace BK1 := bK BK1 hb; replace c_BK1 := bcl BK1; replace z_BK1 := bfr BK1
 replace HB := bH HB hb; clear hb
 replace H := ifD H.out; rcases H with ⟨c50, H⟩ | ⟨c50, H⟩
 rotate_left
 ·replace c50 := nT c50
  subst c50
  replace H := Aside0.mk H
  try go_wp2
  clear c_BK1 z_BK1; have rBK1 := BK1; replace BK1 := dK BK1
  have HBr := HB; replace HB := dH HB
  refine stA (n := 14) (S := fun w' => Below W49.heap.size W49 w') (by kernel_rfl) rfl (below_drew1 (Below.refl _ W49)) (by kernel_rfl) (fun hHeld => ?_)
  generalize W49.drew = W57 at HB BK1 hHeld ⊢
  replace H := ifD H.out; rcases H with ⟨c58, H⟩ | ⟨c58, H⟩
  rotate_left
  ·replace c58 := nT c58; subst c58; replace H := Aside0.mk H; refine pu 0 (some 35) 1 ?_; refine pu 1 (some 36) 3 ?_; refine sk 2 (some 37) 7 ?_; refine pu 3 (some 38) 15 ?_; refine pu 4 (some 39) 31 ?_; refine sk 5 (some 40) 63 ?_; refine sk 6 (some 41) 127 ?_; refine sk 7 (some 42) 255 ?_; refine sk 8 (some 43) 511 ?_; refine sk 9 (some 44) 1023 ?_; refine sk 10 (some 45) 2047 ?_; refine sk 11 (some 46) 4095 ?_; refine pu 12 (some 47) 8191 ?_; refine pu 13 (some 2) 16383 ?_; refine dn (by kernel_rfl) ?_; clear hHeld HBr rBK1; have c_BK1 := bcl BK1; have z_BK1 := bfr BK1; replace H := H.out; cases H; go_wp2; go_ret; exact ⟨rfl, HB.out⟩
  subst c58
  replace H := ifD H; rcases H with ⟨c59, H⟩ | ⟨c59, H⟩
  rotate_left
  ·obtain ⟨c59_0, c59_1, c59_2⟩ := d3F c59; clear c59; (first | rw [c59_1] | rw [c59_2] | skip); replace H := Aside0.mk H; refine pu 0 (some 35) 1 ?_; refine pu 1 (some 36) 3 ?_; refine pu 2 (some 37) 7 ?_; refine pu 3 (some 38) 15 ?_; refine pu 4 (some 39) 31 ?_; refine sk 5 (some 40) 63 ?_; refine sk 6 (some 41) 127 ?_; refine sk 7 (some 42) 255 ?_; refine sk 8 (some 43) 511 ?_; refine sk 9 (some 44) 1023 ?_; refine sk 10 (some 45) 2047 ?_; refine sk 11 (some 46) 4095 ?_; refine pu 12 (some 47) 8191 ?_; refine pu 13 (some 2) 16383 ?_; refine dn (by kernel_rfl) ?_; clear hHeld HBr rBK1; have c_BK1 := bcl BK1; have z_BK1 := bfr BK1; replace H := H.out; cases H; go_wp2; go_ret; exact ⟨rfl, HB.out⟩
  obtain ⟨c59_0, c59_1, c59_2⟩ := d3T c59
  clear c59
  (first | rw [c59_1] | rw [c59_2] | skip)
  replace H := obs H
  obtain ⟨t298, hm, H⟩ := H
  (try dsimp only at H)
  replace hm := Aside0.mk hm
  replace H := Aside0.mk H
  refine pu 0 (some 35) 1 ?_; refine pu 1 (some 36) 3 ?_; refine pu 2 (some 37) 7 ?_; refine pu 3 (some 38) 15 ?_; refine pu 4 (some 39) 31 ?_; refine pu 5 (some 40) 63 ?_; refine pu 8 (some 43) 319 ?_; refine ld 6 (some 41) 383 hHeld ?_ (hr := by (intro w' h_; have y_ := kD rBK1 h_; go_simp; with_reducible rfl)); refine pu 7 (some 42) 511 ?_; refine ld 9 (some 44) 1023 hHeld ?_ (hr := by (intro w' h_; have y_ := kD rBK1 h_; go_simp; with_reducible rfl))
  refine on 10 (some 45) 2047 (fun K hK => ?_)
  have hcall := spec_ArityOf.calls _ _ W57  hm.out
  refine goes_ Tryz.func397 (by kernel_rfl) rfl #[.int .i64 a0_0] (by rfl) rfl rfl zM ?_
  refine hcall.mono ?_
  rintro e W61 ⟨rfl, hb⟩
  refine ⟨_, rfl, ?_⟩
  clear hcall hm
  replace hHeld := below_step hHeld hb
  replace BK1 := bK BK1 hb
  replace HB := bH HB hb; clear hb
  refine hK.out _ _ hHeld (fun hHeld => ?_)
  clear hK K
  refine nr 45 ?_
  refine pu 11 (some 46) 4095 ?_; refine pu 12 (some 47) 8191 ?_; refine pu 13 (some 2) 16383 ?_
  refine dn (by kernel_rfl) ?_
  clear hHeld HBr rBK1
  have c_BK1 := bcl BK1; have z_BK1 := bfr BK1
  replace H := H.out
  cases H
  go_wp2
  go_ret
  exact ⟨rfl, HB.out⟩
 subst c50
 replace H := obs H
 obtain ⟨t296, hm, H⟩ := H
 (try dsimp only at H)
 replace H := Aside0.mk H
 have hcall := spec_IsTime.calls _ _ W49  hm
 clear hm
 (go_wp2_with fail)
 refine hcall.mono ?_
 rintro e W51 ⟨rfl, hb⟩
 clear hcall
 replace BK1 := bK BK1 hb; replace c_BK1 := bcl BK1; replace z_BK1 := bfr BK1
 replace HB := bH HB hb; clear hb
 try go_wp2
 clear c_BK1 z_BK1; have rBK1 := BK1; replace BK1 := dK BK1
 have HBr := HB; replace HB := dH HB
 refine stA (n := 14) (S := fun w' => Below W51.heap.size W51 w') (by kernel_rfl) rfl (below_drew1 (Below.refl _ W51)) (by kernel_rfl) (fun hHeld => ?_)
 generalize W51.drew = W52 at HB BK1 hHeld ⊢
 replace H := ifD H.out; rcases H with ⟨c53, H⟩ | ⟨c53, H⟩
 rotate_left
 ·replace c53 := nT c53
  subst c53
  replace H := Aside0.mk H
  refine pu 0 (some 35) 1 ?_; refine pu 1 (some 36) 3 ?_; refine sk 2 (some 37) 7 ?_; refine pu 3 (some 38) 15 ?_; refine pu 4 (some 39) 31 ?_; refine sk 5 (some 40) 63 ?_; refine sk 6 (some 41) 127 ?_; refine sk 7 (some 42) 255 ?_; refine sk 8 (some 43) 511 ?_; refine sk 9 (some 44) 1023 ?_; refine sk 10 (some 45) 2047 ?_; refine sk 11 (some 46) 4095 ?_; refine pu 12 (some 47) 8191 ?_; refine pu 13 (some 2) 16383 ?_
  refine dn (by kernel_rfl) ?_
  clear hHeld HBr rBK1
  have c_BK1 := bcl BK1; have z_BK1 := bfr BK1
  replace H := H.out
  cases H
  go_wp2
  go_ret
  exact ⟨rfl, HB.out⟩
 subst c53
 replace H := ifD H; rcases H with ⟨c54, H⟩ | ⟨c54, H⟩
 rotate_left
 ·replace c54 := nT c54
  subst c54
  replace H := Aside0.mk H
  refine pu 0 (some 35) 1 ?_; refine pu 1 (some 36) 3 ?_; refine pu 2 (some 37) 7 ?_; refine pu 3 (some 38) 15 ?_; refine pu 4 (some 39) 31 ?_; refine sk 5 (some 40) 63 ?_; refine sk 6 (some 41) 127 ?_; refine sk 7 (some 42) 255 ?_; refine sk 8 (some 43) 511 ?_; refine sk 9 (some 44) 1023 ?_; refine sk 10 (some 45) 2047 ?_; refine sk 11 (some 46) 4095 ?_; refine pu 12 (some 47) 8191 ?_; refine pu 13 (some 2) 16383 ?_
  refine dn (by kernel_rfl) ?_
  clear hHeld HBr rBK1
  have c_BK1 := bcl BK1; have z_BK1 := bfr BK1
  replace H := H.out
  cases H
  go_wp2
  go_ret
  exact ⟨rfl, HB.out⟩
 subst c54
 replace H := obs H
 obtain ⟨t297, hm, H⟩ := H
 (try dsimp only at H)
 replace hm := Aside0.mk hm
 replace H := Aside0.mk H
 refine pu 0 (some 35) 1 ?_; refine pu 1 (some 36) 3 ?_; refine pu 2 (some 37) 7 ?_; refine pu 3 (some 38) 15 ?_; refine pu 4 (some 39) 31 ?_; refine pu 5 (some 40) 63 ?_; refine pu 8 (some 43) 319 ?_; refine ld 6 (some 41) 383 hHeld ?_ (hr := by (intro w' h_; have y_ := kD rBK1 h_; go_simp; with_reducible rfl)); refine pu 7 (some 42) 511 ?_; refine ld 9 (some 44) 1023 hHeld ?_ (hr := by (intro w' h_; have y_ := kD rBK1 h_; go_simp; with_reducible rfl))
 refine on 10 (some 45) 2047 (fun K hK => ?_)
 have hcall := spec_ArityOf.calls _ _ W52  hm.out
 refine goes_ Tryz.func397 (by kernel_rfl) rfl #[.int .i64 a0_0] (by rfl) rfl rfl zM ?_
 refine hcall.mono ?_
 rintro e W56 ⟨rfl, hb⟩
 refine ⟨_, rfl, ?_⟩
 clear hcall hm
 replace hHeld := below_step hHeld hb
 replace BK1 := bK BK1 hb
 replace HB := bH HB hb; clear hb
 refine hK.out _ _ hHeld (fun hHeld => ?_)
 clear hK K
 refine nr 45 ?_
 refine pu 11 (some 46) 4095 ?_; refine pu 12 (some 47) 8191 ?_; refine pu 13 (some 2) 16383 ?_
 refine dn (by kernel_rfl) ?_
 clear hHeld HBr rBK1
 have c_BK1 := bcl BK1; have z_BK1 := bfr BK1
 replace H := H.out
 cases H
 go_wp2
 go_ret
 exact ⟨rfl, HB.out⟩
end Go.Proofs.YtmgfklmhelabcaaGreat.QFnExactSaveDecision
