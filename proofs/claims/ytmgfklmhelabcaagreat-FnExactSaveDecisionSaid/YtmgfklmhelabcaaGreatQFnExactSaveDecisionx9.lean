/- The machine side of FnExactSaveDecision: what each function that it reaches computes, and that the machine's call gives just that. -/
import Derived.Test.YtmgfklmhelabcaaGreatQFnExactSaveDecisionx0
import Derived.Test.YtmgfklmhelabcaaGreatQFnExactSaveDecisionx5
import Derived.Test.YtmgfklmhelabcaaGreatQFnExactSaveDecisionx8
namespace Go.Proofs.YtmgfklmhelabcaaGreat.QFnExactSaveDecision
open Go.RowKit Go.Proofs.YtmgfklmhelabcaaGreatW.PrintWords Go.Proofs.YtmgfklmhelabcaaGreatW.PrintLast Go.Proofs.YtmgfklmhelabcaaGreatW.PrintMore
attribute [local go_sem] max2_int min2_int max_two min_two max_three min_three max_four min_four
set_option maxHeartbeats 8000000
set_option maxRecDepth 100000
open Go.Proofs.YtmgfklmhelabcaaGreatM
set_option linter.unusedVariables false
set_option linter.unusedSimpArgs false
def spec_LeafHolds.f (k : Nat) (l0 : List (S154)) (l1 : List (S136)) (a2_0 : Int) (a2_1 : Int) (a2_2 : Int) (l2_3 : List (S172)) (a3_0 : Int) (a3_1 : Int) (a3_2 : Int) (a3_3 : Int) (a3_4 : Int) (a3_5 : Int) : Option (Bool) := if a2_0 = 1 then (some true) else (if a2_0 = 2 then ((spec_HasRole.f k l0 l1 a3_0 a2_1 a3_5 a2_2).bind fun t410 => (some t410)) else (if a2_0 = 3 then ((spec_FindFact.f k l1 2 a3_0 a3_1 a3_5 a2_2).bind fun t411 => (some (decide (t411 ≥ 0)))) else (if a2_0 = 4 then ((spec_BestValue.f k l1 3 a3_1 a3_5 a2_2).bind fun t412 => (some (decide (t412 ≥ a2_1)))) else (if a2_0 = 5 then ((spec_BestValue.f k l1 4 a3_2 a3_5 a2_2).bind fun t413 => (some (decide (t413 ≥ a2_1)))) else (if a2_0 = 6 then (some (decide (a3_5 ≤ a2_1))) else (some false))))))
theorem spec_LeafHolds.calls (k : Nat) (A0 : Option Addr) (c0 : Nat) (l0 : List (S154)) (A1 : Option Addr) (c1 : Nat) (l1 : List (S136)) (a2_0 : Int) (a2_1 : Int) (a2_2 : Int) (A2_3 : Option Addr) (c2_3 : Nat) (l2_3 : List (S172)) (a3_0 : Int) (a3_1 : Int) (a3_2 : Int) (a3_3 : Int) (a3_4 : Int) (a3_5 : Int) (r : Bool) (w : World) (hr0 : Kd.C k154 w A0 l0.length l0) (hc0 : l0.length ≤ c0) (hr1 : Kd.C k136 w A1 l1.length l1) (hc1 : l1.length ≤ c1) (hr2_3 : Kd.C k172 w A2_3 l2_3.length l2_3) (hc2_3 : l2_3.length ≤ c2_3) (h : spec_LeafHolds.f k l0 l1 a2_0 a2_1 a2_2 l2_3 a3_0 a3_1 a3_2 a3_3 a3_4 a3_5 = some r) :
  Calls Tryz.prog 385 #[.slice A0 l0.length c0, .slice A1 l1.length c1, .agg #[.int .i64 a2_0, .int .i64 a2_1, .int .i64 a2_2, .slice A2_3 l2_3.length c2_3], .agg #[.int .i64 a3_0, .int .i64 a3_1, .int .i64 a3_2, .int .i64 a3_3, .int .i64 a3_4, .int .i64 a3_5]] w fun e w' => e = .returned (.bool r) ∧ Below w.heap.size w w' := by
 have HR0 := Aside0.mk hr0
 have HC0 := Aside0.mk hc0
 clear hr0 hc0
 have HR1 := Aside0.mk hr1
 have HC1 := Aside0.mk hc1
 clear hr1 hc1
 have HR2_3 := Aside0.mk hr2_3
 have HC2_3 := Aside0.mk hc2_3
 clear hr2_3 hc2_3
 have HB := Aside0.mk (Below.refl w.heap.size w)
 have H := h
 clear h
 unfold spec_LeafHolds.f at H
 have hu41 := Tryz.underlying41
 have hu172 := Tryz.underlying172
 go_enter Tryz.func385, Tryz.ntmps385
 replace H := Aside0.mk H
 go_upto_region 1 with (first | ((with_reducible refine gate_dst (N := 6) rfl ?_); refine box_event ?hg (N := 6) ?hd (cs := #[.int .i64 a2_0, .int .i64 a2_1, .int .i64 a2_2, .slice A2_3 l2_3.length c2_3]) (t := 172) ?hr ?_; (case hd => rfl); (case hg => rfl); (case hr => first | (go_simp; done) | (go_simp; rfl)); intro gb1 hg W1 hbox hb; replace HB := bH HB hb; clear hb; have BK1 := Aside0.mk hbox; have c_BK1 := blk_cell hbox; have z_BK1 := blk_frozen hbox; clear hg hbox) | ((with_reducible refine gate_dst (N := 7) rfl ?_); refine box_event ?hg (N := 7) ?hd (cs := #[.int .i64 a3_0, .int .i64 a3_1, .int .i64 a3_2, .int .i64 a3_3, .int .i64 a3_4, .int .i64 a3_5]) (t := 41) ?hr ?_; (case hd => rfl); (case hg => rfl); (case hr => first | (go_simp; done) | (go_simp; rfl)); intro gb2 hg W2 hbox hb; replace BK1 := bK BK1 hb; replace c_BK1 := bcl BK1; replace z_BK1 := bfr BK1; replace HB := bH HB hb; clear hb; have BK2 := Aside0.mk hbox; have c_BK2 := blk_cell hbox; have z_BK2 := blk_frozen hbox; clear hg hbox))
 replace H := ifD H.out; rcases H with ⟨c3, H⟩ | ⟨c3, H⟩
 ·obtain ⟨c3_0, c3_1, c3_2⟩ := d3T c3
  clear c3
  (first | rw [c3_1] | rw [c3_2] | skip)
  cases H
  go_wp2
  go_ret
  exact ⟨rfl, HB.out⟩
 obtain ⟨c3_0, c3_1, c3_2⟩ := d3F c3
 clear c3
 (first | rw [c3_1] | rw [c3_2] | skip)
 replace H := ifD H; rcases H with ⟨c4, H⟩ | ⟨c4, H⟩
 ·obtain ⟨c4_0, c4_1, c4_2⟩ := d3T c4
  clear c4
  (first | rw [c4_1] | rw [c4_2] | skip)
  replace H := obs H
  obtain ⟨t410, hm, H⟩ := H
  (try dsimp only at H)
  replace H := Aside0.mk H
  have hcall := spec_HasRole.calls k _ _ _ _ _ _ _ _ _ _ _ W2 (Kd.C_below HR0.out HB.out) HC0.out (Kd.C_below HR1.out HB.out) HC1.out hm
  clear hm
  (go_wp2_with fail)
  refine hcall.mono ?_
  rintro e W5 ⟨rfl, hb⟩
  clear hcall
  replace BK1 := bK BK1 hb; replace c_BK1 := bcl BK1; replace z_BK1 := bfr BK1
  replace BK2 := bK BK2 hb; replace c_BK2 := bcl BK2; replace z_BK2 := bfr BK2
  replace HB := bH HB hb; clear hb
  replace H := H.out
  cases H
  go_wp2
  go_ret
  exact ⟨rfl, HB.out⟩
 obtain ⟨c4_0, c4_1, c4_2⟩ := d3F c4
 clear c4
 (first | rw [c4_1] | rw [c4_2] | skip)
 replace H := ifD H; rcases H with ⟨c6, H⟩ | ⟨c6, H⟩
 ·obtain ⟨c6_0, c6_1, c6_2⟩ := d3T c6
  clear c6
  (first | rw [c6_1] | rw [c6_2] | skip)
  replace H := obs H
  obtain ⟨t411, hm, H⟩ := H
  (try dsimp only at H)
  replace H := Aside0.mk H
  have hcall := spec_FindFact.calls k _ _ _ _ _ _ _ _ _ W2 (Kd.C_below HR1.out HB.out) HC1.out hm
  clear hm
  (go_wp2_with fail)
  refine hcall.mono ?_
  rintro e W7 ⟨rfl, hb⟩
  clear hcall
  replace BK1 := bK BK1 hb; replace c_BK1 := bcl BK1; replace z_BK1 := bfr BK1
  replace BK2 := bK BK2 hb; replace c_BK2 := bcl BK2; replace z_BK2 := bfr BK2
  replace HB := bH HB hb; clear hb
  replace H := H.out
  cases H
  go_wp2
  go_ret
  exact ⟨rfl, HB.out⟩
 obtain ⟨c6_0, c6_1, c6_2⟩ := d3F c6
 clear c6
 (first | rw [c6_1] | rw [c6_2] | skip)
 replace H := ifD H; rcases H with ⟨c8, H⟩ | ⟨c8, H⟩
 ·obtain ⟨c8_0, c8_1, c8_2⟩ := d3T c8
  clear c8
  (first | rw [c8_1] | rw [c8_2] | skip)
  replace H := Aside0.mk H
  try go_wp2
  clear c_BK1 z_BK1; have rBK1 := BK1; replace BK1 := dK BK1
  clear c_BK2 z_BK2; have rBK2 := BK2; replace BK2 := dK BK2
  have HBr := HB; replace HB := dH HB
  refine stA (n := 12) (S := fun w' => Below W2.heap.size W2 w') (by kernel_rfl) rfl (below_drew1 (Below.refl _ W2)) (by kernel_rfl) (fun hHeld => ?_)
  generalize W2.drew = W9 at HB BK1 BK2 hHeld ⊢
  replace H := H.out
  replace H := obs H
  obtain ⟨t412, hm, H⟩ := H
  (try dsimp only at H)
  replace hm := Aside0.mk hm
  replace H := Aside0.mk H
  refine pu 0 (some 41) 1 ?_; refine pu 1 (some 42) 3 ?_; refine pu 3 (some 44) 11 ?_; refine pu 5 (some 46) 43 ?_; refine ld 2 (some 43) 47 hHeld ?_ (hr := by (intro w' h_; have y_ := kD rBK2 h_; go_simp; with_reducible rfl)); refine ld 4 (some 45) 63 hHeld ?_ (hr := by (intro w' h_; have y_ := kD rBK2 h_; go_simp; with_reducible rfl)); refine ld 6 (some 47) 127 hHeld ?_ (hr := by (intro w' h_; have y_ := kD rBK1 h_; go_simp; with_reducible rfl))
  refine pu 8 (some 49) 383 ?_; refine ld 9 (some 50) 895 hHeld ?_ (hr := by (intro w' h_; have y_ := kD rBK1 h_; go_simp; with_reducible rfl))
  refine on 7 (some 48) 1023 (fun K hK => ?_)
  have hcall := spec_BestValue.calls k _ _ _ _ _ _ _ _ W9 (Kd.C_below HR1.out HB.out) HC1.out hm.out
  refine goes_ Tryz.func400 (by kernel_rfl) rfl #[.slice A1 l1.length c1, .int .i64 3, .int .i64 a3_1, .int .i64 a3_5, .int .i64 a2_2] (by rfl) rfl rfl zM ?_
  refine hcall.mono ?_
  rintro e W11 ⟨rfl, hb⟩
  refine ⟨_, rfl, ?_⟩
  clear hcall hm
  replace hHeld := below_step hHeld hb
  replace BK1 := bK BK1 hb
  replace BK2 := bK BK2 hb
  replace HB := bH HB hb; clear hb
  refine hK.out _ _ hHeld (fun hHeld => ?_)
  clear hK K
  refine nr 48 ?_
  refine pu 10 (some 51) 2047 ?_; refine pu 11 (some 8) 4095 ?_
  refine dn (by kernel_rfl) ?_
  clear hHeld HBr rBK1 rBK2
  have c_BK1 := bcl BK1; have z_BK1 := bfr BK1
  have c_BK2 := bcl BK2; have z_BK2 := bfr BK2
  replace H := H.out
  cases H
  go_wp2
  go_ret
  exact ⟨rfl, HB.out⟩
 obtain ⟨c8_0, c8_1, c8_2⟩ := d3F c8
 clear c8
 (first | rw [c8_1] | rw [c8_2] | skip)
 replace H := ifD H; rcases H with ⟨c12, H⟩ | ⟨c12, H⟩
 rotate_left
 ·obtain ⟨c12_0, c12_1, c12_2⟩ := d3F c12
  clear c12
  (first | rw [c12_1] | rw [c12_2] | skip)
  replace H := ifD H; rcases H with ⟨c16, H⟩ | ⟨c16, H⟩
  ·obtain ⟨c16_0, c16_1, c16_2⟩ := d3T c16; clear c16; (first | rw [c16_1] | rw [c16_2] | skip); cases H; go_wp2; go_ret; exact ⟨rfl, HB.out⟩
  obtain ⟨c16_0, c16_1, c16_2⟩ := d3F c16
  clear c16
  (first | rw [c16_1] | rw [c16_2] | skip)
  cases H
  go_wp2
  go_ret
  exact ⟨rfl, HB.out⟩
 obtain ⟨c12_0, c12_1, c12_2⟩ := d3T c12
 clear c12
 (first | rw [c12_1] | rw [c12_2] | skip)
 replace H := Aside0.mk H
 try go_wp2
 clear c_BK1 z_BK1; have rBK1 := BK1; replace BK1 := dK BK1
 clear c_BK2 z_BK2; have rBK2 := BK2; replace BK2 := dK BK2
 have HBr := HB; replace HB := dH HB
 refine stA (n := 12) (S := fun w' => Below W2.heap.size W2 w') (by kernel_rfl) rfl (below_drew1 (Below.refl _ W2)) (by kernel_rfl) (fun hHeld => ?_)
 generalize W2.drew = W13 at HB BK1 BK2 hHeld ⊢
 replace H := H.out
 replace H := obs H
 obtain ⟨t413, hm, H⟩ := H
 (try dsimp only at H)
 replace hm := Aside0.mk hm
 replace H := Aside0.mk H
 refine pu 0 (some 54) 1 ?_; refine pu 1 (some 55) 3 ?_; refine pu 3 (some 57) 11 ?_; refine pu 5 (some 59) 43 ?_; refine ld 2 (some 56) 47 hHeld ?_ (hr := by (intro w' h_; have y_ := kD rBK2 h_; go_simp; with_reducible rfl)); refine ld 4 (some 58) 63 hHeld ?_ (hr := by (intro w' h_; have y_ := kD rBK2 h_; go_simp; with_reducible rfl)); refine ld 6 (some 60) 127 hHeld ?_ (hr := by (intro w' h_; have y_ := kD rBK1 h_; go_simp; with_reducible rfl))
 refine pu 8 (some 62) 383 ?_; refine ld 9 (some 63) 895 hHeld ?_ (hr := by (intro w' h_; have y_ := kD rBK1 h_; go_simp; with_reducible rfl))
 refine on 7 (some 61) 1023 (fun K hK => ?_)
 have hcall := spec_BestValue.calls k _ _ _ _ _ _ _ _ W13 (Kd.C_below HR1.out HB.out) HC1.out hm.out
 refine goes_ Tryz.func400 (by kernel_rfl) rfl #[.slice A1 l1.length c1, .int .i64 4, .int .i64 a3_2, .int .i64 a3_5, .int .i64 a2_2] (by rfl) rfl rfl zM ?_
 refine hcall.mono ?_
 rintro e W15 ⟨rfl, hb⟩
 refine ⟨_, rfl, ?_⟩
 clear hcall hm
 replace hHeld := below_step hHeld hb
 replace BK1 := bK BK1 hb
 replace BK2 := bK BK2 hb
 replace HB := bH HB hb; clear hb
 refine hK.out _ _ hHeld (fun hHeld => ?_)
 clear hK K
 refine nr 61 ?_
 refine pu 10 (some 64) 2047 ?_; refine pu 11 (some 8) 4095 ?_
 refine dn (by kernel_rfl) ?_
 clear hHeld HBr rBK1 rBK2
 have c_BK1 := bcl BK1; have z_BK1 := bfr BK1
 have c_BK2 := bcl BK2; have z_BK2 := bfr BK2
 replace H := H.out
 cases H
 go_wp2
 go_ret
 exact ⟨rfl, HB.out⟩
def spec_l18Eval.f : Nat → List (S154) → List (S136) → Int → Int → Int → List (S172) → Int → Int → Int → Int → Int → Int → Option (Bool)
 | 0, _, _, _, _, _, _, _, _, _, _, _, _ => none
 | k + 1, l0, l1, a2_0, a2_1, a2_2, l2_3, a3_0, a3_1, a3_2, a3_3, a3_4, a3_5 => if a2_0 = 7 then (if 0 < (l2_3.length : Int) then ((spec_l18Eval.f k l0 l1 ((rd_T172 l2_3 0).f0) ((rd_T172 l2_3 0).f1) ((rd_T172 l2_3 0).f2) ((rd_T172 l2_3 0).f3) a3_0 a3_1 a3_2 a3_3 a3_4 a3_5).bind fun t417 => (some (!t417))) else (none)) else (if a2_0 = 8 then (if 0 < (l2_3.length : Int) then ((spec_l18Eval.f k l0 l1 ((rd_T172 l2_3 0).f0) ((rd_T172 l2_3 0).f1) ((rd_T172 l2_3 0).f2) ((rd_T172 l2_3 0).f3) a3_0 a3_1 a3_2 a3_3 a3_4 a3_5).bind fun t419 => (if t419 = true then (if 1 < (l2_3.length : Int) then ((spec_l18Eval.f k l0 l1 ((rd_T172 l2_3 1).f0) ((rd_T172 l2_3 1).f1) ((rd_T172 l2_3 1).f2) ((rd_T172 l2_3 1).f3) a3_0 a3_1 a3_2 a3_3 a3_4 a3_5).bind fun t421 => (some t421)) else (none)) else (some false))) else (none)) else (if a2_0 = 9 then (if 0 < (l2_3.length : Int) then ((spec_l18Eval.f k l0 l1 ((rd_T172 l2_3 0).f0) ((rd_T172 l2_3 0).f1) ((rd_T172 l2_3 0).f2) ((rd_T172 l2_3 0).f3) a3_0 a3_1 a3_2 a3_3 a3_4 a3_5).bind fun t423 => (if t423 = true then (some true) else (if 1 < (l2_3.length : Int) then ((spec_l18Eval.f k l0 l1 ((rd_T172 l2_3 1).f0) ((rd_T172 l2_3 1).f1) ((rd_T172 l2_3 1).f2) ((rd_T172 l2_3 1).f3) a3_0 a3_1 a3_2 a3_3 a3_4 a3_5).bind fun t425 => (some t425)) else (none)))) else (none)) else ((spec_LeafHolds.f k l0 l1 a2_0 a2_1 a2_2 l2_3 a3_0 a3_1 a3_2 a3_3 a3_4 a3_5).bind fun t426 => (some t426))))
theorem spec_l18Eval.calls (k : Nat) : ∀ (A0 : Option Addr) (c0 : Nat) (l0 : List (S154)) (A1 : Option Addr) (c1 : Nat) (l1 : List (S136)) (a2_0 : Int) (a2_1 : Int) (a2_2 : Int) (A2_3 : Option Addr) (c2_3 : Nat) (l2_3 : List (S172)) (a3_0 : Int) (a3_1 : Int) (a3_2 : Int) (a3_3 : Int) (a3_4 : Int) (a3_5 : Int) (r : Bool) (w : World) (hr0 : Kd.C k154 w A0 l0.length l0) (hc0 : l0.length ≤ c0) (hr1 : Kd.C k136 w A1 l1.length l1) (hc1 : l1.length ≤ c1) (hr2_3 : Kd.C k172 w A2_3 l2_3.length l2_3) (hc2_3 : l2_3.length ≤ c2_3) (h : spec_l18Eval.f k l0 l1 a2_0 a2_1 a2_2 l2_3 a3_0 a3_1 a3_2 a3_3 a3_4 a3_5 = some r),
  Calls Tryz.prog 366 #[.slice A0 l0.length c0, .slice A1 l1.length c1, .agg #[.int .i64 a2_0, .int .i64 a2_1, .int .i64 a2_2, .slice A2_3 l2_3.length c2_3], .agg #[.int .i64 a3_0, .int .i64 a3_1, .int .i64 a3_2, .int .i64 a3_3, .int .i64 a3_4, .int .i64 a3_5]] w fun e w' => e = .returned (.bool r) ∧ Below w.heap.size w w' := by
 induction k using Nat.strongRecOn with
 | _ k ih =>
 intro A0 c0 l0 A1 c1 l1 a2_0 a2_1 a2_2 A2_3 c2_3 l2_3 a3_0 a3_1 a3_2 a3_3 a3_4 a3_5 r w hr0 hc0 hr1 hc1 hr2_3 hc2_3 h
 cases k with
 | zero => exact absurd h (by simp [spec_l18Eval.f])
 | succ k =>
 simp only [spec_l18Eval.f] at h
 have HR0 := Aside0.mk hr0
 have HC0 := Aside0.mk hc0
 clear hr0 hc0
 have HR1 := Aside0.mk hr1
 have HC1 := Aside0.mk hc1
 clear hr1 hc1
 have HR2_3 := Aside0.mk hr2_3
 have HC2_3 := Aside0.mk hc2_3
 clear hr2_3 hc2_3
 have HB := Aside0.mk (Below.refl w.heap.size w)
 have H := h
 clear h
 have hu41 := Tryz.underlying41
 have hu172 := Tryz.underlying172
 go_enter Tryz.func366, Tryz.ntmps366
 replace H := Aside0.mk H
 go_upto_region 1 with (first | ((with_reducible refine gate_dst (N := 6) rfl ?_); refine box_event ?hg (N := 6) ?hd (cs := #[.int .i64 a2_0, .int .i64 a2_1, .int .i64 a2_2, .slice A2_3 l2_3.length c2_3]) (t := 172) ?hr ?_; (case hd => rfl); (case hg => rfl); (case hr => first | (go_simp; done) | (go_simp; rfl)); intro gb1 hg W1 hbox hb; replace HB := bH HB hb; clear hb; have BK1 := Aside0.mk hbox; have c_BK1 := blk_cell hbox; have z_BK1 := blk_frozen hbox; clear hg hbox) | ((with_reducible refine gate_dst (N := 7) rfl ?_); refine box_event ?hg (N := 7) ?hd (cs := #[.int .i64 a3_0, .int .i64 a3_1, .int .i64 a3_2, .int .i64 a3_3, .int .i64 a3_4, .int .i64 a3_5]) (t := 41) ?hr ?_; (case hd => rfl); (case hg => rfl); (case hr => first | (go_simp; done) | (go_simp; rfl)); intro gb2 hg W2 hbox hb; replace BK1 := bK BK1 hb; replace c_BK1 := bcl BK1; replace z_BK1 := bfr BK1; replace HB := bH HB hb; clear hb; have BK2 := Aside0.mk hbox; have c_BK2 := blk_cell hbox; have z_BK2 := blk_frozen hbox; clear hg hbox))
 replace H := ifD H.out; rcases H with ⟨c3, H⟩ | ⟨c3, H⟩
 ·obtain ⟨c3_0, c3_1, c3_2⟩ := d3T c3
  clear c3
  (first | rw [c3_1] | rw [c3_2] | skip)
  replace H := Aside0.mk H
  try go_wp2
  clear c_BK1 z_BK1; have rBK1 := BK1; replace BK1 := dK BK1
  clear c_BK2 z_BK2; have rBK2 := BK2; replace BK2 := dK BK2
  have HBr := HB; replace HB := dH HB
  refine stA (n := 10) (S := fun w' => Below W2.heap.size W2 w') (by kernel_rfl) rfl (below_drew1 (Below.refl _ W2)) (by kernel_rfl) (fun hHeld => ?_)
  generalize W2.drew = W4 at HB BK1 BK2 hHeld ⊢
  refine pu 0 (some 13) 1 ?_; refine pu 1 (some 14) 3 ?_; refine pu 2 (some 15) 7 ?_; refine ld 3 (some 16) 15 hHeld ?_ (hr := by (intro w' h_; have y_ := kD rBK1 h_; go_simp; with_reducible rfl))
  replace H := ifN H.out; obtain ⟨c5, H⟩ := H
  have c5_x0 := decT (by omega)
  have c5_0 := decT c5
  replace c5 := Aside0.mk c5
  (try rw [c5_0])
  have p416 : 0 ≤ (0 : Int) := (by omega)
  have q416 : 0 < (l2_3.length : Int) := (of_decide_eq_true (by assumption))
  obtain ⟨ad416, A416_3, c416_3, e416, hx416_0, hx416_1, hx416_2, hx416_3, hl416_3, hi416_3⟩ := at_T172 HR2_3.out 0 p416 q416
  cases e416
  have HR416_3 := Aside0.mk hi416_3; have HC416_3 := Aside0.mk hl416_3; clear hi416_3 hl416_3
  have hx416_0 : w.cell? ad416 = _ := hx416_0
  replace hx416_0 := Aside0.mk hx416_0
  have hx416_1 : w.cell? ⟨ad416.block, ad416.off + 1, none⟩ = _ := hx416_1
  replace hx416_1 := Aside0.mk hx416_1
  have hx416_2 : w.cell? ⟨ad416.block, ad416.off + 2, none⟩ = _ := hx416_2
  replace hx416_2 := Aside0.mk hx416_2
  have hx416_3 : w.cell? ⟨ad416.block, ad416.off + 3, none⟩ = _ := hx416_3
  replace hx416_3 := Aside0.mk hx416_3
  have r416 := eq_true p416; have s416 := eq_true q416; have z416 : (0 < l2_3.length) = True := eq_true (by omega)
  replace p416 := Aside0.mk p416; replace q416 := Aside0.mk q416
  replace H := obs H
  obtain ⟨t417, hm, H⟩ := H
  (try dsimp only at H)
  replace hm := Aside0.mk hm
  replace H := Aside0.mk H
  refine pu 4 (some 17) 31 ?_; refine ld 5 (some 18) 63 hHeld ?_ (hr := by (intro w' h_; have y0_ := xD HBr h_ hx416_0; have y1_ := xD HBr h_ hx416_1; have y2_ := xD HBr h_ hx416_2; have y3_ := xD HBr h_ hx416_3; go_simp; with_reducible rfl)); refine ld 6 (some 19) 127 hHeld ?_ (hr := by (intro w' h_; have y_ := kD rBK2 h_; go_simp; with_reducible rfl))
  refine on 7 (some 20) 255 (fun K hK => ?_)
  have hcall := ih k (by omega) _ _ _ _ _ _ _ _ _ _ _ _ _ _ _ _ _ _ _ W4 (Kd.C_below HR0.out HB.out) HC0.out (Kd.C_below HR1.out HB.out) HC1.out (Kd.C_below HR416_3.out HB.out) HC416_3.out hm.out
  refine goes_ Tryz.func366 (by kernel_rfl) rfl #[.slice A0 l0.length c0, .slice A1 l1.length c1, .agg #[.int .i64 ((rd_T172 l2_3 0).f0), .int .i64 ((rd_T172 l2_3 0).f1), .int .i64 ((rd_T172 l2_3 0).f2), .slice A416_3 ((rd_T172 l2_3 0).f3).length c416_3], .agg #[.int .i64 a3_0, .int .i64 a3_1, .int .i64 a3_2, .int .i64 a3_3, .int .i64 a3_4, .int .i64 a3_5]] (by rfl) rfl rfl zM ?_
  refine hcall.mono ?_
  rintro e W7 ⟨rfl, hb⟩
  refine ⟨_, rfl, ?_⟩
  clear hcall hm
  replace hHeld := below_step hHeld hb
  replace BK1 := bK BK1 hb
  replace BK2 := bK BK2 hb
  replace HB := bH HB hb; clear hb
  refine hK.out _ _ hHeld (fun hHeld => ?_)
  clear hK K
  refine nr 20 ?_
  refine pu 8 (some 21) 511 ?_; refine pu 9 (some 8) 1023 ?_
  refine dn (by kernel_rfl) ?_
  clear hHeld HBr rBK1 rBK2
  have c_BK1 := bcl BK1; have z_BK1 := bfr BK1
  have c_BK2 := bcl BK2; have z_BK2 := bfr BK2
  replace H := H.out
  cases H
  go_wp2
  go_ret
  exact ⟨rfl, HB.out⟩
 obtain ⟨c3_0, c3_1, c3_2⟩ := d3F c3
 clear c3
 (first | rw [c3_1] | rw [c3_2] | skip)
 replace H := ifD H; rcases H with ⟨c8, H⟩ | ⟨c8, H⟩
 ·obtain ⟨c8_0, c8_1, c8_2⟩ := d3T c8
  clear c8
  (first | rw [c8_1] | rw [c8_2] | skip)
  replace H := Aside0.mk H
  try go_wp2
  clear c_BK1 z_BK1; have rBK1 := BK1; replace BK1 := dK BK1
  clear c_BK2 z_BK2; have rBK2 := BK2; replace BK2 := dK BK2
  have HBr := HB; replace HB := dH HB
  refine stA (n := 19) (S := fun w' => Below W2.heap.size W2 w') (by kernel_rfl) rfl (below_drew1 (Below.refl _ W2)) (by kernel_rfl) (fun hHeld => ?_)
  generalize W2.drew = W9 at HB BK1 BK2 hHeld ⊢
  refine pu 0 (some 24) 1 ?_; refine pu 1 (some 25) 3 ?_; refine pu 2 (some 26) 7 ?_; refine ld 3 (some 27) 15 hHeld ?_ (hr := by (intro w' h_; have y_ := kD rBK1 h_; go_simp; with_reducible rfl))
  replace H := ifN H.out; obtain ⟨c10, H⟩ := H
  have c10_x0 := decT (by omega)
  have c10_0 := decT c10
  replace c10 := Aside0.mk c10
  (try rw [c10_0])
  have p418 : 0 ≤ (0 : Int) := (by omega)
  have q418 : 0 < (l2_3.length : Int) := (of_decide_eq_true (by assumption))
  obtain ⟨ad418, A418_3, c418_3, e418, hx418_0, hx418_1, hx418_2, hx418_3, hl418_3, hi418_3⟩ := at_T172 HR2_3.out 0 p418 q418
  cases e418
  have HR418_3 := Aside0.mk hi418_3; have HC418_3 := Aside0.mk hl418_3; clear hi418_3 hl418_3
  have hx418_0 : w.cell? ad418 = _ := hx418_0
  replace hx418_0 := Aside0.mk hx418_0
  have hx418_1 : w.cell? ⟨ad418.block, ad418.off + 1, none⟩ = _ := hx418_1
  replace hx418_1 := Aside0.mk hx418_1
  have hx418_2 : w.cell? ⟨ad418.block, ad418.off + 2, none⟩ = _ := hx418_2
  replace hx418_2 := Aside0.mk hx418_2
  have hx418_3 : w.cell? ⟨ad418.block, ad418.off + 3, none⟩ = _ := hx418_3
  replace hx418_3 := Aside0.mk hx418_3
  have r418 := eq_true p418; have s418 := eq_true q418; have z418 : (0 < l2_3.length) = True := eq_true (by omega)
  replace p418 := Aside0.mk p418; replace q418 := Aside0.mk q418
  replace H := obs H
  obtain ⟨t419, hm, H⟩ := H
  (try dsimp only at H)
  replace hm := Aside0.mk hm
  replace H := Aside0.mk H
  refine pu 4 (some 28) 31 ?_; refine ld 5 (some 29) 63 hHeld ?_ (hr := by (intro w' h_; have y0_ := xD HBr h_ hx418_0; have y1_ := xD HBr h_ hx418_1; have y2_ := xD HBr h_ hx418_2; have y3_ := xD HBr h_ hx418_3; go_simp; with_reducible rfl)); refine ld 6 (some 30) 127 hHeld ?_ (hr := by (intro w' h_; have y_ := kD rBK2 h_; go_simp; with_reducible rfl))
  refine on 7 (some 31) 255 (fun K hK => ?_)
  have hcall := ih k (by omega) _ _ _ _ _ _ _ _ _ _ _ _ _ _ _ _ _ _ _ W9 (Kd.C_below HR0.out HB.out) HC0.out (Kd.C_below HR1.out HB.out) HC1.out (Kd.C_below HR418_3.out HB.out) HC418_3.out hm.out
  refine goes_ Tryz.func366 (by kernel_rfl) rfl #[.slice A0 l0.length c0, .slice A1 l1.length c1, .agg #[.int .i64 ((rd_T172 l2_3 0).f0), .int .i64 ((rd_T172 l2_3 0).f1), .int .i64 ((rd_T172 l2_3 0).f2), .slice A418_3 ((rd_T172 l2_3 0).f3).length c418_3], .agg #[.int .i64 a3_0, .int .i64 a3_1, .int .i64 a3_2, .int .i64 a3_3, .int .i64 a3_4, .int .i64 a3_5]] (by rfl) rfl rfl zM ?_
  refine hcall.mono ?_
  rintro e W12 ⟨rfl, hb⟩
  refine ⟨_, rfl, ?_⟩
  clear hcall hm
  replace hHeld := below_step hHeld hb
  replace BK1 := bK BK1 hb
  replace BK2 := bK BK2 hb
  replace HB := bH HB hb; clear hb
  refine hK.out _ _ hHeld (fun hHeld => ?_)
  clear hK K
  refine nr 31 ?_
  replace H := ifD H.out; rcases H with ⟨c13, H⟩ | ⟨c13, H⟩
  rotate_left
  ·replace c13 := nT c13; subst c13; replace H := Aside0.mk H; refine pu 8 (some 32) 511 ?_; refine sk 9 (some 33) 1023 ?_; refine sk 10 (some 34) 2047 ?_; refine sk 11 (some 35) 4095 ?_; refine sk 12 (some 36) 8191 ?_; refine sk 13 (some 37) 16383 ?_; refine sk 14 (some 38) 32767 ?_; refine sk 15 (some 39) 65535 ?_; refine sk 16 (some 40) 131071 ?_; refine pu 17 (some 41) 262143 ?_; refine pu 18 (some 8) 524287 ?_; refine dn (by kernel_rfl) ?_; clear hHeld HBr rBK1 rBK2; have c_BK1 := bcl BK1; have z_BK1 := bfr BK1; have c_BK2 := bcl BK2; have z_BK2 := bfr BK2; replace H := H.out; cases H; go_wp2; go_ret; exact ⟨rfl, HB.out⟩
  subst c13
  replace H := ifN H; obtain ⟨c14, H⟩ := H
  have c14_x0 := decT (by omega)
  have c14_0 := decT c14
  replace c14 := Aside0.mk c14
  (try rw [c14_0])
  have p420 : 0 ≤ (1 : Int) := (by omega)
  have q420 : 1 < (l2_3.length : Int) := (of_decide_eq_true (by assumption))
  obtain ⟨ad420, A420_3, c420_3, e420, hx420_0, hx420_1, hx420_2, hx420_3, hl420_3, hi420_3⟩ := at_T172 HR2_3.out 1 p420 q420
  obtain rfl : ad418 = ad420 := by injection e420
  have HR420_3 := Aside0.mk hi420_3; have HC420_3 := Aside0.mk hl420_3; clear hi420_3 hl420_3
  have hx420_0 : w.cell? ⟨ad418.block, ad418.off + 4, none⟩ = _ := hx420_0
  replace hx420_0 := Aside0.mk hx420_0
  have hx420_1 : w.cell? ⟨ad418.block, ad418.off + 5, none⟩ = _ := hx420_1
  replace hx420_1 := Aside0.mk hx420_1
  have hx420_2 : w.cell? ⟨ad418.block, ad418.off + 6, none⟩ = _ := hx420_2
  replace hx420_2 := Aside0.mk hx420_2
  have hx420_3 : w.cell? ⟨ad418.block, ad418.off + 7, none⟩ = _ := hx420_3
  replace hx420_3 := Aside0.mk hx420_3
  have r420 := eq_true p420; have s420 := eq_true q420; have z420 : (1 < l2_3.length) = True := eq_true (by omega)
  replace p420 := Aside0.mk p420; replace q420 := Aside0.mk q420
  replace H := obs H
  obtain ⟨t421, hm, H⟩ := H
  (try dsimp only at H)
  replace hm := Aside0.mk hm
  replace H := Aside0.mk H
  refine pu 8 (some 32) 511 ?_; refine pu 9 (some 33) 1023 ?_; refine pu 10 (some 34) 2047 ?_; refine pu 11 (some 35) 4095 ?_; refine ld 12 (some 36) 8191 hHeld ?_ (hr := by (intro w' h_; have y_ := kD rBK1 h_; go_simp; with_reducible rfl)); refine pu 13 (some 37) 16383 ?_; refine ld 14 (some 38) 32767 hHeld ?_ (hr := by (intro w' h_; have y0_ := xD HBr h_ hx420_0; have y1_ := xD HBr h_ hx420_1; have y2_ := xD HBr h_ hx420_2; have y3_ := xD HBr h_ hx420_3; go_simp; with_reducible rfl)); refine ld 15 (some 39) 65535 hHeld ?_ (hr := by (intro w' h_; have y_ := kD rBK2 h_; go_simp; with_reducible rfl))
  refine on 16 (some 40) 131071 (fun K hK => ?_)
  have hcall := ih k (by omega) _ _ _ _ _ _ _ _ _ _ _ _ _ _ _ _ _ _ _ W12 (Kd.C_below HR0.out HB.out) HC0.out (Kd.C_below HR1.out HB.out) HC1.out (Kd.C_below HR420_3.out HB.out) HC420_3.out hm.out
  refine goes_ Tryz.func366 (by kernel_rfl) rfl #[.slice A0 l0.length c0, .slice A1 l1.length c1, .agg #[.int .i64 ((rd_T172 l2_3 1).f0), .int .i64 ((rd_T172 l2_3 1).f1), .int .i64 ((rd_T172 l2_3 1).f2), .slice A420_3 ((rd_T172 l2_3 1).f3).length c420_3], .agg #[.int .i64 a3_0, .int .i64 a3_1, .int .i64 a3_2, .int .i64 a3_3, .int .i64 a3_4, .int .i64 a3_5]] (by rfl) rfl rfl zM ?_
  refine hcall.mono ?_
  rintro e W16 ⟨rfl, hb⟩
  refine ⟨_, rfl, ?_⟩
  clear hcall hm
  replace hHeld := below_step hHeld hb
  replace BK1 := bK BK1 hb
  replace BK2 := bK BK2 hb
  replace HB := bH HB hb; clear hb
  refine hK.out _ _ hHeld (fun hHeld => ?_)
  clear hK K
  refine nr 40 ?_
  refine pu 17 (some 41) 262143 ?_; refine pu 18 (some 8) 524287 ?_
  refine dn (by kernel_rfl) ?_
  clear hHeld HBr rBK1 rBK2
  have c_BK1 := bcl BK1; have z_BK1 := bfr BK1
  have c_BK2 := bcl BK2; have z_BK2 := bfr BK2
  replace H := H.out
  cases H
  go_wp2
  go_ret
  exact ⟨rfl, HB.out⟩
 obtain ⟨c8_0, c8_1, c8_2⟩ := d3F c8
 clear c8
 (first | rw [c8_1] | rw [c8_2] | skip)
 replace H := ifD H; rcases H with ⟨c17, H⟩ | ⟨c17, H⟩
 rotate_left
 ·obtain ⟨c17_0, c17_1, c17_2⟩ := d3F c17
  clear c17
  (first | rw [c17_1] | rw [c17_2] | skip)
  replace H := obs H
  obtain ⟨t426, hm, H⟩ := H
  (try dsimp only at H)
  replace H := Aside0.mk H
  have hcall := spec_LeafHolds.calls k _ _ _ _ _ _ _ _ _ _ _ _ _ _ _ _ _ _ _ W2 (Kd.C_below HR0.out HB.out) HC0.out (Kd.C_below HR1.out HB.out) HC1.out (Kd.C_below HR2_3.out HB.out) HC2_3.out hm
  clear hm
  (go_wp2_with fail)
  refine hcall.mono ?_
  rintro e W26 ⟨rfl, hb⟩
  clear hcall
  replace BK1 := bK BK1 hb; replace c_BK1 := bcl BK1; replace z_BK1 := bfr BK1
  replace BK2 := bK BK2 hb; replace c_BK2 := bcl BK2; replace z_BK2 := bfr BK2
  replace HB := bH HB hb; clear hb
  replace H := H.out
  cases H
  go_wp2
  go_ret
  exact ⟨rfl, HB.out⟩
 obtain ⟨c17_0, c17_1, c17_2⟩ := d3T c17
 clear c17
 (first | rw [c17_1] | rw [c17_2] | skip)
 replace H := Aside0.mk H
 try go_wp2
 clear c_BK1 z_BK1; have rBK1 := BK1; replace BK1 := dK BK1
 clear c_BK2 z_BK2; have rBK2 := BK2; replace BK2 := dK BK2
 have HBr := HB; replace HB := dH HB
 refine stA (n := 19) (S := fun w' => Below W2.heap.size W2 w') (by kernel_rfl) rfl (below_drew1 (Below.refl _ W2)) (by kernel_rfl) (fun hHeld => ?_)
 generalize W2.drew = W18 at HB BK1 BK2 hHeld ⊢
 refine pu 0 (some 44) 1 ?_; refine pu 1 (some 45) 3 ?_; refine pu 2 (some 46) 7 ?_; refine ld 3 (some 47) 15 hHeld ?_ (hr := by (intro w' h_; have y_ := kD rBK1 h_; go_simp; with_reducible rfl))
 replace H := ifN H.out; obtain ⟨c19, H⟩ := H
 have c19_x0 := decT (by omega)
 have c19_0 := decT c19
 replace c19 := Aside0.mk c19
 (try rw [c19_0])
 have p422 : 0 ≤ (0 : Int) := (by omega)
 have q422 : 0 < (l2_3.length : Int) := (of_decide_eq_true (by assumption))
 obtain ⟨ad422, A422_3, c422_3, e422, hx422_0, hx422_1, hx422_2, hx422_3, hl422_3, hi422_3⟩ := at_T172 HR2_3.out 0 p422 q422
 cases e422
 have HR422_3 := Aside0.mk hi422_3; have HC422_3 := Aside0.mk hl422_3; clear hi422_3 hl422_3
 have hx422_0 : w.cell? ad422 = _ := hx422_0
 replace hx422_0 := Aside0.mk hx422_0
 have hx422_1 : w.cell? ⟨ad422.block, ad422.off + 1, none⟩ = _ := hx422_1
 replace hx422_1 := Aside0.mk hx422_1
 have hx422_2 : w.cell? ⟨ad422.block, ad422.off + 2, none⟩ = _ := hx422_2
 replace hx422_2 := Aside0.mk hx422_2
 have hx422_3 : w.cell? ⟨ad422.block, ad422.off + 3, none⟩ = _ := hx422_3
 replace hx422_3 := Aside0.mk hx422_3
 have r422 := eq_true p422; have s422 := eq_true q422; have z422 : (0 < l2_3.length) = True := eq_true (by omega)
 replace p422 := Aside0.mk p422; replace q422 := Aside0.mk q422
 replace H := obs H
 obtain ⟨t423, hm, H⟩ := H
 (try dsimp only at H)
 replace hm := Aside0.mk hm
 replace H := Aside0.mk H
 refine pu 4 (some 48) 31 ?_; refine ld 5 (some 49) 63 hHeld ?_ (hr := by (intro w' h_; have y0_ := xD HBr h_ hx422_0; have y1_ := xD HBr h_ hx422_1; have y2_ := xD HBr h_ hx422_2; have y3_ := xD HBr h_ hx422_3; go_simp; with_reducible rfl)); refine ld 6 (some 50) 127 hHeld ?_ (hr := by (intro w' h_; have y_ := kD rBK2 h_; go_simp; with_reducible rfl))
 refine on 7 (some 51) 255 (fun K hK => ?_)
 have hcall := ih k (by omega) _ _ _ _ _ _ _ _ _ _ _ _ _ _ _ _ _ _ _ W18 (Kd.C_below HR0.out HB.out) HC0.out (Kd.C_below HR1.out HB.out) HC1.out (Kd.C_below HR422_3.out HB.out) HC422_3.out hm.out
 refine goes_ Tryz.func366 (by kernel_rfl) rfl #[.slice A0 l0.length c0, .slice A1 l1.length c1, .agg #[.int .i64 ((rd_T172 l2_3 0).f0), .int .i64 ((rd_T172 l2_3 0).f1), .int .i64 ((rd_T172 l2_3 0).f2), .slice A422_3 ((rd_T172 l2_3 0).f3).length c422_3], .agg #[.int .i64 a3_0, .int .i64 a3_1, .int .i64 a3_2, .int .i64 a3_3, .int .i64 a3_4, .int .i64 a3_5]] (by rfl) rfl rfl zM ?_
 refine hcall.mono ?_
 rintro e W21 ⟨rfl, hb⟩
 refine ⟨_, rfl, ?_⟩
 clear hcall hm
 replace hHeld := below_step hHeld hb
 replace BK1 := bK BK1 hb
 replace BK2 := bK BK2 hb
 replace HB := bH HB hb; clear hb
 refine hK.out _ _ hHeld (fun hHeld => ?_)
 clear hK K
 refine nr 51 ?_
 replace H := ifD H.out; rcases H with ⟨c22, H⟩ | ⟨c22, H⟩
 ·subst c22
  replace H := Aside0.mk H
  refine pu 8 (some 52) 511 ?_; refine sk 9 (some 53) 1023 ?_; refine sk 10 (some 54) 2047 ?_; refine sk 11 (some 55) 4095 ?_; refine sk 12 (some 56) 8191 ?_; refine sk 13 (some 57) 16383 ?_; refine sk 14 (some 58) 32767 ?_; refine sk 15 (some 59) 65535 ?_; refine sk 16 (some 60) 131071 ?_; refine pu 17 (some 61) 262143 ?_; refine pu 18 (some 8) 524287 ?_
  refine dn (by kernel_rfl) ?_
  clear hHeld HBr rBK1 rBK2
  have c_BK1 := bcl BK1; have z_BK1 := bfr BK1
  have c_BK2 := bcl BK2; have z_BK2 := bfr BK2
  replace H := H.out
  cases H
  go_wp2
  go_ret
  exact ⟨rfl, HB.out⟩
 replace c22 := nT c22
 subst c22
 replace H := ifN H; obtain ⟨c23, H⟩ := H
 have c23_x0 := decT (by omega)
 have c23_0 := decT c23
 replace c23 := Aside0.mk c23
 (try rw [c23_0])
 have p424 : 0 ≤ (1 : Int) := (by omega)
 have q424 : 1 < (l2_3.length : Int) := (of_decide_eq_true (by assumption))
 obtain ⟨ad424, A424_3, c424_3, e424, hx424_0, hx424_1, hx424_2, hx424_3, hl424_3, hi424_3⟩ := at_T172 HR2_3.out 1 p424 q424
 obtain rfl : ad422 = ad424 := by injection e424
 have HR424_3 := Aside0.mk hi424_3; have HC424_3 := Aside0.mk hl424_3; clear hi424_3 hl424_3
 have hx424_0 : w.cell? ⟨ad422.block, ad422.off + 4, none⟩ = _ := hx424_0
 replace hx424_0 := Aside0.mk hx424_0
 have hx424_1 : w.cell? ⟨ad422.block, ad422.off + 5, none⟩ = _ := hx424_1
 replace hx424_1 := Aside0.mk hx424_1
 have hx424_2 : w.cell? ⟨ad422.block, ad422.off + 6, none⟩ = _ := hx424_2
 replace hx424_2 := Aside0.mk hx424_2
 have hx424_3 : w.cell? ⟨ad422.block, ad422.off + 7, none⟩ = _ := hx424_3
 replace hx424_3 := Aside0.mk hx424_3
 have r424 := eq_true p424; have s424 := eq_true q424; have z424 : (1 < l2_3.length) = True := eq_true (by omega)
 replace p424 := Aside0.mk p424; replace q424 := Aside0.mk q424
 replace H := obs H
 obtain ⟨t425, hm, H⟩ := H
 (try dsimp only at H)
 replace hm := Aside0.mk hm
 replace H := Aside0.mk H
 refine pu 8 (some 52) 511 ?_; refine pu 9 (some 53) 1023 ?_; refine pu 10 (some 54) 2047 ?_; refine pu 11 (some 55) 4095 ?_; refine ld 12 (some 56) 8191 hHeld ?_ (hr := by (intro w' h_; have y_ := kD rBK1 h_; go_simp; with_reducible rfl)); refine pu 13 (some 57) 16383 ?_; refine ld 14 (some 58) 32767 hHeld ?_ (hr := by (intro w' h_; have y0_ := xD HBr h_ hx424_0; have y1_ := xD HBr h_ hx424_1; have y2_ := xD HBr h_ hx424_2; have y3_ := xD HBr h_ hx424_3; go_simp; with_reducible rfl)); refine ld 15 (some 59) 65535 hHeld ?_ (hr := by (intro w' h_; have y_ := kD rBK2 h_; go_simp; with_reducible rfl))
 refine on 16 (some 60) 131071 (fun K hK => ?_)
 have hcall := ih k (by omega) _ _ _ _ _ _ _ _ _ _ _ _ _ _ _ _ _ _ _ W21 (Kd.C_below HR0.out HB.out) HC0.out (Kd.C_below HR1.out HB.out) HC1.out (Kd.C_below HR424_3.out HB.out) HC424_3.out hm.out
 refine goes_ Tryz.func366 (by kernel_rfl) rfl #[.slice A0 l0.length c0, .slice A1 l1.length c1, .agg #[.int .i64 ((rd_T172 l2_3 1).f0), .int .i64 ((rd_T172 l2_3 1).f1), .int .i64 ((rd_T172 l2_3 1).f2), .slice A424_3 ((rd_T172 l2_3 1).f3).length c424_3], .agg #[.int .i64 a3_0, .int .i64 a3_1, .int .i64 a3_2, .int .i64 a3_3, .int .i64 a3_4, .int .i64 a3_5]] (by rfl) rfl rfl zM ?_
 refine hcall.mono ?_
 rintro e W25 ⟨rfl, hb⟩
 refine ⟨_, rfl, ?_⟩
 clear hcall hm
 replace hHeld := below_step hHeld hb
 replace BK1 := bK BK1 hb
 replace BK2 := bK BK2 hb
 replace HB := bH HB hb; clear hb
 refine hK.out _ _ hHeld (fun hHeld => ?_)
 clear hK K
 refine nr 60 ?_
 refine pu 17 (some 61) 262143 ?_; refine pu 18 (some 8) 524287 ?_
 refine dn (by kernel_rfl) ?_
 clear hHeld HBr rBK1 rBK2
 have c_BK1 := bcl BK1; have z_BK1 := bfr BK1
 have c_BK2 := bcl BK2; have z_BK2 := bfr BK2
 replace H := H.out
 cases H
 go_wp2
 go_ret
 exact ⟨rfl, HB.out⟩
def spec_EvalCond.f (k : Nat) (l0 : List (S154)) (l1 : List (S136)) (a2_0 : Int) (a2_1 : Int) (a2_2 : Int) (l2_3 : List (S172)) (a3_0 : Int) (a3_1 : Int) (a3_2 : Int) (a3_3 : Int) (a3_4 : Int) (a3_5 : Int) : Option (Bool) := (spec_IsCond.f k a2_0 a2_1 a2_2 l2_3).bind fun t429 => (if t429 = true then ((spec_l18Eval.f k l0 l1 a2_0 a2_1 a2_2 l2_3 a3_0 a3_1 a3_2 a3_3 a3_4 a3_5).bind fun t430 => (some t430)) else (some false))
theorem spec_EvalCond.calls (k : Nat) (A0 : Option Addr) (c0 : Nat) (l0 : List (S154)) (A1 : Option Addr) (c1 : Nat) (l1 : List (S136)) (a2_0 : Int) (a2_1 : Int) (a2_2 : Int) (A2_3 : Option Addr) (c2_3 : Nat) (l2_3 : List (S172)) (a3_0 : Int) (a3_1 : Int) (a3_2 : Int) (a3_3 : Int) (a3_4 : Int) (a3_5 : Int) (r : Bool) (w : World) (hr0 : Kd.C k154 w A0 l0.length l0) (hc0 : l0.length ≤ c0) (hr1 : Kd.C k136 w A1 l1.length l1) (hc1 : l1.length ≤ c1) (hr2_3 : Kd.C k172 w A2_3 l2_3.length l2_3) (hc2_3 : l2_3.length ≤ c2_3) (h : spec_EvalCond.f k l0 l1 a2_0 a2_1 a2_2 l2_3 a3_0 a3_1 a3_2 a3_3 a3_4 a3_5 = some r) :
  Calls Tryz.prog 320 #[.slice A0 l0.length c0, .slice A1 l1.length c1, .agg #[.int .i64 a2_0, .int .i64 a2_1, .int .i64 a2_2, .slice A2_3 l2_3.length c2_3], .agg #[.int .i64 a3_0, .int .i64 a3_1, .int .i64 a3_2, .int .i64 a3_3, .int .i64 a3_4, .int .i64 a3_5]] w fun e w' => e = .returned (.bool r) ∧ Below w.heap.size w w' := by
 have HR0 := Aside0.mk hr0
 have HC0 := Aside0.mk hc0
 clear hr0 hc0
 have HR1 := Aside0.mk hr1
 have HC1 := Aside0.mk hc1
 clear hr1 hc1
 have HR2_3 := Aside0.mk hr2_3
 have HC2_3 := Aside0.mk hc2_3
 clear hr2_3 hc2_3
 have HB := Aside0.mk (Below.refl w.heap.size w)
 have H := h
 clear h
 unfold spec_EvalCond.f at H
 have hu41 := Tryz.underlying41
 have hu172 := Tryz.underlying172
 go_enter Tryz.func320, Tryz.ntmps320
 replace H := Aside0.mk H
 go_upto_region 1 with (first | ((with_reducible refine gate_dst (N := 6) rfl ?_); refine box_event ?hg (N := 6) ?hd (cs := #[.int .i64 a2_0, .int .i64 a2_1, .int .i64 a2_2, .slice A2_3 l2_3.length c2_3]) (t := 172) ?hr ?_; (case hd => rfl); (case hg => rfl); (case hr => first | (go_simp; done) | (go_simp; rfl)); intro gb1 hg W1 hbox hb; replace HB := bH HB hb; clear hb; have BK1 := Aside0.mk hbox; have c_BK1 := blk_cell hbox; have z_BK1 := blk_frozen hbox; clear hg hbox) | ((with_reducible refine gate_dst (N := 7) rfl ?_); refine box_event ?hg (N := 7) ?hd (cs := #[.int .i64 a3_0, .int .i64 a3_1, .int .i64 a3_2, .int .i64 a3_3, .int .i64 a3_4, .int .i64 a3_5]) (t := 41) ?hr ?_; (case hd => rfl); (case hg => rfl); (case hr => first | (go_simp; done) | (go_simp; rfl)); intro gb2 hg W2 hbox hb; replace BK1 := bK BK1 hb; replace c_BK1 := bcl BK1; replace z_BK1 := bfr BK1; replace HB := bH HB hb; clear hb; have BK2 := Aside0.mk hbox; have c_BK2 := blk_cell hbox; have z_BK2 := blk_frozen hbox; clear hg hbox))
 replace H := H.out
 replace H := obs H
 obtain ⟨t429, hm, H⟩ := H
 (try dsimp only at H)
 replace H := Aside0.mk H
 have hcall := spec_IsCond.calls k _ _ _ _ _ _ _ W2 (Kd.C_below HR2_3.out HB.out) HC2_3.out hm
 clear hm
 (go_wp2_with fail)
 refine hcall.mono ?_
 rintro e W3 ⟨rfl, hb⟩
 clear hcall
 replace BK1 := bK BK1 hb; replace c_BK1 := bcl BK1; replace z_BK1 := bfr BK1
 replace BK2 := bK BK2 hb; replace c_BK2 := bcl BK2; replace z_BK2 := bfr BK2
 replace HB := bH HB hb; clear hb
 replace H := ifD H.out; rcases H with ⟨c4, H⟩ | ⟨c4, H⟩
 rotate_left
 ·replace c4 := nT c4
  subst c4
  cases H
  go_wp2
  go_ret
  exact ⟨rfl, HB.out⟩
 subst c4
 replace H := obs H
 obtain ⟨t430, hm, H⟩ := H
 (try dsimp only at H)
 replace H := Aside0.mk H
 have hcall := spec_l18Eval.calls k _ _ _ _ _ _ _ _ _ _ _ _ _ _ _ _ _ _ _ W3 (Kd.C_below HR0.out HB.out) HC0.out (Kd.C_below HR1.out HB.out) HC1.out (Kd.C_below HR2_3.out HB.out) HC2_3.out hm
 clear hm
 (go_wp2_with fail)
 refine hcall.mono ?_
 rintro e W5 ⟨rfl, hb⟩
 clear hcall
 replace BK1 := bK BK1 hb; replace c_BK1 := bcl BK1; replace z_BK1 := bfr BK1
 replace BK2 := bK BK2 hb; replace c_BK2 := bcl BK2; replace z_BK2 := bfr BK2
 replace HB := bH HB hb; clear hb
 replace H := H.out
 cases H
 go_wp2
 go_ret
 exact ⟨rfl, HB.out⟩
def spec_RulesThatHold.l0 : Nat → List (S154) → List (S136) → List Int → Int → Int → List (S174) → Int → Int → Int → Int → Int → Int → Option (List Int)
 | 0, _, _, _, _, _, _, _, _, _, _, _, _ => none
 | k + 1, x0, x1, x9, x10, x432000, x432001, x433000, x433001, x433002, x433003, x433004, x433005 => if x10 < (x432001.length : Int) then (if 0 ≤ x10 then ((spec_IsFor.f ((rd_T174 x432001 x10).f0) ((rd_T174 x432001 x10).f1) ((rd_T174 x432001 x10).f2) ((rd_T174 x432001 x10).f3.f0) ((rd_T174 x432001 x10).f3.f1) ((rd_T174 x432001 x10).f3.f2) ((rd_T174 x432001 x10).f3.f3) x433003 x433004).bind fun t437 => (if t437 = true then ((spec_EvalCond.f k x0 x1 ((rd_T174 x432001 x10).f3.f0) ((rd_T174 x432001 x10).f3.f1) ((rd_T174 x432001 x10).f3.f2) ((rd_T174 x432001 x10).f3.f3) x433000 x433001 x433002 x433003 x433004 x433005).bind fun t439 => (if t439 = true then (if x9.length < 17592186044416 then (spec_RulesThatHold.l0 k x0 x1 (x9 ++ [x10]) (wrap64 (x10 + 1)) x432000 x432001 x433000 x433001 x433002 x433003 x433004 x433005) else (none)) else (spec_RulesThatHold.l0 k x0 x1 x9 (wrap64 (x10 + 1)) x432000 x432001 x433000 x433001 x433002 x433003 x433004 x433005))) else (spec_RulesThatHold.l0 k x0 x1 x9 (wrap64 (x10 + 1)) x432000 x432001 x433000 x433001 x433002 x433003 x433004 x433005))) else (none)) else (some x9)
def spec_RulesThatHold.f (k : Nat) (l0 : List (S154)) (l1 : List (S136)) (a2_0 : Int) (l2_1 : List (S174)) (a3_0 : Int) (a3_1 : Int) (a3_2 : Int) (a3_3 : Int) (a3_4 : Int) (a3_5 : Int) : Option (List Int) := spec_RulesThatHold.l0 k l0 l1 (([] : List Int)) 0 a2_0 l2_1 a3_0 a3_1 a3_2 a3_3 a3_4 a3_5
theorem spec_RulesThatHold.calls (k : Nat) (A0 : Option Addr) (c0 : Nat) (l0 : List (S154)) (A1 : Option Addr) (c1 : Nat) (l1 : List (S136)) (a2_0 : Int) (A2_1 : Option Addr) (c2_1 : Nat) (l2_1 : List (S174)) (a3_0 : Int) (a3_1 : Int) (a3_2 : Int) (a3_3 : Int) (a3_4 : Int) (a3_5 : Int) (r : List Int) (w : World) (hr0 : Kd.C k154 w A0 l0.length l0) (hc0 : l0.length ≤ c0) (hr1 : Kd.C k136 w A1 l1.length l1) (hc1 : l1.length ≤ c1) (hr2_1 : Kd.C k174 w A2_1 l2_1.length l2_1) (hc2_1 : l2_1.length ≤ c2_1) (h : spec_RulesThatHold.f k l0 l1 a2_0 l2_1 a3_0 a3_1 a3_2 a3_3 a3_4 a3_5 = some r) :
  Calls Tryz.prog 226 #[.slice A0 l0.length c0, .slice A1 l1.length c1, .agg #[.int .i64 a2_0, .slice A2_1 l2_1.length c2_1], .agg #[.int .i64 a3_0, .int .i64 a3_1, .int .i64 a3_2, .int .i64 a3_3, .int .i64 a3_4, .int .i64 a3_5]] w fun e w' => ∃ v0_ : Value, e = .returned (v0_) ∧ Kd.R (Kd.int .i64) 3 w' w.heap.size (fun _ => True) v0_ r ∧ Below w.heap.size w w' := by
 have HR0 := Aside0.mk hr0
 have HC0 := Aside0.mk hc0
 clear hr0 hc0
 have HR1 := Aside0.mk hr1
 have HC1 := Aside0.mk hc1
 clear hr1 hc1
 have HR2_1 := Aside0.mk hr2_1
 have HC2_1 := Aside0.mk hc2_1
 clear hr2_1 hc2_1
 have HB := Aside0.mk (Below.refl w.heap.size w)
 have H := h
 clear h
 unfold spec_RulesThatHold.f at H
 have hu39 := Tryz.underlying39
 have hu41 := Tryz.underlying41
 have hu172 := Tryz.underlying172
 have hu174 := Tryz.underlying174
 go_enter Tryz.func226, Tryz.ntmps226
 replace H := Aside0.mk H
 go_upto_region 1 with (first | ((with_reducible refine gate_dst (N := 6) rfl ?_); refine box_event ?hg (N := 6) ?hd (cs := #[.int .i64 a2_0, .slice A2_1 l2_1.length c2_1]) (t := 39) ?hr ?_; (case hd => rfl); (case hg => rfl); (case hr => first | (go_simp; done) | (go_simp; rfl)); intro gb1 hg W1 hbox hb; replace HB := bH HB hb; clear hb; have BK1 := Aside0.mk hbox; have c_BK1 := blk_cell hbox; have z_BK1 := blk_frozen hbox; clear hg hbox) | ((with_reducible refine gate_dst (N := 7) rfl ?_); refine box_event ?hg (N := 7) ?hd (cs := #[.int .i64 a3_0, .int .i64 a3_1, .int .i64 a3_2, .int .i64 a3_3, .int .i64 a3_4, .int .i64 a3_5]) (t := 41) ?hr ?_; (case hd => rfl); (case hg => rfl); (case hr => first | (go_simp; done) | (go_simp; rfl)); intro gb2 hg W2 hbox hb; replace BK1 := bK BK1 hb; replace c_BK1 := bcl BK1; replace z_BK1 := bfr BK1; replace HB := bH HB hb; clear hb; have BK2 := Aside0.mk hbox; have c_BK2 := blk_cell hbox; have z_BK2 := blk_frozen hbox; clear hg hbox))
 go_upto_region 2 with (first | ((with_reducible refine gate_dst (N := 11) rfl ?_); refine Kd.R_lit (Kd.int .i64) (w0 := W2) w.heap.size 3 ?hg (N := 11) ?hd (xs := ([] : List Int)) (inner := []) (ok := fun _ => True) (okp := fun _ => True) ?hr ?hp (fun _ hk => hk) trivial (Below.refl _ _) (below_size zB) (by simp) ?_; (case hd => rfl); (case hg => rfl); (case hr => first | (go_simp; done) | (go_simp; rfl)); (case hp => exact (Reps.none _ _)); intro v3_ W3 ho hb0_ hg_ hnew_; have hb : Below W2.heap.size W2 W3 := ⟨hb0_.os, hb0_.tape, hb0_.output, hb0_.size, fun k_ hk_ => hg_.block k_ hk_ (by simp)⟩; clear hg_ hnew_; obtain ⟨A3_0, c3_0, rfl⟩ := Kd.R_slice ho; obtain ⟨n3_0, hn3_0⟩ : ∃ n_, n_ = ([] : List Int).length := ⟨_, rfl⟩; rw [← hn3_0] at ho ⊢; replace hn3_0 := Aside0.mk hn3_0; have HO3_0 := Aside0.mk ho; replace BK1 := bK BK1 hb; replace c_BK1 := bcl BK1; replace z_BK1 := bfr BK1; replace BK2 := bK BK2 hb; replace c_BK2 := bcl BK2; replace z_BK2 := bfr BK2; replace HB := bH HB hb; clear hb; clear ho hb0_))
 go_wp2
 go_loopg [9, 10] k (fun kq v9 v10 w' => ∃ (x9_4 : List Int) (x10_4 : Int), v10 = .int .i64 x10_4 ∧ Aside0 (spec_RulesThatHold.l0 kq l0 l1 x9_4 x10_4 a2_0 l2_1 a3_0 a3_1 a3_2 a3_3 a3_4 a3_5 = some r) ∧ Aside0 (kq ≤ k) ∧ Aside0 (w'.heap[gb1]? = some (.cells #[.int .i64 a2_0, .slice A2_1 l2_1.length c2_1] 39 (0, 0))) ∧ Aside0 (w'.heap[gb2]? = some (.cells #[.int .i64 a3_0, .int .i64 a3_1, .int .i64 a3_2, .int .i64 a3_3, .int .i64 a3_4, .int .i64 a3_5] 41 (0, 0))) ∧ Aside0 (Kd.R (Kd.int .i64) 3 w' w.heap.size (fun _ => True) v9 x9_4) ∧ Aside0 (Below w.heap.size w w'))
 case atStart => exact ⟨(([] : List Int)), (0), zT, H, ⟨Nat.le_refl _⟩, BK1, BK2, ⟨Kd.R_mono HO3_0.out (fun _ _ => trivial)⟩, HB⟩
 case round =>
  clear H HB BK1 c_BK1 z_BK1 BK2 c_BK2 z_BK2 HO3_0
  obtain ⟨x9_4, x10_4, rfl, HA, Hk4, BK1, BK2, HOL9_4, HB⟩ := hrel
  obtain ⟨AL9_4, cL9_4, rfl⟩ := Kd.R_slice HOL9_4.out
  have c_BK1 := bcl BK1; have z_BK1 := bfr BK1
  have c_BK2 := bcl BK2; have z_BK2 := bfr BK2
  cases gk with
  | zero => exact absurd HA.out (by simp [spec_RulesThatHold.l0])
  | succ k4 =>
   have H := HA.out; clear HA; simp only [spec_RulesThatHold.l0] at H; replace H := ifD H; rcases H with ⟨c5, H⟩ | ⟨c5, H⟩; rotate_left
   ·have c5_0 := decF c5; replace c5 := Aside0.mk c5; (try rw [c5_0]); cases H; go_wp2; go_ret; exact ⟨_, rfl, Kd.R_mono HOL9_4.out (fun _ _ => trivial), HB.out⟩
   have c5_0 := decT c5; replace c5 := Aside0.mk c5; (try rw [c5_0]); replace H := Aside0.mk H; try go_wp2
   replace HOL9_4 := dR HOL9_4; clear c_BK1 z_BK1; have rBK1 := BK1; replace BK1 := dK BK1; clear c_BK2 z_BK2; have rBK2 := BK2; replace BK2 := dK BK2; have HBr := HB; replace HB := dH HB; refine stA (n := 22) (S := fun w' => Below wr.heap.size wr w') (by kernel_rfl) rfl (below_drew1 (Below.refl _ wr)) (by kernel_rfl) (fun hHeld => ?_); generalize wr.drew = W6 at HB BK1 BK2 HOL9_4 hHeld ⊢; refine pu 0 (some 19) 1 ?_; refine pu 2 (some 21) 5 ?_; refine ld 1 (some 20) 7 hHeld ?_ (hr := by (intro w' h_; have y_ := kD rBK1 h_; go_simp; with_reducible rfl)); replace H := ifN H.out; obtain ⟨c7, H⟩ := H; have c7_0 := decT c7; replace c7 := Aside0.mk c7; (try rw [c7_0]); have p436 : 0 ≤ (x10_4 : Int) := (of_decide_eq_true (by assumption)); have q436 : x10_4 < (l2_1.length : Int) := (of_decide_eq_true (by assumption)); obtain ⟨ad436, A436_6, c436_6, e436, hx436_0, hx436_1, hx436_2, hx436_3, hx436_4, hx436_5, hx436_6, hl436_6, hi436_6⟩ := at_T174 HR2_1.out x10_4 p436 q436; cases e436; have HR436_6 := Aside0.mk hi436_6; have HC436_6 := Aside0.mk hl436_6; clear hi436_6 hl436_6; replace hx436_0 := Aside0.mk hx436_0; replace hx436_1 := Aside0.mk hx436_1; replace hx436_2 := Aside0.mk hx436_2; replace hx436_3 := Aside0.mk hx436_3; replace hx436_4 := Aside0.mk hx436_4; replace hx436_5 := Aside0.mk hx436_5; replace hx436_6 := Aside0.mk hx436_6; have r436 := eq_true p436; have s436 := eq_true q436; replace p436 := Aside0.mk p436; replace q436 := Aside0.mk q436; replace H := obs H; obtain ⟨t437, hm, H⟩ := H; (try dsimp only at H); replace hm := Aside0.mk hm; replace H := Aside0.mk H; refine pu 3 (some 22) 15 ?_; refine pu 5 (some 24) 47 ?_; refine pu 7 (some 26) 175 ?_; refine ld 4 (some 23) 191 hHeld ?_ (hr := by (intro w' h_; have y0_ := xD HBr h_ hx436_0; have y1_ := xD HBr h_ hx436_1; have y2_ := xD HBr h_ hx436_2; have y3_ := xD HBr h_ hx436_3; have y4_ := xD HBr h_ hx436_4; have y5_ := xD HBr h_ hx436_5; have y6_ := xD HBr h_ hx436_6; go_simp; with_reducible rfl)); refine ld 6 (some 25) 255 hHeld ?_ (hr := by (intro w' h_; have y_ := kD rBK2 h_; go_simp; with_reducible rfl)); refine ld 8 (some 27) 511 hHeld ?_ (hr := by (intro w' h_; have y_ := kD rBK2 h_; go_simp; with_reducible rfl)); refine on 9 (some 28) 1023 (fun K hK => ?_); have hcall := spec_IsFor.calls _ _ _ _ _ _ _ _ _ _ _ _ W6 (Kd.C_below HR436_6.out HB.out) HC436_6.out hm.out; refine goes_ Tryz.func319 (by kernel_rfl) rfl #[.agg #[.int .i64 ((rd_T174 l2_1 x10_4).f0), .int .i64 ((rd_T174 l2_1 x10_4).f1), .int .i64 ((rd_T174 l2_1 x10_4).f2), .int .i64 ((rd_T174 l2_1 x10_4).f3.f0), .int .i64 ((rd_T174 l2_1 x10_4).f3.f1), .int .i64 ((rd_T174 l2_1 x10_4).f3.f2), .slice A436_6 ((rd_T174 l2_1 x10_4).f3.f3).length c436_6], .int .i64 a3_3, .int .i64 a3_4] (by rfl) rfl rfl zM ?_; refine hcall.mono ?_; rintro e W9 ⟨rfl, hb⟩; refine ⟨_, rfl, ?_⟩; clear hcall hm; replace hHeld := below_step hHeld hb; replace BK1 := bK BK1 hb; replace BK2 := bK BK2 hb; replace HOL9_4 := bR HOL9_4 hb; replace HB := bH HB hb; clear hb; refine hK.out _ _ hHeld (fun hHeld => ?_); clear hK K; refine nr 28 ?_; replace H := ifD H.out; rcases H with ⟨c10, H⟩ | ⟨c10, H⟩; rotate_left
   ·replace c10 := nT c10; subst c10; replace H := Aside0.mk H; refine pu 10 (some 29) 2047 ?_; refine sk 11 (some 30) 4095 ?_; refine sk 12 (some 31) 8191 ?_; refine sk 13 (some 32) 16383 ?_; refine sk 14 (some 33) 32767 ?_; refine sk 15 (some 34) 65535 ?_; refine sk 16 (some 35) 131071 ?_; refine sk 17 (some 36) 262143 ?_; refine sk 18 (some 37) 524287 ?_; refine sk 19 (some 38) 1048575 ?_; refine sk 20 (some 39) 2097151 ?_; refine pu 21 (some 40) 4194303 ?_; refine dn (by kernel_rfl) ?_; clear hHeld HBr rBK1 rBK2; have c_BK1 := bcl BK1; have z_BK1 := bfr BK1; have c_BK2 := bcl BK2; have z_BK2 := bfr BK2; go_wp2; go_roundg k4
    case measure => have := Hk4.out; omega
    case rel => exact ⟨(x9_4), (wrap64 (x10_4 + 1)), zT, H, ⟨by have := Hk4.out; omega⟩, BK1, BK2, ⟨Kd.R_mono HOL9_4.out (fun _ _ => trivial)⟩, HB⟩
   subst c10; replace H := obs H; obtain ⟨t439, hm, H⟩ := H; (try dsimp only at H); replace hm := Aside0.mk hm; replace H := Aside0.mk H; refine pu 10 (some 29) 2047 ?_; refine pu 11 (some 30) 4095 ?_; refine pu 12 (some 31) 8191 ?_; refine pu 13 (some 32) 16383 ?_; refine pu 15 (some 34) 49151 ?_; refine ld 14 (some 33) 65535 hHeld ?_ (hr := by (intro w' h_; have y_ := kD rBK1 h_; go_simp; with_reducible rfl)); refine pu 16 (some 35) 131071 ?_; refine pu 17 (some 36) 262143 ?_; refine ld 18 (some 37) 524287 hHeld ?_ (hr := by (intro w' h_; have y0_ := xD HBr h_ hx436_0; have y1_ := xD HBr h_ hx436_1; have y2_ := xD HBr h_ hx436_2; have y3_ := xD HBr h_ hx436_3; have y4_ := xD HBr h_ hx436_4; have y5_ := xD HBr h_ hx436_5; have y6_ := xD HBr h_ hx436_6; go_simp; with_reducible rfl)); refine ld 19 (some 38) 1048575 hHeld ?_ (hr := by (intro w' h_; have y_ := kD rBK2 h_; go_simp; with_reducible rfl)); refine on 20 (some 39) 2097151 (fun K hK => ?_); have hcall := spec_EvalCond.calls k4 _ _ _ _ _ _ _ _ _ _ _ _ _ _ _ _ _ _ _ W9 (Kd.C_below HR0.out HB.out) HC0.out (Kd.C_below HR1.out HB.out) HC1.out (Kd.C_below HR436_6.out HB.out) HC436_6.out hm.out; refine goes_ Tryz.func320 (by kernel_rfl) rfl #[.slice A0 l0.length c0, .slice A1 l1.length c1, .agg #[.int .i64 ((rd_T174 l2_1 x10_4).f3.f0), .int .i64 ((rd_T174 l2_1 x10_4).f3.f1), .int .i64 ((rd_T174 l2_1 x10_4).f3.f2), .slice A436_6 ((rd_T174 l2_1 x10_4).f3.f3).length c436_6], .agg #[.int .i64 a3_0, .int .i64 a3_1, .int .i64 a3_2, .int .i64 a3_3, .int .i64 a3_4, .int .i64 a3_5]] (by rfl) rfl rfl zM ?_; refine hcall.mono ?_; rintro e W12 ⟨rfl, hb⟩; refine ⟨_, rfl, ?_⟩; clear hcall hm; replace hHeld := below_step hHeld hb; replace BK1 := bK BK1 hb; replace BK2 := bK BK2 hb; replace HOL9_4 := bR HOL9_4 hb; replace HB := bH HB hb; clear hb; refine hK.out _ _ hHeld (fun hHeld => ?_); clear hK K; refine nr 39 ?_; refine pu 21 (some 40) 4194303 ?_; refine dn (by kernel_rfl) ?_; clear hHeld HBr rBK1 rBK2; have c_BK1 := bcl BK1; have z_BK1 := bfr BK1; have c_BK2 := bcl BK2; have z_BK2 := bfr BK2; replace H := ifD H.out; rcases H with ⟨c13, H⟩ | ⟨c13, H⟩; rotate_left
   ·replace c13 := nT c13; subst c13; replace H := Aside0.mk H; go_wp2; go_roundg k4
    case measure => have := Hk4.out; omega
    case rel => exact ⟨(x9_4), (wrap64 (x10_4 + 1)), zT, H, ⟨by have := Hk4.out; omega⟩, BK1, BK2, ⟨Kd.R_mono HOL9_4.out (fun _ _ => trivial)⟩, HB⟩
   subst c13; replace H := ifN H; obtain ⟨c14, H⟩ := H; have c14_0 := decT c14; replace c14 := Aside0.mk c14; (try rw [c14_0]); replace H := Aside0.mk H; go_upto_region 4 with (first | ((with_reducible refine gate_builtin (b := .append) (xs := #[.tmp 41, .tmp 43]) rfl ?_); at_builtin; refine Kd.R_append (Kd.int .i64) (w0 := w) w.heap.size rfl (.tmp 41) (.tmp 43) 177 3 (.int .i64 0) 8 rfl Tryz.underlying177 info3 rfl (by decide) (by omega) (.slice AL9_4 x9_4.length cL9_4) x9_4 x10_4 [.int .i64 x10_4] (fun _ => True) (fun _ => False) rfl rfl ?aP (fun _ hk => hk.elim) (fun _ _ => trivial) (zR HOL9_4) zB (below_size zB) ?aL ?_; (case aP => exact rfl); (case aL => have := c14.out; omega); intro v15_ W15 ho hb hg hat; have h_ := blk_grown (zX BK1) hg (Kd.R_ne HOL9_4.out BK1.out (by decide)); clear BK1 c_BK1 z_BK1; have BK1 := Aside0.mk h_; have c_BK1 := bcl BK1; have z_BK1 := bfr BK1; clear h_; have h_ := blk_grown (zX BK2) hg (Kd.R_ne HOL9_4.out BK2.out (by decide)); clear BK2 c_BK2 z_BK2; have BK2 := Aside0.mk h_; have c_BK2 := bcl BK2; have z_BK2 := bfr BK2; clear h_; clear HB; have HB := Aside0.mk hb; obtain ⟨A15_0, c15_0, rfl⟩ := Kd.R_slice ho; obtain ⟨n15_0, hn15_0⟩ : ∃ n_, n_ = (x9_4 ++ [x10_4]).length := ⟨_, rfl⟩; rw [← hn15_0] at ho ⊢; replace hn15_0 := Aside0.mk hn15_0; have HO15_0 := Aside0.mk ho; clear ho hb hg hat HOL9_4))
   go_wp2; go_roundg k4
   case measure => have := Hk4.out; omega
   case rel => exact ⟨((x9_4 ++ [x10_4])), (wrap64 (x10_4 + 1)), zT, H, ⟨by have := Hk4.out; omega⟩, BK1, BK2, ⟨Kd.R_mono HO15_0.out (fun _ _ => trivial)⟩, HB⟩
end Go.Proofs.YtmgfklmhelabcaaGreat.QFnExactSaveDecision
