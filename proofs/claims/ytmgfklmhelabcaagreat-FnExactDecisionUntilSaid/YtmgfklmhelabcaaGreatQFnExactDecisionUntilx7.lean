/- The machine side of FnExactDecisionUntil: what each function that it reaches computes, and that the machine's call gives just that. -/
import Derived.Test.YtmgfklmhelabcaaGreatQFnExactDecisionUntilx0
import Derived.Test.YtmgfklmhelabcaaGreatQFnExactDecisionUntilx3
import Derived.Test.YtmgfklmhelabcaaGreatQFnExactDecisionUntilx6
namespace Go.Proofs.YtmgfklmhelabcaaGreat.QFnExactDecisionUntil
open Go.RowKit Go.Proofs.YtmgfklmhelabcaaGreatW.PrintWords Go.Proofs.YtmgfklmhelabcaaGreatW.PrintLast Go.Proofs.YtmgfklmhelabcaaGreatW.PrintMore
attribute [local go_sem] max2_int min2_int max_two min_two max_three min_three max_four min_four
set_option maxHeartbeats 8000000
set_option maxRecDepth 100000
open Go.Proofs.YtmgfklmhelabcaaGreatM
set_option linter.unusedVariables false
set_option linter.unusedSimpArgs false
def spec_LeafHolds.f (k : Nat) (l0 : List (S154)) (l1 : List (S136)) (a2_0 : Int) (a2_1 : Int) (a2_2 : Int) (l2_3 : List (S172)) (a3_0 : Int) (a3_1 : Int) (a3_2 : Int) (a3_3 : Int) (a3_4 : Int) (a3_5 : Int) : Option (Bool) := if a2_0 = 1 then (some true) else (if a2_0 = 2 then ((spec_HasRole.f k l0 l1 a3_0 a2_1 a3_5 a2_2).bind fun t256 => (some t256)) else (if a2_0 = 3 then ((spec_FindFact.f k l1 2 a3_0 a3_1 a3_5 a2_2).bind fun t257 => (some (decide (t257 ≥ 0)))) else (if a2_0 = 4 then ((spec_BestValue.f k l1 3 a3_1 a3_5 a2_2).bind fun t258 => (some (decide (t258 ≥ a2_1)))) else (if a2_0 = 5 then ((spec_BestValue.f k l1 4 a3_2 a3_5 a2_2).bind fun t259 => (some (decide (t259 ≥ a2_1)))) else (if a2_0 = 6 then (some (decide (a3_5 ≤ a2_1))) else (some false))))))
theorem spec_LeafHolds.calls (k : Nat) (A0 : Option Addr) (c0 : Nat) (l0 : List (S154)) (A1 : Option Addr) (c1 : Nat) (l1 : List (S136)) (a2_0 : Int) (a2_1 : Int) (a2_2 : Int) (A2_3 : Option Addr) (c2_3 : Nat) (l2_3 : List (S172)) (a3_0 : Int) (a3_1 : Int) (a3_2 : Int) (a3_3 : Int) (a3_4 : Int) (a3_5 : Int) (r : Bool) (w : World) (hr0 : Kd.C k154 w A0 l0.length l0) (hc0 : l0.length ≤ c0) (hr1 : Kd.C k136 w A1 l1.length l1) (hc1 : l1.length ≤ c1) (hr2_3 : Kd.C k172 w A2_3 l2_3.length l2_3) (hc2_3 : l2_3.length ≤ c2_3) (h : spec_LeafHolds.f k l0 l1 a2_0 a2_1 a2_2 l2_3 a3_0 a3_1 a3_2 a3_3 a3_4 a3_5 = some r) :
  Calls Tryz.prog 385 #[.slice A0 l0.length c0, .slice A1 l1.length c1, .agg #[.int .i64 a2_0, .int .i64 a2_1, .int .i64 a2_2, .slice A2_3 l2_3.length c2_3], .agg #[.int .i64 a3_0, .int .i64 a3_1, .int .i64 a3_2, .int .i64 a3_3, .int .i64 a3_4, .int .i64 a3_5]] w fun e w' => e = .returned (.bool r) ∧ Below w.heap.size w w' := by
 have HR0 := Aside0.mk hr0
 have HC0 := Aside0.mk hc0
 clear hr0 hc0
 have HR1 := Aside0.mk hr1
 have HC1 := Aside0.mk hc1
 clear hr1 hc1
 have HR2_3 := Aside0.mk hr2_3
 have HC2_3 := Aside0.mk hc2_3
 clear hr2_3 hc2_3
 have HB := Aside0.mk (Below.refl w.heap.size w)
 have H := h
 clear h
 unfold spec_LeafHolds.f at H
 have hu41 := Tryz.underlying41
 have hu172 := Tryz.underlying172
 go_enter Tryz.func385, Tryz.ntmps385
 replace H := Aside0.mk H
 go_upto_region 1 with (first | ((with_reducible refine gate_dst (N := 6) rfl ?_); refine box_event ?hg (N := 6) ?hd (cs := #[.int .i64 a2_0, .int .i64 a2_1, .int .i64 a2_2, .slice A2_3 l2_3.length c2_3]) (t := 172) ?hr ?_; (case hd => rfl); (case hg => rfl); (case hr => first | (go_simp; done) | (go_simp; rfl)); intro gb1 hg W1 hbox hb; replace HB := bH HB hb; clear hb; have BK1 := Aside0.mk hbox; have c_BK1 := blk_cell hbox; have z_BK1 := blk_frozen hbox; clear hg hbox) | ((with_reducible refine gate_dst (N := 7) rfl ?_); refine box_event ?hg (N := 7) ?hd (cs := #[.int .i64 a3_0, .int .i64 a3_1, .int .i64 a3_2, .int .i64 a3_3, .int .i64 a3_4, .int .i64 a3_5]) (t := 41) ?hr ?_; (case hd => rfl); (case hg => rfl); (case hr => first | (go_simp; done) | (go_simp; rfl)); intro gb2 hg W2 hbox hb; replace BK1 := bK BK1 hb; replace c_BK1 := bcl BK1; replace z_BK1 := bfr BK1; replace HB := bH HB hb; clear hb; have BK2 := Aside0.mk hbox; have c_BK2 := blk_cell hbox; have z_BK2 := blk_frozen hbox; clear hg hbox))
 replace H := ifD H.out; rcases H with ⟨c3, H⟩ | ⟨c3, H⟩
 ·obtain ⟨c3_0, c3_1, c3_2⟩ := d3T c3
  clear c3
  (first | rw [c3_1] | rw [c3_2] | skip)
  cases H
  go_wp2
  go_ret
  exact ⟨rfl, HB.out⟩
 obtain ⟨c3_0, c3_1, c3_2⟩ := d3F c3
 clear c3
 (first | rw [c3_1] | rw [c3_2] | skip)
 replace H := ifD H; rcases H with ⟨c4, H⟩ | ⟨c4, H⟩
 ·obtain ⟨c4_0, c4_1, c4_2⟩ := d3T c4
  clear c4
  (first | rw [c4_1] | rw [c4_2] | skip)
  replace H := obs H
  obtain ⟨t256, hm, H⟩ := H
  (try dsimp only at H)
  replace H := Aside0.mk H
  have hcall := spec_HasRole.calls k _ _ _ _ _ _ _ _ _ _ _ W2 (Kd.C_below HR0.out HB.out) HC0.out (Kd.C_below HR1.out HB.out) HC1.out hm
  clear hm
  (go_wp2_with fail)
  refine hcall.mono ?_
  rintro e W5 ⟨rfl, hb⟩
  clear hcall
  replace BK1 := bK BK1 hb; replace c_BK1 := bcl BK1; replace z_BK1 := bfr BK1
  replace BK2 := bK BK2 hb; replace c_BK2 := bcl BK2; replace z_BK2 := bfr BK2
  replace HB := bH HB hb; clear hb
  replace H := H.out
  cases H
  go_wp2
  go_ret
  exact ⟨rfl, HB.out⟩
 obtain ⟨c4_0, c4_1, c4_2⟩ := d3F c4
 clear c4
 (first | rw [c4_1] | rw [c4_2] | skip)
 replace H := ifD H; rcases H with ⟨c6, H⟩ | ⟨c6, H⟩
 ·obtain ⟨c6_0, c6_1, c6_2⟩ := d3T c6
  clear c6
  (first | rw [c6_1] | rw [c6_2] | skip)
  replace H := obs H
  obtain ⟨t257, hm, H⟩ := H
  (try dsimp only at H)
  replace H := Aside0.mk H
  have hcall := spec_FindFact.calls k _ _ _ _ _ _ _ _ _ W2 (Kd.C_below HR1.out HB.out) HC1.out hm
  clear hm
  (go_wp2_with fail)
  refine hcall.mono ?_
  rintro e W7 ⟨rfl, hb⟩
  clear hcall
  replace BK1 := bK BK1 hb; replace c_BK1 := bcl BK1; replace z_BK1 := bfr BK1
  replace BK2 := bK BK2 hb; replace c_BK2 := bcl BK2; replace z_BK2 := bfr BK2
  replace HB := bH HB hb; clear hb
  replace H := H.out
  cases H
  go_wp2
  go_ret
  exact ⟨rfl, HB.out⟩
 obtain ⟨c6_0, c6_1, c6_2⟩ := d3F c6
 clear c6
 (first | rw [c6_1] | rw [c6_2] | skip)
 replace H := ifD H; rcases H with ⟨c8, H⟩ | ⟨c8, H⟩
 ·obtain ⟨c8_0, c8_1, c8_2⟩ := d3T c8
  clear c8
  (first | rw [c8_1] | rw [c8_2] | skip)
  replace H := Aside0.mk H
  try go_wp2
  clear c_BK1 z_BK1; have rBK1 := BK1; replace BK1 := dK BK1
  clear c_BK2 z_BK2; have rBK2 := BK2; replace BK2 := dK BK2
  have HBr := HB; replace HB := dH HB
  refine stA (n := 12) (S := fun w' => Below W2.heap.size W2 w') (by kernel_rfl) rfl (below_drew1 (Below.refl _ W2)) (by kernel_rfl) (fun hHeld => ?_)
  generalize W2.drew = W9 at HB BK1 BK2 hHeld ⊢
  replace H := H.out
  replace H := obs H
  obtain ⟨t258, hm, H⟩ := H
  (try dsimp only at H)
  replace hm := Aside0.mk hm
  replace H := Aside0.mk H
  refine pu 0 (some 41) 1 ?_; refine pu 1 (some 42) 3 ?_; refine pu 3 (some 44) 11 ?_; refine pu 5 (some 46) 43 ?_; refine ld 2 (some 43) 47 hHeld ?_ (hr := by (intro w' h_; have y_ := kD rBK2 h_; go_simp; with_reducible rfl)); refine ld 4 (some 45) 63 hHeld ?_ (hr := by (intro w' h_; have y_ := kD rBK2 h_; go_simp; with_reducible rfl)); refine ld 6 (some 47) 127 hHeld ?_ (hr := by (intro w' h_; have y_ := kD rBK1 h_; go_simp; with_reducible rfl))
  refine pu 8 (some 49) 383 ?_; refine ld 9 (some 50) 895 hHeld ?_ (hr := by (intro w' h_; have y_ := kD rBK1 h_; go_simp; with_reducible rfl))
  refine on 7 (some 48) 1023 (fun K hK => ?_)
  have hcall := spec_BestValue.calls k _ _ _ _ _ _ _ _ W9 (Kd.C_below HR1.out HB.out) HC1.out hm.out
  refine goes_ Tryz.func400 (by kernel_rfl) rfl #[.slice A1 l1.length c1, .int .i64 3, .int .i64 a3_1, .int .i64 a3_5, .int .i64 a2_2] (by rfl) rfl rfl (by (try simp only [List.map_toArray, List.map_cons, List.map_nil]); first | done | rfl) ?_
  refine hcall.mono ?_
  rintro e W11 ⟨rfl, hb⟩
  refine ⟨_, rfl, ?_⟩
  clear hcall hm
  replace hHeld := below_step hHeld hb
  replace BK1 := bK BK1 hb
  replace BK2 := bK BK2 hb
  replace HB := bH HB hb; clear hb
  refine hK.out _ _ hHeld (fun hHeld => ?_)
  clear hK K
  refine nr 48 ?_
  refine pu 10 (some 51) 2047 ?_; refine pu 11 (some 8) 4095 ?_
  refine dn (by kernel_rfl) ?_
  clear hHeld HBr rBK1 rBK2
  have c_BK1 := bcl BK1; have z_BK1 := bfr BK1
  have c_BK2 := bcl BK2; have z_BK2 := bfr BK2
  replace H := H.out
  cases H
  go_wp2
  go_ret
  exact ⟨rfl, HB.out⟩
 obtain ⟨c8_0, c8_1, c8_2⟩ := d3F c8
 clear c8
 (first | rw [c8_1] | rw [c8_2] | skip)
 replace H := ifD H; rcases H with ⟨c12, H⟩ | ⟨c12, H⟩
 rotate_left
 ·obtain ⟨c12_0, c12_1, c12_2⟩ := d3F c12
  clear c12
  (first | rw [c12_1] | rw [c12_2] | skip)
  replace H := ifD H; rcases H with ⟨c16, H⟩ | ⟨c16, H⟩
  ·obtain ⟨c16_0, c16_1, c16_2⟩ := d3T c16; clear c16; (first | rw [c16_1] | rw [c16_2] | skip); cases H; go_wp2; go_ret; exact ⟨rfl, HB.out⟩
  obtain ⟨c16_0, c16_1, c16_2⟩ := d3F c16
  clear c16
  (first | rw [c16_1] | rw [c16_2] | skip)
  cases H
  go_wp2
  go_ret
  exact ⟨rfl, HB.out⟩
 obtain ⟨c12_0, c12_1, c12_2⟩ := d3T c12
 clear c12
 (first | rw [c12_1] | rw [c12_2] | skip)
 replace H := Aside0.mk H
 try go_wp2
 clear c_BK1 z_BK1; have rBK1 := BK1; replace BK1 := dK BK1
 clear c_BK2 z_BK2; have rBK2 := BK2; replace BK2 := dK BK2
 have HBr := HB; replace HB := dH HB
 refine stA (n := 12) (S := fun w' => Below W2.heap.size W2 w') (by kernel_rfl) rfl (below_drew1 (Below.refl _ W2)) (by kernel_rfl) (fun hHeld => ?_)
 generalize W2.drew = W13 at HB BK1 BK2 hHeld ⊢
 replace H := H.out
 replace H := obs H
 obtain ⟨t259, hm, H⟩ := H
 (try dsimp only at H)
 replace hm := Aside0.mk hm
 replace H := Aside0.mk H
 refine pu 0 (some 54) 1 ?_; refine pu 1 (some 55) 3 ?_; refine pu 3 (some 57) 11 ?_; refine pu 5 (some 59) 43 ?_; refine ld 2 (some 56) 47 hHeld ?_ (hr := by (intro w' h_; have y_ := kD rBK2 h_; go_simp; with_reducible rfl)); refine ld 4 (some 58) 63 hHeld ?_ (hr := by (intro w' h_; have y_ := kD rBK2 h_; go_simp; with_reducible rfl)); refine ld 6 (some 60) 127 hHeld ?_ (hr := by (intro w' h_; have y_ := kD rBK1 h_; go_simp; with_reducible rfl))
 refine pu 8 (some 62) 383 ?_; refine ld 9 (some 63) 895 hHeld ?_ (hr := by (intro w' h_; have y_ := kD rBK1 h_; go_simp; with_reducible rfl))
 refine on 7 (some 61) 1023 (fun K hK => ?_)
 have hcall := spec_BestValue.calls k _ _ _ _ _ _ _ _ W13 (Kd.C_below HR1.out HB.out) HC1.out hm.out
 refine goes_ Tryz.func400 (by kernel_rfl) rfl #[.slice A1 l1.length c1, .int .i64 4, .int .i64 a3_2, .int .i64 a3_5, .int .i64 a2_2] (by rfl) rfl rfl (by (try simp only [List.map_toArray, List.map_cons, List.map_nil]); first | done | rfl) ?_
 refine hcall.mono ?_
 rintro e W15 ⟨rfl, hb⟩
 refine ⟨_, rfl, ?_⟩
 clear hcall hm
 replace hHeld := below_step hHeld hb
 replace BK1 := bK BK1 hb
 replace BK2 := bK BK2 hb
 replace HB := bH HB hb; clear hb
 refine hK.out _ _ hHeld (fun hHeld => ?_)
 clear hK K
 refine nr 61 ?_
 refine pu 10 (some 64) 2047 ?_; refine pu 11 (some 8) 4095 ?_
 refine dn (by kernel_rfl) ?_
 clear hHeld HBr rBK1 rBK2
 have c_BK1 := bcl BK1; have z_BK1 := bfr BK1
 have c_BK2 := bcl BK2; have z_BK2 := bfr BK2
 replace H := H.out
 cases H
 go_wp2
 go_ret
 exact ⟨rfl, HB.out⟩
def spec_l18Eval.f : Nat → List (S154) → List (S136) → Int → Int → Int → List (S172) → Int → Int → Int → Int → Int → Int → Option (Bool)
 | 0, _, _, _, _, _, _, _, _, _, _, _, _ => none
 | k + 1, l0, l1, a2_0, a2_1, a2_2, l2_3, a3_0, a3_1, a3_2, a3_3, a3_4, a3_5 => if a2_0 = 7 then (if 0 < (l2_3.length : Int) then ((spec_l18Eval.f k l0 l1 ((rd_T172 l2_3 0).f0) ((rd_T172 l2_3 0).f1) ((rd_T172 l2_3 0).f2) ((rd_T172 l2_3 0).f3) a3_0 a3_1 a3_2 a3_3 a3_4 a3_5).bind fun t263 => (some (!t263))) else (none)) else (if a2_0 = 8 then (if 0 < (l2_3.length : Int) then ((spec_l18Eval.f k l0 l1 ((rd_T172 l2_3 0).f0) ((rd_T172 l2_3 0).f1) ((rd_T172 l2_3 0).f2) ((rd_T172 l2_3 0).f3) a3_0 a3_1 a3_2 a3_3 a3_4 a3_5).bind fun t265 => (if t265 = true then (if 1 < (l2_3.length : Int) then ((spec_l18Eval.f k l0 l1 ((rd_T172 l2_3 1).f0) ((rd_T172 l2_3 1).f1) ((rd_T172 l2_3 1).f2) ((rd_T172 l2_3 1).f3) a3_0 a3_1 a3_2 a3_3 a3_4 a3_5).bind fun t267 => (some t267)) else (none)) else (some false))) else (none)) else (if a2_0 = 9 then (if 0 < (l2_3.length : Int) then ((spec_l18Eval.f k l0 l1 ((rd_T172 l2_3 0).f0) ((rd_T172 l2_3 0).f1) ((rd_T172 l2_3 0).f2) ((rd_T172 l2_3 0).f3) a3_0 a3_1 a3_2 a3_3 a3_4 a3_5).bind fun t269 => (if t269 = true then (some true) else (if 1 < (l2_3.length : Int) then ((spec_l18Eval.f k l0 l1 ((rd_T172 l2_3 1).f0) ((rd_T172 l2_3 1).f1) ((rd_T172 l2_3 1).f2) ((rd_T172 l2_3 1).f3) a3_0 a3_1 a3_2 a3_3 a3_4 a3_5).bind fun t271 => (some t271)) else (none)))) else (none)) else ((spec_LeafHolds.f k l0 l1 a2_0 a2_1 a2_2 l2_3 a3_0 a3_1 a3_2 a3_3 a3_4 a3_5).bind fun t272 => (some t272))))
theorem spec_l18Eval.calls (k : Nat) : ∀ (A0 : Option Addr) (c0 : Nat) (l0 : List (S154)) (A1 : Option Addr) (c1 : Nat) (l1 : List (S136)) (a2_0 : Int) (a2_1 : Int) (a2_2 : Int) (A2_3 : Option Addr) (c2_3 : Nat) (l2_3 : List (S172)) (a3_0 : Int) (a3_1 : Int) (a3_2 : Int) (a3_3 : Int) (a3_4 : Int) (a3_5 : Int) (r : Bool) (w : World) (hr0 : Kd.C k154 w A0 l0.length l0) (hc0 : l0.length ≤ c0) (hr1 : Kd.C k136 w A1 l1.length l1) (hc1 : l1.length ≤ c1) (hr2_3 : Kd.C k172 w A2_3 l2_3.length l2_3) (hc2_3 : l2_3.length ≤ c2_3) (h : spec_l18Eval.f k l0 l1 a2_0 a2_1 a2_2 l2_3 a3_0 a3_1 a3_2 a3_3 a3_4 a3_5 = some r),
  Calls Tryz.prog 366 #[.slice A0 l0.length c0, .slice A1 l1.length c1, .agg #[.int .i64 a2_0, .int .i64 a2_1, .int .i64 a2_2, .slice A2_3 l2_3.length c2_3], .agg #[.int .i64 a3_0, .int .i64 a3_1, .int .i64 a3_2, .int .i64 a3_3, .int .i64 a3_4, .int .i64 a3_5]] w fun e w' => e = .returned (.bool r) ∧ Below w.heap.size w w' := by
 induction k using Nat.strongRecOn with
 | _ k ih =>
 intro A0 c0 l0 A1 c1 l1 a2_0 a2_1 a2_2 A2_3 c2_3 l2_3 a3_0 a3_1 a3_2 a3_3 a3_4 a3_5 r w hr0 hc0 hr1 hc1 hr2_3 hc2_3 h
 cases k with
 | zero => exact absurd h (by simp [spec_l18Eval.f])
 | succ k =>
 simp only [spec_l18Eval.f] at h
 have HR0 := Aside0.mk hr0
 have HC0 := Aside0.mk hc0
 clear hr0 hc0
 have HR1 := Aside0.mk hr1
 have HC1 := Aside0.mk hc1
 clear hr1 hc1
 have HR2_3 := Aside0.mk hr2_3
 have HC2_3 := Aside0.mk hc2_3
 clear hr2_3 hc2_3
 have HB := Aside0.mk (Below.refl w.heap.size w)
 have H := h
 clear h
 have hu41 := Tryz.underlying41
 have hu172 := Tryz.underlying172
 go_enter Tryz.func366, Tryz.ntmps366
 replace H := Aside0.mk H
 go_upto_region 1 with (first | ((with_reducible refine gate_dst (N := 6) rfl ?_); refine box_event ?hg (N := 6) ?hd (cs := #[.int .i64 a2_0, .int .i64 a2_1, .int .i64 a2_2, .slice A2_3 l2_3.length c2_3]) (t := 172) ?hr ?_; (case hd => rfl); (case hg => rfl); (case hr => first | (go_simp; done) | (go_simp; rfl)); intro gb1 hg W1 hbox hb; replace HB := bH HB hb; clear hb; have BK1 := Aside0.mk hbox; have c_BK1 := blk_cell hbox; have z_BK1 := blk_frozen hbox; clear hg hbox) | ((with_reducible refine gate_dst (N := 7) rfl ?_); refine box_event ?hg (N := 7) ?hd (cs := #[.int .i64 a3_0, .int .i64 a3_1, .int .i64 a3_2, .int .i64 a3_3, .int .i64 a3_4, .int .i64 a3_5]) (t := 41) ?hr ?_; (case hd => rfl); (case hg => rfl); (case hr => first | (go_simp; done) | (go_simp; rfl)); intro gb2 hg W2 hbox hb; replace BK1 := bK BK1 hb; replace c_BK1 := bcl BK1; replace z_BK1 := bfr BK1; replace HB := bH HB hb; clear hb; have BK2 := Aside0.mk hbox; have c_BK2 := blk_cell hbox; have z_BK2 := blk_frozen hbox; clear hg hbox))
 replace H := ifD H.out; rcases H with ⟨c3, H⟩ | ⟨c3, H⟩
 ·obtain ⟨c3_0, c3_1, c3_2⟩ := d3T c3
  clear c3
  (first | rw [c3_1] | rw [c3_2] | skip)
  replace H := Aside0.mk H
  try go_wp2
  clear c_BK1 z_BK1; have rBK1 := BK1; replace BK1 := dK BK1
  clear c_BK2 z_BK2; have rBK2 := BK2; replace BK2 := dK BK2
  have HBr := HB; replace HB := dH HB
  refine stA (n := 10) (S := fun w' => Below W2.heap.size W2 w') (by kernel_rfl) rfl (below_drew1 (Below.refl _ W2)) (by kernel_rfl) (fun hHeld => ?_)
  generalize W2.drew = W4 at HB BK1 BK2 hHeld ⊢
  refine pu 0 (some 13) 1 ?_; refine pu 1 (some 14) 3 ?_; refine pu 2 (some 15) 7 ?_; refine ld 3 (some 16) 15 hHeld ?_ (hr := by (intro w' h_; have y_ := kD rBK1 h_; go_simp; with_reducible rfl))
  replace H := ifN H.out; obtain ⟨c5, H⟩ := H
  have c5_x0 : decide (0 < l2_3.length) = true := decide_eq_true (by omega)
  have c5_0 := decT c5
  replace c5 := Aside0.mk c5
  (try rw [c5_0])
  have p262 : 0 ≤ (0 : Int) := (by omega)
  have q262 : 0 < (l2_3.length : Int) := (of_decide_eq_true (by assumption))
  obtain ⟨ad262, A262_3, c262_3, e262, hx262_0, hx262_1, hx262_2, hx262_3, hl262_3, hi262_3⟩ := at_T172 HR2_3.out 0 p262 q262
  cases e262
  have HR262_3 := Aside0.mk hi262_3; have HC262_3 := Aside0.mk hl262_3; clear hi262_3 hl262_3
  have hx262_0 : w.cell? ad262 = _ := hx262_0
  replace hx262_0 := Aside0.mk hx262_0
  have hx262_1 : w.cell? ⟨ad262.block, ad262.off + 1, none⟩ = _ := hx262_1
  replace hx262_1 := Aside0.mk hx262_1
  have hx262_2 : w.cell? ⟨ad262.block, ad262.off + 2, none⟩ = _ := hx262_2
  replace hx262_2 := Aside0.mk hx262_2
  have hx262_3 : w.cell? ⟨ad262.block, ad262.off + 3, none⟩ = _ := hx262_3
  replace hx262_3 := Aside0.mk hx262_3
  have r262 := eq_true p262; have s262 := eq_true q262; have z262 : (0 < l2_3.length) = True := eq_true (by omega)
  replace p262 := Aside0.mk p262; replace q262 := Aside0.mk q262
  replace H := obs H
  obtain ⟨t263, hm, H⟩ := H
  (try dsimp only at H)
  replace hm := Aside0.mk hm
  replace H := Aside0.mk H
  refine pu 4 (some 17) 31 ?_; refine ld 5 (some 18) 63 hHeld ?_ (hr := by (intro w' h_; have y0_ := xD HBr h_ hx262_0; have y1_ := xD HBr h_ hx262_1; have y2_ := xD HBr h_ hx262_2; have y3_ := xD HBr h_ hx262_3; go_simp; with_reducible rfl)); refine ld 6 (some 19) 127 hHeld ?_ (hr := by (intro w' h_; have y_ := kD rBK2 h_; go_simp; with_reducible rfl))
  refine on 7 (some 20) 255 (fun K hK => ?_)
  have hcall := ih k (by omega) _ _ _ _ _ _ _ _ _ _ _ _ _ _ _ _ _ _ _ W4 (Kd.C_below HR0.out HB.out) HC0.out (Kd.C_below HR1.out HB.out) HC1.out (Kd.C_below HR262_3.out HB.out) HC262_3.out hm.out
  refine goes_ Tryz.func366 (by kernel_rfl) rfl #[.slice A0 l0.length c0, .slice A1 l1.length c1, .agg #[.int .i64 ((rd_T172 l2_3 0).f0), .int .i64 ((rd_T172 l2_3 0).f1), .int .i64 ((rd_T172 l2_3 0).f2), .slice A262_3 ((rd_T172 l2_3 0).f3).length c262_3], .agg #[.int .i64 a3_0, .int .i64 a3_1, .int .i64 a3_2, .int .i64 a3_3, .int .i64 a3_4, .int .i64 a3_5]] (by rfl) rfl rfl (by (try simp only [List.map_toArray, List.map_cons, List.map_nil]); first | done | rfl) ?_
  refine hcall.mono ?_
  rintro e W7 ⟨rfl, hb⟩
  refine ⟨_, rfl, ?_⟩
  clear hcall hm
  replace hHeld := below_step hHeld hb
  replace BK1 := bK BK1 hb
  replace BK2 := bK BK2 hb
  replace HB := bH HB hb; clear hb
  refine hK.out _ _ hHeld (fun hHeld => ?_)
  clear hK K
  refine nr 20 ?_
  refine pu 8 (some 21) 511 ?_; refine pu 9 (some 8) 1023 ?_
  refine dn (by kernel_rfl) ?_
  clear hHeld HBr rBK1 rBK2
  have c_BK1 := bcl BK1; have z_BK1 := bfr BK1
  have c_BK2 := bcl BK2; have z_BK2 := bfr BK2
  replace H := H.out
  cases H
  go_wp2
  go_ret
  exact ⟨rfl, HB.out⟩
 obtain ⟨c3_0, c3_1, c3_2⟩ := d3F c3
 clear c3
 (first | rw [c3_1] | rw [c3_2] | skip)
 replace H := ifD H; rcases H with ⟨c8, H⟩ | ⟨c8, H⟩
 ·obtain ⟨c8_0, c8_1, c8_2⟩ := d3T c8
  clear c8
  (first | rw [c8_1] | rw [c8_2] | skip)
  replace H := Aside0.mk H
  try go_wp2
  clear c_BK1 z_BK1; have rBK1 := BK1; replace BK1 := dK BK1
  clear c_BK2 z_BK2; have rBK2 := BK2; replace BK2 := dK BK2
  have HBr := HB; replace HB := dH HB
  refine stA (n := 19) (S := fun w' => Below W2.heap.size W2 w') (by kernel_rfl) rfl (below_drew1 (Below.refl _ W2)) (by kernel_rfl) (fun hHeld => ?_)
  generalize W2.drew = W9 at HB BK1 BK2 hHeld ⊢
  refine pu 0 (some 24) 1 ?_; refine pu 1 (some 25) 3 ?_; refine pu 2 (some 26) 7 ?_; refine ld 3 (some 27) 15 hHeld ?_ (hr := by (intro w' h_; have y_ := kD rBK1 h_; go_simp; with_reducible rfl))
  replace H := ifN H.out; obtain ⟨c10, H⟩ := H
  have c10_x0 : decide (0 < l2_3.length) = true := decide_eq_true (by omega)
  have c10_0 := decT c10
  replace c10 := Aside0.mk c10
  (try rw [c10_0])
  have p264 : 0 ≤ (0 : Int) := (by omega)
  have q264 : 0 < (l2_3.length : Int) := (of_decide_eq_true (by assumption))
  obtain ⟨ad264, A264_3, c264_3, e264, hx264_0, hx264_1, hx264_2, hx264_3, hl264_3, hi264_3⟩ := at_T172 HR2_3.out 0 p264 q264
  cases e264
  have HR264_3 := Aside0.mk hi264_3; have HC264_3 := Aside0.mk hl264_3; clear hi264_3 hl264_3
  have hx264_0 : w.cell? ad264 = _ := hx264_0
  replace hx264_0 := Aside0.mk hx264_0
  have hx264_1 : w.cell? ⟨ad264.block, ad264.off + 1, none⟩ = _ := hx264_1
  replace hx264_1 := Aside0.mk hx264_1
  have hx264_2 : w.cell? ⟨ad264.block, ad264.off + 2, none⟩ = _ := hx264_2
  replace hx264_2 := Aside0.mk hx264_2
  have hx264_3 : w.cell? ⟨ad264.block, ad264.off + 3, none⟩ = _ := hx264_3
  replace hx264_3 := Aside0.mk hx264_3
  have r264 := eq_true p264; have s264 := eq_true q264; have z264 : (0 < l2_3.length) = True := eq_true (by omega)
  replace p264 := Aside0.mk p264; replace q264 := Aside0.mk q264
  replace H := obs H
  obtain ⟨t265, hm, H⟩ := H
  (try dsimp only at H)
  replace hm := Aside0.mk hm
  replace H := Aside0.mk H
  refine pu 4 (some 28) 31 ?_; refine ld 5 (some 29) 63 hHeld ?_ (hr := by (intro w' h_; have y0_ := xD HBr h_ hx264_0; have y1_ := xD HBr h_ hx264_1; have y2_ := xD HBr h_ hx264_2; have y3_ := xD HBr h_ hx264_3; go_simp; with_reducible rfl)); refine ld 6 (some 30) 127 hHeld ?_ (hr := by (intro w' h_; have y_ := kD rBK2 h_; go_simp; with_reducible rfl))
  refine on 7 (some 31) 255 (fun K hK => ?_)
  have hcall := ih k (by omega) _ _ _ _ _ _ _ _ _ _ _ _ _ _ _ _ _ _ _ W9 (Kd.C_below HR0.out HB.out) HC0.out (Kd.C_below HR1.out HB.out) HC1.out (Kd.C_below HR264_3.out HB.out) HC264_3.out hm.out
  refine goes_ Tryz.func366 (by kernel_rfl) rfl #[.slice A0 l0.length c0, .slice A1 l1.length c1, .agg #[.int .i64 ((rd_T172 l2_3 0).f0), .int .i64 ((rd_T172 l2_3 0).f1), .int .i64 ((rd_T172 l2_3 0).f2), .slice A264_3 ((rd_T172 l2_3 0).f3).length c264_3], .agg #[.int .i64 a3_0, .int .i64 a3_1, .int .i64 a3_2, .int .i64 a3_3, .int .i64 a3_4, .int .i64 a3_5]] (by rfl) rfl rfl (by (try simp only [List.map_toArray, List.map_cons, List.map_nil]); first | done | rfl) ?_
  refine hcall.mono ?_
  rintro e W12 ⟨rfl, hb⟩
  refine ⟨_, rfl, ?_⟩
  clear hcall hm
  replace hHeld := below_step hHeld hb
  replace BK1 := bK BK1 hb
  replace BK2 := bK BK2 hb
  replace HB := bH HB hb; clear hb
  refine hK.out _ _ hHeld (fun hHeld => ?_)
  clear hK K
  refine nr 31 ?_
  replace H := ifD H.out; rcases H with ⟨c13, H⟩ | ⟨c13, H⟩
  rotate_left
  ·replace c13 := nT c13; subst c13; replace H := Aside0.mk H; refine pu 8 (some 32) 511 ?_; refine sk 9 (some 33) 1023 ?_; refine sk 10 (some 34) 2047 ?_; refine sk 11 (some 35) 4095 ?_; refine sk 12 (some 36) 8191 ?_; refine sk 13 (some 37) 16383 ?_; refine sk 14 (some 38) 32767 ?_; refine sk 15 (some 39) 65535 ?_; refine sk 16 (some 40) 131071 ?_; refine pu 17 (some 41) 262143 ?_; refine pu 18 (some 8) 524287 ?_; refine dn (by kernel_rfl) ?_; clear hHeld HBr rBK1 rBK2; have c_BK1 := bcl BK1; have z_BK1 := bfr BK1; have c_BK2 := bcl BK2; have z_BK2 := bfr BK2; replace H := H.out; cases H; go_wp2; go_ret; exact ⟨rfl, HB.out⟩
  subst c13
  replace H := ifN H; obtain ⟨c14, H⟩ := H
  have c14_x0 : decide (1 < l2_3.length) = true := decide_eq_true (by omega)
  have c14_0 := decT c14
  replace c14 := Aside0.mk c14
  (try rw [c14_0])
  have p266 : 0 ≤ (1 : Int) := (by omega)
  have q266 : 1 < (l2_3.length : Int) := (of_decide_eq_true (by assumption))
  obtain ⟨ad266, A266_3, c266_3, e266, hx266_0, hx266_1, hx266_2, hx266_3, hl266_3, hi266_3⟩ := at_T172 HR2_3.out 1 p266 q266
  obtain rfl : ad264 = ad266 := by injection e266
  have HR266_3 := Aside0.mk hi266_3; have HC266_3 := Aside0.mk hl266_3; clear hi266_3 hl266_3
  have hx266_0 : w.cell? ⟨ad264.block, ad264.off + 4, none⟩ = _ := hx266_0
  replace hx266_0 := Aside0.mk hx266_0
  have hx266_1 : w.cell? ⟨ad264.block, ad264.off + 5, none⟩ = _ := hx266_1
  replace hx266_1 := Aside0.mk hx266_1
  have hx266_2 : w.cell? ⟨ad264.block, ad264.off + 6, none⟩ = _ := hx266_2
  replace hx266_2 := Aside0.mk hx266_2
  have hx266_3 : w.cell? ⟨ad264.block, ad264.off + 7, none⟩ = _ := hx266_3
  replace hx266_3 := Aside0.mk hx266_3
  have r266 := eq_true p266; have s266 := eq_true q266; have z266 : (1 < l2_3.length) = True := eq_true (by omega)
  replace p266 := Aside0.mk p266; replace q266 := Aside0.mk q266
  replace H := obs H
  obtain ⟨t267, hm, H⟩ := H
  (try dsimp only at H)
  replace hm := Aside0.mk hm
  replace H := Aside0.mk H
  refine pu 8 (some 32) 511 ?_; refine pu 9 (some 33) 1023 ?_; refine pu 10 (some 34) 2047 ?_; refine pu 11 (some 35) 4095 ?_; refine ld 12 (some 36) 8191 hHeld ?_ (hr := by (intro w' h_; have y_ := kD rBK1 h_; go_simp; with_reducible rfl)); refine pu 13 (some 37) 16383 ?_; refine ld 14 (some 38) 32767 hHeld ?_ (hr := by (intro w' h_; have y0_ := xD HBr h_ hx266_0; have y1_ := xD HBr h_ hx266_1; have y2_ := xD HBr h_ hx266_2; have y3_ := xD HBr h_ hx266_3; go_simp; with_reducible rfl)); refine ld 15 (some 39) 65535 hHeld ?_ (hr := by (intro w' h_; have y_ := kD rBK2 h_; go_simp; with_reducible rfl))
  refine on 16 (some 40) 131071 (fun K hK => ?_)
  have hcall := ih k (by omega) _ _ _ _ _ _ _ _ _ _ _ _ _ _ _ _ _ _ _ W12 (Kd.C_below HR0.out HB.out) HC0.out (Kd.C_below HR1.out HB.out) HC1.out (Kd.C_below HR266_3.out HB.out) HC266_3.out hm.out
  refine goes_ Tryz.func366 (by kernel_rfl) rfl #[.slice A0 l0.length c0, .slice A1 l1.length c1, .agg #[.int .i64 ((rd_T172 l2_3 1).f0), .int .i64 ((rd_T172 l2_3 1).f1), .int .i64 ((rd_T172 l2_3 1).f2), .slice A266_3 ((rd_T172 l2_3 1).f3).length c266_3], .agg #[.int .i64 a3_0, .int .i64 a3_1, .int .i64 a3_2, .int .i64 a3_3, .int .i64 a3_4, .int .i64 a3_5]] (by rfl) rfl rfl (by (try simp only [List.map_toArray, List.map_cons, List.map_nil]); first | done | rfl) ?_
  refine hcall.mono ?_
  rintro e W16 ⟨rfl, hb⟩
  refine ⟨_, rfl, ?_⟩
  clear hcall hm
  replace hHeld := below_step hHeld hb
  replace BK1 := bK BK1 hb
  replace BK2 := bK BK2 hb
  replace HB := bH HB hb; clear hb
  refine hK.out _ _ hHeld (fun hHeld => ?_)
  clear hK K
  refine nr 40 ?_
  refine pu 17 (some 41) 262143 ?_; refine pu 18 (some 8) 524287 ?_
  refine dn (by kernel_rfl) ?_
  clear hHeld HBr rBK1 rBK2
  have c_BK1 := bcl BK1; have z_BK1 := bfr BK1
  have c_BK2 := bcl BK2; have z_BK2 := bfr BK2
  replace H := H.out
  cases H
  go_wp2
  go_ret
  exact ⟨rfl, HB.out⟩
 obtain ⟨c8_0, c8_1, c8_2⟩ := d3F c8
 clear c8
 (first | rw [c8_1] | rw [c8_2] | skip)
 replace H := ifD H; rcases H with ⟨c17, H⟩ | ⟨c17, H⟩
 rotate_left
 ·obtain ⟨c17_0, c17_1, c17_2⟩ := d3F c17
  clear c17
  (first | rw [c17_1] | rw [c17_2] | skip)
  replace H := obs H
  obtain ⟨t272, hm, H⟩ := H
  (try dsimp only at H)
  replace H := Aside0.mk H
  have hcall := spec_LeafHolds.calls k _ _ _ _ _ _ _ _ _ _ _ _ _ _ _ _ _ _ _ W2 (Kd.C_below HR0.out HB.out) HC0.out (Kd.C_below HR1.out HB.out) HC1.out (Kd.C_below HR2_3.out HB.out) HC2_3.out hm
  clear hm
  (go_wp2_with fail)
  refine hcall.mono ?_
  rintro e W26 ⟨rfl, hb⟩
  clear hcall
  replace BK1 := bK BK1 hb; replace c_BK1 := bcl BK1; replace z_BK1 := bfr BK1
  replace BK2 := bK BK2 hb; replace c_BK2 := bcl BK2; replace z_BK2 := bfr BK2
  replace HB := bH HB hb; clear hb
  replace H := H.out
  cases H
  go_wp2
  go_ret
  exact ⟨rfl, HB.out⟩
 obtain ⟨c17_0, c17_1, c17_2⟩ := d3T c17
 clear c17
 (first | rw [c17_1] | rw [c17_2] | skip)
 replace H := Aside0.mk H
 try go_wp2
 clear c_BK1 z_BK1; have rBK1 := BK1; replace BK1 := dK BK1
 clear c_BK2 z_BK2; have rBK2 := BK2; replace BK2 := dK BK2
 have HBr := HB; replace HB := dH HB
 refine stA (n := 19) (S := fun w' => Below W2.heap.size W2 w') (by kernel_rfl) rfl (below_drew1 (Below.refl _ W2)) (by kernel_rfl) (fun hHeld => ?_)
 generalize W2.drew = W18 at HB BK1 BK2 hHeld ⊢
 refine pu 0 (some 44) 1 ?_; refine pu 1 (some 45) 3 ?_; refine pu 2 (some 46) 7 ?_; refine ld 3 (some 47) 15 hHeld ?_ (hr := by (intro w' h_; have y_ := kD rBK1 h_; go_simp; with_reducible rfl))
 replace H := ifN H.out; obtain ⟨c19, H⟩ := H
 have c19_x0 : decide (0 < l2_3.length) = true := decide_eq_true (by omega)
 have c19_0 := decT c19
 replace c19 := Aside0.mk c19
 (try rw [c19_0])
 have p268 : 0 ≤ (0 : Int) := (by omega)
 have q268 : 0 < (l2_3.length : Int) := (of_decide_eq_true (by assumption))
 obtain ⟨ad268, A268_3, c268_3, e268, hx268_0, hx268_1, hx268_2, hx268_3, hl268_3, hi268_3⟩ := at_T172 HR2_3.out 0 p268 q268
 cases e268
 have HR268_3 := Aside0.mk hi268_3; have HC268_3 := Aside0.mk hl268_3; clear hi268_3 hl268_3
 have hx268_0 : w.cell? ad268 = _ := hx268_0
 replace hx268_0 := Aside0.mk hx268_0
 have hx268_1 : w.cell? ⟨ad268.block, ad268.off + 1, none⟩ = _ := hx268_1
 replace hx268_1 := Aside0.mk hx268_1
 have hx268_2 : w.cell? ⟨ad268.block, ad268.off + 2, none⟩ = _ := hx268_2
 replace hx268_2 := Aside0.mk hx268_2
 have hx268_3 : w.cell? ⟨ad268.block, ad268.off + 3, none⟩ = _ := hx268_3
 replace hx268_3 := Aside0.mk hx268_3
 have r268 := eq_true p268; have s268 := eq_true q268; have z268 : (0 < l2_3.length) = True := eq_true (by omega)
 replace p268 := Aside0.mk p268; replace q268 := Aside0.mk q268
 replace H := obs H
 obtain ⟨t269, hm, H⟩ := H
 (try dsimp only at H)
 replace hm := Aside0.mk hm
 replace H := Aside0.mk H
 refine pu 4 (some 48) 31 ?_; refine ld 5 (some 49) 63 hHeld ?_ (hr := by (intro w' h_; have y0_ := xD HBr h_ hx268_0; have y1_ := xD HBr h_ hx268_1; have y2_ := xD HBr h_ hx268_2; have y3_ := xD HBr h_ hx268_3; go_simp; with_reducible rfl)); refine ld 6 (some 50) 127 hHeld ?_ (hr := by (intro w' h_; have y_ := kD rBK2 h_; go_simp; with_reducible rfl))
 refine on 7 (some 51) 255 (fun K hK => ?_)
 have hcall := ih k (by omega) _ _ _ _ _ _ _ _ _ _ _ _ _ _ _ _ _ _ _ W18 (Kd.C_below HR0.out HB.out) HC0.out (Kd.C_below HR1.out HB.out) HC1.out (Kd.C_below HR268_3.out HB.out) HC268_3.out hm.out
 refine goes_ Tryz.func366 (by kernel_rfl) rfl #[.slice A0 l0.length c0, .slice A1 l1.length c1, .agg #[.int .i64 ((rd_T172 l2_3 0).f0), .int .i64 ((rd_T172 l2_3 0).f1), .int .i64 ((rd_T172 l2_3 0).f2), .slice A268_3 ((rd_T172 l2_3 0).f3).length c268_3], .agg #[.int .i64 a3_0, .int .i64 a3_1, .int .i64 a3_2, .int .i64 a3_3, .int .i64 a3_4, .int .i64 a3_5]] (by rfl) rfl rfl (by (try simp only [List.map_toArray, List.map_cons, List.map_nil]); first | done | rfl) ?_
 refine hcall.mono ?_
 rintro e W21 ⟨rfl, hb⟩
 refine ⟨_, rfl, ?_⟩
 clear hcall hm
 replace hHeld := below_step hHeld hb
 replace BK1 := bK BK1 hb
 replace BK2 := bK BK2 hb
 replace HB := bH HB hb; clear hb
 refine hK.out _ _ hHeld (fun hHeld => ?_)
 clear hK K
 refine nr 51 ?_
 replace H := ifD H.out; rcases H with ⟨c22, H⟩ | ⟨c22, H⟩
 ·subst c22
  replace H := Aside0.mk H
  refine pu 8 (some 52) 511 ?_; refine sk 9 (some 53) 1023 ?_; refine sk 10 (some 54) 2047 ?_; refine sk 11 (some 55) 4095 ?_; refine sk 12 (some 56) 8191 ?_; refine sk 13 (some 57) 16383 ?_; refine sk 14 (some 58) 32767 ?_; refine sk 15 (some 59) 65535 ?_; refine sk 16 (some 60) 131071 ?_; refine pu 17 (some 61) 262143 ?_; refine pu 18 (some 8) 524287 ?_
  refine dn (by kernel_rfl) ?_
  clear hHeld HBr rBK1 rBK2
  have c_BK1 := bcl BK1; have z_BK1 := bfr BK1
  have c_BK2 := bcl BK2; have z_BK2 := bfr BK2
  replace H := H.out
  cases H
  go_wp2
  go_ret
  exact ⟨rfl, HB.out⟩
 replace c22 := nT c22
 subst c22
 replace H := ifN H; obtain ⟨c23, H⟩ := H
 have c23_x0 : decide (1 < l2_3.length) = true := decide_eq_true (by omega)
 have c23_0 := decT c23
 replace c23 := Aside0.mk c23
 (try rw [c23_0])
 have p270 : 0 ≤ (1 : Int) := (by omega)
 have q270 : 1 < (l2_3.length : Int) := (of_decide_eq_true (by assumption))
 obtain ⟨ad270, A270_3, c270_3, e270, hx270_0, hx270_1, hx270_2, hx270_3, hl270_3, hi270_3⟩ := at_T172 HR2_3.out 1 p270 q270
 obtain rfl : ad268 = ad270 := by injection e270
 have HR270_3 := Aside0.mk hi270_3; have HC270_3 := Aside0.mk hl270_3; clear hi270_3 hl270_3
 have hx270_0 : w.cell? ⟨ad268.block, ad268.off + 4, none⟩ = _ := hx270_0
 replace hx270_0 := Aside0.mk hx270_0
 have hx270_1 : w.cell? ⟨ad268.block, ad268.off + 5, none⟩ = _ := hx270_1
 replace hx270_1 := Aside0.mk hx270_1
 have hx270_2 : w.cell? ⟨ad268.block, ad268.off + 6, none⟩ = _ := hx270_2
 replace hx270_2 := Aside0.mk hx270_2
 have hx270_3 : w.cell? ⟨ad268.block, ad268.off + 7, none⟩ = _ := hx270_3
 replace hx270_3 := Aside0.mk hx270_3
 have r270 := eq_true p270; have s270 := eq_true q270; have z270 : (1 < l2_3.length) = True := eq_true (by omega)
 replace p270 := Aside0.mk p270; replace q270 := Aside0.mk q270
 replace H := obs H
 obtain ⟨t271, hm, H⟩ := H
 (try dsimp only at H)
 replace hm := Aside0.mk hm
 replace H := Aside0.mk H
 refine pu 8 (some 52) 511 ?_; refine pu 9 (some 53) 1023 ?_; refine pu 10 (some 54) 2047 ?_; refine pu 11 (some 55) 4095 ?_; refine ld 12 (some 56) 8191 hHeld ?_ (hr := by (intro w' h_; have y_ := kD rBK1 h_; go_simp; with_reducible rfl)); refine pu 13 (some 57) 16383 ?_; refine ld 14 (some 58) 32767 hHeld ?_ (hr := by (intro w' h_; have y0_ := xD HBr h_ hx270_0; have y1_ := xD HBr h_ hx270_1; have y2_ := xD HBr h_ hx270_2; have y3_ := xD HBr h_ hx270_3; go_simp; with_reducible rfl)); refine ld 15 (some 59) 65535 hHeld ?_ (hr := by (intro w' h_; have y_ := kD rBK2 h_; go_simp; with_reducible rfl))
 refine on 16 (some 60) 131071 (fun K hK => ?_)
 have hcall := ih k (by omega) _ _ _ _ _ _ _ _ _ _ _ _ _ _ _ _ _ _ _ W21 (Kd.C_below HR0.out HB.out) HC0.out (Kd.C_below HR1.out HB.out) HC1.out (Kd.C_below HR270_3.out HB.out) HC270_3.out hm.out
 refine goes_ Tryz.func366 (by kernel_rfl) rfl #[.slice A0 l0.length c0, .slice A1 l1.length c1, .agg #[.int .i64 ((rd_T172 l2_3 1).f0), .int .i64 ((rd_T172 l2_3 1).f1), .int .i64 ((rd_T172 l2_3 1).f2), .slice A270_3 ((rd_T172 l2_3 1).f3).length c270_3], .agg #[.int .i64 a3_0, .int .i64 a3_1, .int .i64 a3_2, .int .i64 a3_3, .int .i64 a3_4, .int .i64 a3_5]] (by rfl) rfl rfl (by (try simp only [List.map_toArray, List.map_cons, List.map_nil]); first | done | rfl) ?_
 refine hcall.mono ?_
 rintro e W25 ⟨rfl, hb⟩
 refine ⟨_, rfl, ?_⟩
 clear hcall hm
 replace hHeld := below_step hHeld hb
 replace BK1 := bK BK1 hb
 replace BK2 := bK BK2 hb
 replace HB := bH HB hb; clear hb
 refine hK.out _ _ hHeld (fun hHeld => ?_)
 clear hK K
 refine nr 60 ?_
 refine pu 17 (some 61) 262143 ?_; refine pu 18 (some 8) 524287 ?_
 refine dn (by kernel_rfl) ?_
 clear hHeld HBr rBK1 rBK2
 have c_BK1 := bcl BK1; have z_BK1 := bfr BK1
 have c_BK2 := bcl BK2; have z_BK2 := bfr BK2
 replace H := H.out
 cases H
 go_wp2
 go_ret
 exact ⟨rfl, HB.out⟩
def spec_EvalCond.f (k : Nat) (l0 : List (S154)) (l1 : List (S136)) (a2_0 : Int) (a2_1 : Int) (a2_2 : Int) (l2_3 : List (S172)) (a3_0 : Int) (a3_1 : Int) (a3_2 : Int) (a3_3 : Int) (a3_4 : Int) (a3_5 : Int) : Option (Bool) := (spec_IsCond.f k a2_0 a2_1 a2_2 l2_3).bind fun t275 => (if t275 = true then ((spec_l18Eval.f k l0 l1 a2_0 a2_1 a2_2 l2_3 a3_0 a3_1 a3_2 a3_3 a3_4 a3_5).bind fun t276 => (some t276)) else (some false))
theorem spec_EvalCond.calls (k : Nat) (A0 : Option Addr) (c0 : Nat) (l0 : List (S154)) (A1 : Option Addr) (c1 : Nat) (l1 : List (S136)) (a2_0 : Int) (a2_1 : Int) (a2_2 : Int) (A2_3 : Option Addr) (c2_3 : Nat) (l2_3 : List (S172)) (a3_0 : Int) (a3_1 : Int) (a3_2 : Int) (a3_3 : Int) (a3_4 : Int) (a3_5 : Int) (r : Bool) (w : World) (hr0 : Kd.C k154 w A0 l0.length l0) (hc0 : l0.length ≤ c0) (hr1 : Kd.C k136 w A1 l1.length l1) (hc1 : l1.length ≤ c1) (hr2_3 : Kd.C k172 w A2_3 l2_3.length l2_3) (hc2_3 : l2_3.length ≤ c2_3) (h : spec_EvalCond.f k l0 l1 a2_0 a2_1 a2_2 l2_3 a3_0 a3_1 a3_2 a3_3 a3_4 a3_5 = some r) :
  Calls Tryz.prog 320 #[.slice A0 l0.length c0, .slice A1 l1.length c1, .agg #[.int .i64 a2_0, .int .i64 a2_1, .int .i64 a2_2, .slice A2_3 l2_3.length c2_3], .agg #[.int .i64 a3_0, .int .i64 a3_1, .int .i64 a3_2, .int .i64 a3_3, .int .i64 a3_4, .int .i64 a3_5]] w fun e w' => e = .returned (.bool r) ∧ Below w.heap.size w w' := by
 have HR0 := Aside0.mk hr0
 have HC0 := Aside0.mk hc0
 clear hr0 hc0
 have HR1 := Aside0.mk hr1
 have HC1 := Aside0.mk hc1
 clear hr1 hc1
 have HR2_3 := Aside0.mk hr2_3
 have HC2_3 := Aside0.mk hc2_3
 clear hr2_3 hc2_3
 have HB := Aside0.mk (Below.refl w.heap.size w)
 have H := h
 clear h
 unfold spec_EvalCond.f at H
 have hu41 := Tryz.underlying41
 have hu172 := Tryz.underlying172
 go_enter Tryz.func320, Tryz.ntmps320
 replace H := Aside0.mk H
 go_upto_region 1 with (first | ((with_reducible refine gate_dst (N := 6) rfl ?_); refine box_event ?hg (N := 6) ?hd (cs := #[.int .i64 a2_0, .int .i64 a2_1, .int .i64 a2_2, .slice A2_3 l2_3.length c2_3]) (t := 172) ?hr ?_; (case hd => rfl); (case hg => rfl); (case hr => first | (go_simp; done) | (go_simp; rfl)); intro gb1 hg W1 hbox hb; replace HB := bH HB hb; clear hb; have BK1 := Aside0.mk hbox; have c_BK1 := blk_cell hbox; have z_BK1 := blk_frozen hbox; clear hg hbox) | ((with_reducible refine gate_dst (N := 7) rfl ?_); refine box_event ?hg (N := 7) ?hd (cs := #[.int .i64 a3_0, .int .i64 a3_1, .int .i64 a3_2, .int .i64 a3_3, .int .i64 a3_4, .int .i64 a3_5]) (t := 41) ?hr ?_; (case hd => rfl); (case hg => rfl); (case hr => first | (go_simp; done) | (go_simp; rfl)); intro gb2 hg W2 hbox hb; replace BK1 := bK BK1 hb; replace c_BK1 := bcl BK1; replace z_BK1 := bfr BK1; replace HB := bH HB hb; clear hb; have BK2 := Aside0.mk hbox; have c_BK2 := blk_cell hbox; have z_BK2 := blk_frozen hbox; clear hg hbox))
 replace H := H.out
 replace H := obs H
 obtain ⟨t275, hm, H⟩ := H
 (try dsimp only at H)
 replace H := Aside0.mk H
 have hcall := spec_IsCond.calls k _ _ _ _ _ _ _ W2 (Kd.C_below HR2_3.out HB.out) HC2_3.out hm
 clear hm
 (go_wp2_with fail)
 refine hcall.mono ?_
 rintro e W3 ⟨rfl, hb⟩
 clear hcall
 replace BK1 := bK BK1 hb; replace c_BK1 := bcl BK1; replace z_BK1 := bfr BK1
 replace BK2 := bK BK2 hb; replace c_BK2 := bcl BK2; replace z_BK2 := bfr BK2
 replace HB := bH HB hb; clear hb
 replace H := ifD H.out; rcases H with ⟨c4, H⟩ | ⟨c4, H⟩
 rotate_left
 ·replace c4 := nT c4
  subst c4
  cases H
  go_wp2
  go_ret
  exact ⟨rfl, HB.out⟩
 subst c4
 replace H := obs H
 obtain ⟨t276, hm, H⟩ := H
 (try dsimp only at H)
 replace H := Aside0.mk H
 have hcall := spec_l18Eval.calls k _ _ _ _ _ _ _ _ _ _ _ _ _ _ _ _ _ _ _ W3 (Kd.C_below HR0.out HB.out) HC0.out (Kd.C_below HR1.out HB.out) HC1.out (Kd.C_below HR2_3.out HB.out) HC2_3.out hm
 clear hm
 (go_wp2_with fail)
 refine hcall.mono ?_
 rintro e W5 ⟨rfl, hb⟩
 clear hcall
 replace BK1 := bK BK1 hb; replace c_BK1 := bcl BK1; replace z_BK1 := bfr BK1
 replace BK2 := bK BK2 hb; replace c_BK2 := bcl BK2; replace z_BK2 := bfr BK2
 replace HB := bH HB hb; clear hb
 replace H := H.out
 cases H
 go_wp2
 go_ret
 exact ⟨rfl, HB.out⟩
end Go.Proofs.YtmgfklmhelabcaaGreat.QFnExactDecisionUntil
