/- The machine side of FnExactDecisionUntil: what each function that it reaches computes, and that the machine's call gives just that. -/
import Derived.Test.YtmgfklmhelabcaaGreatQFnExactDecisionUntilx0
import Derived.Test.YtmgfklmhelabcaaGreatQFnExactDecisionUntilx1
import Derived.Test.YtmgfklmhelabcaaGreatQFnExactDecisionUntilx9
import Derived.Test.YtmgfklmhelabcaaGreatQFnExactDecisionUntilx15
import Derived.Test.YtmgfklmhelabcaaGreatQFnExactDecisionUntilx16
namespace Go.Proofs.YtmgfklmhelabcaaGreat.QFnExactDecisionUntil
open Go.RowKit Go.Proofs.YtmgfklmhelabcaaGreatW.PrintWords Go.Proofs.YtmgfklmhelabcaaGreatW.PrintLast Go.Proofs.YtmgfklmhelabcaaGreatW.PrintMore
attribute [local go_sem] max2_int min2_int max_two min_two max_three min_three max_four min_four
set_option maxHeartbeats 8000000
set_option maxRecDepth 100000
set_option linter.unusedVariables false
set_option linter.unusedSimpArgs false
def laws_FnExactDecisionUntil.f (k : Nat) (l0 : List (S156)) (l1 : List (S158)) (a2_0 : Int) (l2_1 : List (S190)) (a3_0 : Int) (a3_1 : Int) (a3_2 : Int) (a3_3 : Int) (a3_4 : Int) (a3_5 : Int) (a4 : Int) : Option (Bool) := (laws_szIncludesS.f l0 1048576).bind fun t631 => (if t631 < 0 then (some true) else ((laws_szFactS.f l1 t631).bind fun t632 => (if t632 < 0 then (some true) else ((laws_szPolicy.f k a2_0 l2_1 t632).bind fun t633 => (if t633 < 0 then (some true) else ((laws_toIncludesS.f k l0).bind fun t634 => ((laws_toFactS.f k l1).bind fun t637 => ((laws_toPolicy.f k a2_0 l2_1).bind fun bt640 => ((laws_toRequest.f a3_0 a3_1 a3_2 a3_3 a3_4 a3_5).bind fun bt644 => ((spec_DecisionUntil.f k t634 t637 bt640.1 bt640.2 bt644.1 bt644.2.1 bt644.2.2.1 bt644.2.2.2.1 bt644.2.2.2.2.1 bt644.2.2.2.2.2 a4).bind fun t650 => ((laws_toIncludesS.f k l0).bind fun t651 => ((laws_toFactS.f k l1).bind fun t654 => ((laws_toPolicy.f k a2_0 l2_1).bind fun bt657 => ((laws_toRequest.f a3_0 a3_1 a3_2 a3_3 a3_4 a3_5).bind fun bt662 => ((impl_DecisionUntil.f k t651 t654 bt657.1 bt657.2 bt662.1 bt662.2.1 bt662.2.2.1 bt662.2.2.2.1 bt662.2.2.2.2.1 bt662.2.2.2.2.2 a4).bind fun t668 => (if t668 = t650 then ((laws_toIncludesS.f k l0).bind fun t669 => ((laws_eqIncludesS.f k t651 t669).bind fun t672 => (if t672 = true then ((laws_toFactS.f k l1).bind fun t673 => ((laws_eqFactS.f k t654 t673).bind fun t676 => (if t676 = true then ((laws_toPolicy.f k a2_0 l2_1).bind fun bt677 => ((laws_eqPolicy.f k bt657.1 bt657.2 bt677.1 bt677.2).bind fun t681 => (if t681 = true then (some true) else (some false)))) else (some false)))) else (some false)))) else (some false)))))))))))))))))
theorem laws_FnExactDecisionUntil.calls (k : Nat) (A0 : Option Addr) (c0 : Nat) (l0 : List (S156)) (A1 : Option Addr) (c1 : Nat) (l1 : List (S158)) (a2_0 : Int) (A2_1 : Option Addr) (c2_1 : Nat) (l2_1 : List (S190)) (a3_0 : Int) (a3_1 : Int) (a3_2 : Int) (a3_3 : Int) (a3_4 : Int) (a3_5 : Int) (a4 : Int) (r : Bool) (w : World) (hr0 : Kd.C k156 w A0 l0.length l0) (hc0 : l0.length ≤ c0) (hr1 : Kd.C k158 w A1 l1.length l1) (hc1 : l1.length ≤ c1) (hr2_1 : Kd.C k190 w A2_1 l2_1.length l2_1) (hc2_1 : l2_1.length ≤ c2_1) (h : laws_FnExactDecisionUntil.f k l0 l1 a2_0 l2_1 a3_0 a3_1 a3_2 a3_3 a3_4 a3_5 a4 = some r) :
  Calls Tryz.prog 3 #[.slice A0 l0.length c0, .slice A1 l1.length c1, .agg #[.int .i64 a2_0, .slice A2_1 l2_1.length c2_1], .agg #[.int .i64 a3_0, .int .i64 a3_1, .int .i64 a3_2, .int .i64 a3_3, .int .i64 a3_4, .int .i64 a3_5], .int .i64 a4] w fun e w' => e = .returned (.bool r) ∧ Below w.heap.size w w' := by
 have HR0 := Aside0.mk hr0
 have HC0 := Aside0.mk hc0
 clear hr0 hc0
 have HR1 := Aside0.mk hr1
 have HC1 := Aside0.mk hc1
 clear hr1 hc1
 have HR2_1 := Aside0.mk hr2_1
 have HC2_1 := Aside0.mk hc2_1
 clear hr2_1 hc2_1
 have HB := Aside0.mk (Below.refl w.heap.size w)
 have H := h
 clear h
 unfold laws_FnExactDecisionUntil.f at H
 have hu26 := Tryz.underlying26
 have hu28 := Tryz.underlying28
 have hu39 := Tryz.underlying39
 go_enter Tryz.func3, Tryz.ntmps3
 have H'' := Aside0.mk H
 clear H
 go_wp2_with (first | ((with_reducible refine gate_dst (N := 7) rfl ?_); refine box_event ?hg (N := 7) ?hd (cs := #[.int .i64 a2_0, .slice A2_1 l2_1.length c2_1]) (t := 26) ?hr ?_; (case hd => rfl); (case hg => rfl); (case hr => first | (go_simp; done) | (go_simp; rfl)); intro gb1 hg W1 hbox hb; have Z1 := Aside0.mk hb.size; have E1 := Aside0.mk (And.intro hg (blk_lt hbox)); have BK1 := Aside0.mk hbox; have c_BK1 := blk_cell hbox; have z_BK1 := blk_frozen hbox; have hB_ := below_step HB.out hb; clear HB hb hbox hg; have HB := Aside0.mk hB_; clear hB_) | ((with_reducible refine gate_dst (N := 8) rfl ?_); refine box_event ?hg (N := 8) ?hd (cs := #[.int .i64 a3_0, .int .i64 a3_1, .int .i64 a3_2, .int .i64 a3_3, .int .i64 a3_4, .int .i64 a3_5]) (t := 28) ?hr ?_; (case hd => rfl); (case hg => rfl); (case hr => first | (go_simp; done) | (go_simp; rfl)); intro gb2 hg W2 hbox hb; have Z2 := Aside0.mk hb.size; have E2 := Aside0.mk (And.intro hg (blk_lt hbox)); have h_ := blk_below BK1.out hb; clear BK1 c_BK1 z_BK1; have BK1 := Aside0.mk h_; have c_BK1 := blk_cell h_; have z_BK1 := blk_frozen h_; clear h_; have BK2 := Aside0.mk hbox; have c_BK2 := blk_cell hbox; have z_BK2 := blk_frozen hbox; have hB_ := below_step HB.out hb; clear HB hb hbox hg; have HB := Aside0.mk hB_; clear hB_))
 have H := H''.out
 clear H''
 replace H := obs H
 obtain ⟨t631, hm, H⟩ := H
 (try dsimp only at H)
 have H' := Aside0.mk H
 clear H
 have hcall := laws_szIncludesS.calls _ _ l0 1048576 t631 W2 (Kd.C_below HR0.out HB.out) HC0.out hm
 clear hm
 try go_wp2_with fail
 refine hcall.mono ?_
 rintro e W3 ⟨rfl, hb⟩
 clear hcall
 have Z3 := Aside0.mk hb.size
 have h_ := blk_below BK1.out hb
 clear BK1 c_BK1 z_BK1
 have BK1 := Aside0.mk h_
 have c_BK1 := blk_cell h_
 have z_BK1 := blk_frozen h_
 clear h_
 have h_ := blk_below BK2.out hb
 clear BK2 c_BK2 z_BK2
 have BK2 := Aside0.mk h_
 have c_BK2 := blk_cell h_
 have z_BK2 := blk_frozen h_
 clear h_
 have hB_ := below_step HB.out hb
 clear HB hb
 have HB := Aside0.mk hB_
 clear hB_
 have H := H'.out
 clear H'
 replace H := ifD H; rcases H with ⟨c4, H⟩ | ⟨c4, H⟩
 ·have c4_0 : decide (t631 < 0) = true := decide_eq_true c4
  clear c4
  cases H
  go_wp2
  go_ret
  exact ⟨rfl, HB.out⟩
 have c4_0 : decide (t631 < 0) = false := decide_eq_false c4
 clear c4
 replace H := obs H
 obtain ⟨t632, hm, H⟩ := H
 (try dsimp only at H)
 have H' := Aside0.mk H
 clear H
 have hcall := laws_szFactS.calls _ _ l1 t631 t632 W3 (Kd.C_below HR1.out HB.out) HC1.out hm
 clear hm
 (go_wp2_with fail)
 refine hcall.mono ?_
 rintro e W5 ⟨rfl, hb⟩
 clear hcall
 have Z5 := Aside0.mk hb.size
 have h_ := blk_below BK1.out hb
 clear BK1 c_BK1 z_BK1
 have BK1 := Aside0.mk h_
 have c_BK1 := blk_cell h_
 have z_BK1 := blk_frozen h_
 clear h_
 have h_ := blk_below BK2.out hb
 clear BK2 c_BK2 z_BK2
 have BK2 := Aside0.mk h_
 have c_BK2 := blk_cell h_
 have z_BK2 := blk_frozen h_
 clear h_
 have hB_ := below_step HB.out hb
 clear HB hb
 have HB := Aside0.mk hB_
 clear hB_
 have H := H'.out
 clear H'
 replace H := ifD H; rcases H with ⟨c6, H⟩ | ⟨c6, H⟩
 ·have c6_0 : decide (t632 < 0) = true := decide_eq_true c6
  clear c6
  cases H
  go_wp2
  go_ret
  exact ⟨rfl, HB.out⟩
 have c6_0 : decide (t632 < 0) = false := decide_eq_false c6
 clear c6
 replace H := obs H
 obtain ⟨t633, hm, H⟩ := H
 (try dsimp only at H)
 have H' := Aside0.mk H
 clear H
 have hcall := laws_szPolicy.calls k a2_0 _ _ l2_1 t632 t633 W5 (Kd.C_below HR2_1.out HB.out) HC2_1.out hm
 clear hm
 (go_wp2_with fail)
 refine hcall.mono ?_
 rintro e W7 ⟨rfl, hb⟩
 clear hcall
 have Z7 := Aside0.mk hb.size
 have h_ := blk_below BK1.out hb
 clear BK1 c_BK1 z_BK1
 have BK1 := Aside0.mk h_
 have c_BK1 := blk_cell h_
 have z_BK1 := blk_frozen h_
 clear h_
 have h_ := blk_below BK2.out hb
 clear BK2 c_BK2 z_BK2
 have BK2 := Aside0.mk h_
 have c_BK2 := blk_cell h_
 have z_BK2 := blk_frozen h_
 clear h_
 have hB_ := below_step HB.out hb
 clear HB hb
 have HB := Aside0.mk hB_
 clear hB_
 have H := H'.out
 clear H'
 replace H := ifD H; rcases H with ⟨c8, H⟩ | ⟨c8, H⟩
 ·have c8_0 : decide (t633 < 0) = true := decide_eq_true c8
  clear c8
  cases H
  go_wp2
  go_ret
  exact ⟨rfl, HB.out⟩
 have c8_0 : decide (t633 < 0) = false := decide_eq_false c8
 clear c8
 replace H := obs H
 obtain ⟨t634, hm, H⟩ := H
 (try dsimp only at H)
 have HM9 := Aside0.mk hm
 clear hm
 replace H := obs H
 obtain ⟨t637, hm, H⟩ := H
 (try dsimp only at H)
 have HM10 := Aside0.mk hm
 clear hm
 replace H := obs H
 obtain ⟨⟨t640, t641⟩, hm, H⟩ := H
 (try dsimp only at H)
 have HM11 := Aside0.mk hm
 clear hm
 replace H := obs H
 obtain ⟨⟨t644, t645, t646, t647, t648, t649⟩, hm, H⟩ := H
 (try dsimp only at H)
 have HM12 := Aside0.mk hm
 clear hm
 replace H := obs H
 obtain ⟨t650, hm, H⟩ := H
 (try dsimp only at H)
 have HM13 := Aside0.mk hm
 clear hm
 have H' := Aside0.mk H
 clear H
 try go_wp2
 have h_ := blk_drew BK1.out
 clear BK1 c_BK1 z_BK1
 have BK1 := Aside0.mk h_
 clear h_
 have h_ := blk_drew BK2.out
 clear BK2 c_BK2 z_BK2
 have BK2 := Aside0.mk h_
 clear h_
 have hB_ := below_drew1 HB.out
 clear HB
 have HB := Aside0.mk hB_
 clear hB_
 have Z14 : Aside0 (W7.heap.size ≤ W7.drew.heap.size) := ⟨Nat.le_refl _⟩
 refine start_ (n := 11) (S := fun w' => w'.cell? ⟨gb1, 0, none⟩ = some (.int .i64 a2_0) ∧ w'.cell? ⟨gb1, 1, none⟩ = some (.slice A2_1 l2_1.length c2_1) ∧ w'.cell? ⟨gb2, 0, none⟩ = some (.int .i64 a3_0) ∧ w'.cell? ⟨gb2, 1, none⟩ = some (.int .i64 a3_1) ∧ w'.cell? ⟨gb2, 2, none⟩ = some (.int .i64 a3_2) ∧ w'.cell? ⟨gb2, 3, none⟩ = some (.int .i64 a3_3) ∧ w'.cell? ⟨gb2, 4, none⟩ = some (.int .i64 a3_4) ∧ w'.cell? ⟨gb2, 5, none⟩ = some (.int .i64 a3_5)) (ds := []) #[false, false, false, false, false, false, false, false, false, false, false] (by kernel_rfl) rfl rfl ⟨(blk_cell BK1.out 0).trans rfl, (blk_cell BK1.out 1).trans rfl, (blk_cell BK2.out 0).trans rfl, (blk_cell BK2.out 1).trans rfl, (blk_cell BK2.out 2).trans rfl, (blk_cell BK2.out 3).trans rfl, (blk_cell BK2.out 4).trans rfl, (blk_cell BK2.out 5).trans rfl⟩ (fun hHeld => ?_)
 generalize W7.drew = W14 at Z14 HB BK1 BK2 hHeld ⊢
 have c_BK1 := blk_cell BK1.out
 have z_BK1 := blk_frozen BK1.out
 have c_BK2 := blk_cell BK2.out
 have z_BK2 := blk_frozen BK2.out
 refine pure_ (i := 0) (N := some 32) (v := ?_) (a' := ?_) #[true, false, false, false, false, false, false, false, false, false, false] rfl rfl (by kernel_rfl) (fun _ _ _ h => h) (Or.inl ⟨by rfl, ?_⟩) ?_ ?_
 rotate_left
 ·intro w'
  go_simp
  with_reducible rfl
 rotate_left
 ·simp only [Act.put, List.setIfInBounds_toArray, List.set_cons_zero, List.set_cons_succ, i64_w, i32_w]
  rfl
 refine pure_ (i := 2) (N := some 34) (v := ?_) (a' := ?_) #[true, false, true, false, false, false, false, false, false, false, false] rfl rfl (by kernel_rfl) (fun _ _ _ h => h) (Or.inl ⟨by rfl, ?_⟩) ?_ ?_
 rotate_left
 ·intro w'
  go_simp
  with_reducible rfl
 rotate_left
 ·simp only [Act.put, List.setIfInBounds_toArray, List.set_cons_zero, List.set_cons_succ, i64_w, i32_w]
  rfl
 refine pure_ (i := 8) (N := some 40) (v := ?_) (a' := ?_) #[true, false, true, false, false, false, false, false, true, false, false] rfl rfl (by kernel_rfl) (fun _ _ _ h => h) (Or.inl ⟨by rfl, ?_⟩) ?_ ?_
 rotate_left
 ·intro w'
  go_simp
  with_reducible rfl
 rotate_left
 ·simp only [Act.put, List.setIfInBounds_toArray, List.set_cons_zero, List.set_cons_succ, i64_w, i32_w]
  rfl
 refine take_ (i := 4) (N := some 36) (v := ?_) (a' := ?_) #[true, false, true, false, true, false, false, false, true, false, false] rfl rfl (by kernel_rfl) (fun _ _ _ h => h) (Or.inl ⟨by rfl, ?_⟩) hHeld ?_ ?_
 rotate_left
 ·rintro w' ⟨s0, s1, s2, s3, s4, s5, s6, s7⟩
  go_simp
  with_reducible rfl
 rotate_left
 ·simp only [Act.put, List.setIfInBounds_toArray, List.set_cons_zero, List.set_cons_succ, i64_w, i32_w]
  rfl
 refine take_ (i := 6) (N := some 38) (v := ?_) (a' := ?_) #[true, false, true, false, true, false, true, false, true, false, false] rfl rfl (by kernel_rfl) (fun _ _ _ h => h) (Or.inl ⟨by rfl, ?_⟩) hHeld ?_ ?_
 rotate_left
 ·rintro w' ⟨s0, s1, s2, s3, s4, s5, s6, s7⟩
  go_simp
  with_reducible rfl
 rotate_left
 ·simp only [Act.put, List.setIfInBounds_toArray, List.set_cons_zero, List.set_cons_succ, i64_w, i32_w]
  rfl
 refine one_ (i := 1) (N := some 33) #[true, true, true, false, true, false, true, false, true, false, false] rfl rfl (by kernel_rfl) (by decide) (fun K hK => ?_)
 have hcall := laws_toIncludesS.calls k _ _ l0 t634 W14 (Kd.C_below HR0.out HB.out) HC0.out HM9.out
 refine goes_ Tryz.func18 (by kernel_rfl) rfl #[.slice A0 l0.length c0] (by rfl) rfl rfl (by (try simp only [List.map_toArray, List.map_cons, List.map_nil]); first | done | rfl) ?_
 refine hcall.mono ?_
 rintro e W15 ⟨v635, rfl, ho0, hb⟩
 refine ⟨_, rfl, ?_⟩
 clear hcall
 have Z15 := Aside0.mk hb.size
 obtain ⟨A15_0, n15_0, c15_0, rfl, hn_, hr_⟩ := Go.Proofs.YtmgfklmhelabcaaGreatM.R_made ho0 HB.out.size
 clear hn_ ho0
 have HO15_0 := Aside0.mk hr_
 clear hr_
 have h_ := blk_below BK1.out hb
 clear BK1 c_BK1 z_BK1
 have BK1 := Aside0.mk h_
 have c_BK1 := blk_cell h_
 have z_BK1 := blk_frozen h_
 clear h_
 have h_ := blk_below BK2.out hb
 clear BK2 c_BK2 z_BK2
 have BK2 := Aside0.mk h_
 have c_BK2 := blk_cell h_
 have z_BK2 := blk_frozen h_
 clear h_
 have hB_ := below_step HB.out hb
 clear HB hb
 have HB := Aside0.mk hB_
 clear hB_
 refine hK.out _ _ ⟨(blk_cell BK1.out 0).trans rfl, (blk_cell BK1.out 1).trans rfl, (blk_cell BK2.out 0).trans rfl, (blk_cell BK2.out 1).trans rfl, (blk_cell BK2.out 2).trans rfl, (blk_cell BK2.out 3).trans rfl, (blk_cell BK2.out 4).trans rfl, (blk_cell BK2.out 5).trans rfl⟩ (fun hHeld => ?_)
 clear hK K
 refine norm_ (a' := ?_) ?_ ?_
 rotate_left
 ·show Act.put _ (some 33) _ = _
  simp only [Act.put, List.setIfInBounds_toArray, List.set_cons_zero, List.set_cons_succ, i64_w, i32_w]
  rfl
 refine one_ (i := 3) (N := some 35) #[true, true, true, true, true, false, true, false, true, false, false] rfl rfl (by kernel_rfl) (by decide) (fun K hK => ?_)
 have hcall := laws_toFactS.calls k _ _ l1 t637 W15 (Kd.C_below HR1.out HB.out) HC1.out HM10.out
 refine goes_ Tryz.func19 (by kernel_rfl) rfl #[.slice A1 l1.length c1] (by rfl) rfl rfl (by (try simp only [List.map_toArray, List.map_cons, List.map_nil]); first | done | rfl) ?_
 refine hcall.mono ?_
 rintro e W16 ⟨v638, rfl, ho0, hb⟩
 refine ⟨_, rfl, ?_⟩
 clear hcall
 have Z16 := Aside0.mk hb.size
 have h_ := Kd.R_below HO15_0.out hb
 clear HO15_0
 have HO15_0 := Aside0.mk h_
 clear h_
 obtain ⟨A16_0, n16_0, c16_0, rfl, hn_, hr_⟩ := Go.Proofs.YtmgfklmhelabcaaGreatM.R_made ho0 HB.out.size
 clear hn_ ho0
 have HO16_0 := Aside0.mk hr_
 clear hr_
 have h_ := blk_below BK1.out hb
 clear BK1 c_BK1 z_BK1
 have BK1 := Aside0.mk h_
 have c_BK1 := blk_cell h_
 have z_BK1 := blk_frozen h_
 clear h_
 have h_ := blk_below BK2.out hb
 clear BK2 c_BK2 z_BK2
 have BK2 := Aside0.mk h_
 have c_BK2 := blk_cell h_
 have z_BK2 := blk_frozen h_
 clear h_
 have hB_ := below_step HB.out hb
 clear HB hb
 have HB := Aside0.mk hB_
 clear hB_
 refine hK.out _ _ ⟨(blk_cell BK1.out 0).trans rfl, (blk_cell BK1.out 1).trans rfl, (blk_cell BK2.out 0).trans rfl, (blk_cell BK2.out 1).trans rfl, (blk_cell BK2.out 2).trans rfl, (blk_cell BK2.out 3).trans rfl, (blk_cell BK2.out 4).trans rfl, (blk_cell BK2.out 5).trans rfl⟩ (fun hHeld => ?_)
 clear hK K
 refine norm_ (a' := ?_) ?_ ?_
 rotate_left
 ·show Act.put _ (some 35) _ = _
  simp only [Act.put, List.setIfInBounds_toArray, List.set_cons_zero, List.set_cons_succ, i64_w, i32_w]
  rfl
 refine one_ (i := 5) (N := some 37) #[true, true, true, true, true, true, true, false, true, false, false] rfl rfl (by kernel_rfl) (by decide) (fun K hK => ?_)
 have hcall := laws_toPolicy.calls k a2_0 _ _ l2_1 t640 t641 W16 (Kd.C_below HR2_1.out HB.out) HC2_1.out HM11.out
 refine goes_ Tryz.func20 (by kernel_rfl) rfl #[.agg #[.int .i64 a2_0, .slice A2_1 l2_1.length c2_1]] (by rfl) rfl rfl (by (try simp only [List.map_toArray, List.map_cons, List.map_nil]); first | done | rfl) ?_
 refine hcall.mono ?_
 rintro e W17 ⟨v642, rfl, ho0, hb⟩
 refine ⟨_, rfl, ?_⟩
 clear hcall
 have Z17 := Aside0.mk hb.size
 have h_ := Kd.R_below HO15_0.out hb
 clear HO15_0
 have HO15_0 := Aside0.mk h_
 clear h_
 have h_ := Kd.R_below HO16_0.out hb
 clear HO16_0
 have HO16_0 := Aside0.mk h_
 clear h_
 obtain ⟨A17_0, n17_0, c17_0, rfl, hn_, hr_⟩ := Go.Proofs.YtmgfklmhelabcaaGreatM.R_made ho0 HB.out.size
 clear hn_ ho0
 have HO17_0 := Aside0.mk hr_
 clear hr_
 have h_ := blk_below BK1.out hb
 clear BK1 c_BK1 z_BK1
 have BK1 := Aside0.mk h_
 have c_BK1 := blk_cell h_
 have z_BK1 := blk_frozen h_
 clear h_
 have h_ := blk_below BK2.out hb
 clear BK2 c_BK2 z_BK2
 have BK2 := Aside0.mk h_
 have c_BK2 := blk_cell h_
 have z_BK2 := blk_frozen h_
 clear h_
 have hB_ := below_step HB.out hb
 clear HB hb
 have HB := Aside0.mk hB_
 clear hB_
 refine hK.out _ _ ⟨(blk_cell BK1.out 0).trans rfl, (blk_cell BK1.out 1).trans rfl, (blk_cell BK2.out 0).trans rfl, (blk_cell BK2.out 1).trans rfl, (blk_cell BK2.out 2).trans rfl, (blk_cell BK2.out 3).trans rfl, (blk_cell BK2.out 4).trans rfl, (blk_cell BK2.out 5).trans rfl⟩ (fun hHeld => ?_)
 clear hK K
 refine norm_ (a' := ?_) ?_ ?_
 rotate_left
 ·show Act.put _ (some 37) _ = _
  simp only [Act.put, List.setIfInBounds_toArray, List.set_cons_zero, List.set_cons_succ, i64_w, i32_w]
  rfl
 refine one_ (i := 7) (N := some 39) #[true, true, true, true, true, true, true, true, true, false, false] rfl rfl (by kernel_rfl) (by decide) (fun K hK => ?_)
 have hcall := laws_toRequest.calls a3_0 a3_1 a3_2 a3_3 a3_4 a3_5 t644 t645 t646 t647 t648 t649 W17  HM12.out
 refine goes_ Tryz.func21 (by kernel_rfl) rfl #[.agg #[.int .i64 a3_0, .int .i64 a3_1, .int .i64 a3_2, .int .i64 a3_3, .int .i64 a3_4, .int .i64 a3_5]] (by rfl) rfl rfl (by (try simp only [List.map_toArray, List.map_cons, List.map_nil]); first | done | rfl) ?_
 refine hcall.mono ?_
 rintro e W18 ⟨rfl, hb⟩
 refine ⟨_, rfl, ?_⟩
 clear hcall
 have Z18 := Aside0.mk hb.size
 have h_ := Kd.R_below HO15_0.out hb
 clear HO15_0
 have HO15_0 := Aside0.mk h_
 clear h_
 have h_ := Kd.R_below HO16_0.out hb
 clear HO16_0
 have HO16_0 := Aside0.mk h_
 clear h_
 have h_ := Kd.R_below HO17_0.out hb
 clear HO17_0
 have HO17_0 := Aside0.mk h_
 clear h_
 have h_ := blk_below BK1.out hb
 clear BK1 c_BK1 z_BK1
 have BK1 := Aside0.mk h_
 have c_BK1 := blk_cell h_
 have z_BK1 := blk_frozen h_
 clear h_
 have h_ := blk_below BK2.out hb
 clear BK2 c_BK2 z_BK2
 have BK2 := Aside0.mk h_
 have c_BK2 := blk_cell h_
 have z_BK2 := blk_frozen h_
 clear h_
 have hB_ := below_step HB.out hb
 clear HB hb
 have HB := Aside0.mk hB_
 clear hB_
 refine hK.out _ _ ⟨(blk_cell BK1.out 0).trans rfl, (blk_cell BK1.out 1).trans rfl, (blk_cell BK2.out 0).trans rfl, (blk_cell BK2.out 1).trans rfl, (blk_cell BK2.out 2).trans rfl, (blk_cell BK2.out 3).trans rfl, (blk_cell BK2.out 4).trans rfl, (blk_cell BK2.out 5).trans rfl⟩ (fun hHeld => ?_)
 clear hK K
 refine norm_ (a' := ?_) ?_ ?_
 rotate_left
 ·show Act.put _ (some 39) _ = _
  simp only [Act.put, List.setIfInBounds_toArray, List.set_cons_zero, List.set_cons_succ, i64_w, i32_w]
  rfl
 refine one_ (i := 9) (N := some 41) #[true, true, true, true, true, true, true, true, true, true, false] rfl rfl (by kernel_rfl) (by decide) (fun K hK => ?_)
 have hcall := spec_DecisionUntil.calls k _ _ t634 _ _ t637 t640 _ _ t641 t644 t645 t646 t647 t648 t649 a4 t650 W18 (Go.Proofs.YtmgfklmhelabcaaGreatM.R_C HO15_0.out) (Go.Proofs.YtmgfklmhelabcaaGreatM.R_len HO15_0.out) (Go.Proofs.YtmgfklmhelabcaaGreatM.R_C HO16_0.out) (Go.Proofs.YtmgfklmhelabcaaGreatM.R_len HO16_0.out) (Go.Proofs.YtmgfklmhelabcaaGreatM.R_C HO17_0.out) (Go.Proofs.YtmgfklmhelabcaaGreatM.R_len HO17_0.out) HM13.out
 rw [Go.Proofs.YtmgfklmhelabcaaGreatM.R_n HO15_0.out, Go.Proofs.YtmgfklmhelabcaaGreatM.R_n HO16_0.out, Go.Proofs.YtmgfklmhelabcaaGreatM.R_n HO17_0.out] at hcall
 refine goes_ Tryz.func17 (by kernel_rfl) rfl #[.slice A15_0 n15_0 c15_0, .slice A16_0 n16_0 c16_0, .agg #[.int .i64 t640, .slice A17_0 n17_0 c17_0], .agg #[.int .i64 t644, .int .i64 t645, .int .i64 t646, .int .i64 t647, .int .i64 t648, .int .i64 t649], .int .i64 a4] (by rfl) rfl rfl (by (try simp only [List.map_toArray, List.map_cons, List.map_nil]); first | done | rfl) ?_
 refine hcall.mono ?_
 rintro e W19 ⟨rfl, hb⟩
 refine ⟨_, rfl, ?_⟩
 clear hcall
 have Z19 := Aside0.mk hb.size
 have h_ := Kd.R_below HO15_0.out hb
 clear HO15_0
 have HO15_0 := Aside0.mk h_
 clear h_
 have h_ := Kd.R_below HO16_0.out hb
 clear HO16_0
 have HO16_0 := Aside0.mk h_
 clear h_
 have h_ := Kd.R_below HO17_0.out hb
 clear HO17_0
 have HO17_0 := Aside0.mk h_
 clear h_
 have h_ := blk_below BK1.out hb
 clear BK1 c_BK1 z_BK1
 have BK1 := Aside0.mk h_
 have c_BK1 := blk_cell h_
 have z_BK1 := blk_frozen h_
 clear h_
 have h_ := blk_below BK2.out hb
 clear BK2 c_BK2 z_BK2
 have BK2 := Aside0.mk h_
 have c_BK2 := blk_cell h_
 have z_BK2 := blk_frozen h_
 clear h_
 have hB_ := below_step HB.out hb
 clear HB hb
 have HB := Aside0.mk hB_
 clear hB_
 refine hK.out _ _ ⟨(blk_cell BK1.out 0).trans rfl, (blk_cell BK1.out 1).trans rfl, (blk_cell BK2.out 0).trans rfl, (blk_cell BK2.out 1).trans rfl, (blk_cell BK2.out 2).trans rfl, (blk_cell BK2.out 3).trans rfl, (blk_cell BK2.out 4).trans rfl, (blk_cell BK2.out 5).trans rfl⟩ (fun hHeld => ?_)
 clear hK K
 refine norm_ (a' := ?_) ?_ ?_
 rotate_left
 ·show Act.put _ (some 41) _ = _
  simp only [Act.put, List.setIfInBounds_toArray, List.set_cons_zero, List.set_cons_succ, i64_w, i32_w]
  rfl
 refine pure_ (i := 10) (N := some 12) (v := ?_) (a' := ?_) #[true, true, true, true, true, true, true, true, true, true, true] rfl rfl (by kernel_rfl) (fun _ _ _ h => h) (Or.inl ⟨by rfl, ?_⟩) ?_ ?_
 rotate_left
 ·intro w'
  go_simp
  with_reducible rfl
 rotate_left
 ·simp only [Act.put, List.setIfInBounds_toArray, List.set_cons_zero, List.set_cons_succ, i64_w, i32_w]
  rfl
 refine done_ (by kernel_rfl) ?_
 clear hHeld
 have H := H'.out
 clear H'
 replace H := obs H
 obtain ⟨t651, hm, H⟩ := H
 (try dsimp only at H)
 have H' := Aside0.mk H
 clear H
 have hcall := laws_toIncludesS.calls k _ _ l0 t651 W19 (Kd.C_below HR0.out HB.out) HC0.out hm
 clear hm
 (go_wp2_with fail)
 refine hcall.mono ?_
 rintro e W20 ⟨v652, rfl, ho0, hb⟩
 clear hcall
 have Z20 := Aside0.mk hb.size
 have h_ := Kd.R_below HO15_0.out hb
 clear HO15_0
 have HO15_0 := Aside0.mk h_
 clear h_
 have h_ := Kd.R_below HO16_0.out hb
 clear HO16_0
 have HO16_0 := Aside0.mk h_
 clear h_
 have h_ := Kd.R_below HO17_0.out hb
 clear HO17_0
 have HO17_0 := Aside0.mk h_
 clear h_
 obtain ⟨A20_0, n20_0, c20_0, rfl, hn_, hr_⟩ := Go.Proofs.YtmgfklmhelabcaaGreatM.R_made ho0 HB.out.size
 clear hn_ ho0
 have HO20_0 := Aside0.mk hr_
 clear hr_
 have h_ := blk_below BK1.out hb
 clear BK1 c_BK1 z_BK1
 have BK1 := Aside0.mk h_
 have c_BK1 := blk_cell h_
 have z_BK1 := blk_frozen h_
 clear h_
 have h_ := blk_below BK2.out hb
 clear BK2 c_BK2 z_BK2
 have BK2 := Aside0.mk h_
 have c_BK2 := blk_cell h_
 have z_BK2 := blk_frozen h_
 clear h_
 have hB_ := below_step HB.out hb
 clear HB hb
 have HB := Aside0.mk hB_
 clear hB_
 have H := H'.out
 clear H'
 replace H := obs H
 obtain ⟨t654, hm, H⟩ := H
 (try dsimp only at H)
 have H' := Aside0.mk H
 clear H
 have hcall := laws_toFactS.calls k _ _ l1 t654 W20 (Kd.C_below HR1.out HB.out) HC1.out hm
 clear hm
 (go_wp2_with fail)
 refine hcall.mono ?_
 rintro e W21 ⟨v655, rfl, ho0, hb⟩
 clear hcall
 have Z21 := Aside0.mk hb.size
 have h_ := Kd.R_below HO15_0.out hb
 clear HO15_0
 have HO15_0 := Aside0.mk h_
 clear h_
 have h_ := Kd.R_below HO16_0.out hb
 clear HO16_0
 have HO16_0 := Aside0.mk h_
 clear h_
 have h_ := Kd.R_below HO17_0.out hb
 clear HO17_0
 have HO17_0 := Aside0.mk h_
 clear h_
 have h_ := Kd.R_below HO20_0.out hb
 clear HO20_0
 have HO20_0 := Aside0.mk h_
 clear h_
 obtain ⟨A21_0, n21_0, c21_0, rfl, hn_, hr_⟩ := Go.Proofs.YtmgfklmhelabcaaGreatM.R_made ho0 HB.out.size
 clear hn_ ho0
 have HO21_0 := Aside0.mk hr_
 clear hr_
 have h_ := blk_below BK1.out hb
 clear BK1 c_BK1 z_BK1
 have BK1 := Aside0.mk h_
 have c_BK1 := blk_cell h_
 have z_BK1 := blk_frozen h_
 clear h_
 have h_ := blk_below BK2.out hb
 clear BK2 c_BK2 z_BK2
 have BK2 := Aside0.mk h_
 have c_BK2 := blk_cell h_
 have z_BK2 := blk_frozen h_
 clear h_
 have hB_ := below_step HB.out hb
 clear HB hb
 have HB := Aside0.mk hB_
 clear hB_
 have H := H'.out
 clear H'
 replace H := obs H
 obtain ⟨⟨t657, t658⟩, hm, H⟩ := H
 (try dsimp only at H)
 have H' := Aside0.mk H
 clear H
 have hcall := laws_toPolicy.calls k a2_0 _ _ l2_1 t657 t658 W21 (Kd.C_below HR2_1.out HB.out) HC2_1.out hm
 clear hm
 (go_wp2_with fail)
 refine hcall.mono ?_
 rintro e W22 ⟨v659, rfl, ho0, hb⟩
 clear hcall
 have Z22 := Aside0.mk hb.size
 have h_ := Kd.R_below HO15_0.out hb
 clear HO15_0
 have HO15_0 := Aside0.mk h_
 clear h_
 have h_ := Kd.R_below HO16_0.out hb
 clear HO16_0
 have HO16_0 := Aside0.mk h_
 clear h_
 have h_ := Kd.R_below HO17_0.out hb
 clear HO17_0
 have HO17_0 := Aside0.mk h_
 clear h_
 have h_ := Kd.R_below HO20_0.out hb
 clear HO20_0
 have HO20_0 := Aside0.mk h_
 clear h_
 have h_ := Kd.R_below HO21_0.out hb
 clear HO21_0
 have HO21_0 := Aside0.mk h_
 clear h_
 obtain ⟨A22_0, n22_0, c22_0, rfl, hn_, hr_⟩ := Go.Proofs.YtmgfklmhelabcaaGreatM.R_made ho0 HB.out.size
 clear hn_ ho0
 have HO22_0 := Aside0.mk hr_
 clear hr_
 have h_ := blk_below BK1.out hb
 clear BK1 c_BK1 z_BK1
 have BK1 := Aside0.mk h_
 have c_BK1 := blk_cell h_
 have z_BK1 := blk_frozen h_
 clear h_
 have h_ := blk_below BK2.out hb
 clear BK2 c_BK2 z_BK2
 have BK2 := Aside0.mk h_
 have c_BK2 := blk_cell h_
 have z_BK2 := blk_frozen h_
 clear h_
 have hB_ := below_step HB.out hb
 clear HB hb
 have HB := Aside0.mk hB_
 clear hB_
 have H := H'.out
 clear H'
 replace H := obs H
 obtain ⟨⟨t662, t663, t664, t665, t666, t667⟩, hm, H⟩ := H
 (try dsimp only at H)
 have HM25 := Aside0.mk hm
 clear hm
 replace H := obs H
 obtain ⟨t668, hm, H⟩ := H
 (try dsimp only at H)
 have HM26 := Aside0.mk hm
 clear hm
 have H' := Aside0.mk H
 clear H
 go_wp2_with (first | ((with_reducible refine gate_dst (N := 15) rfl ?_); refine box_event ?hg (N := 15) ?hd (cs := #[.int .i64 0, .slice none 0 0]) (t := 39) ?hr ?_; (case hd => rfl); (case hg => rfl); (case hr => first | (go_simp; done) | (go_simp; rfl)); intro gb23 hg W23 hbox hb; have Z23 := Aside0.mk hb.size; have E23 := Aside0.mk (And.intro hg (blk_lt hbox)); have h_ := Kd.R_below HO15_0.out hb; clear HO15_0; have HO15_0 := Aside0.mk h_; clear h_; have h_ := Kd.R_below HO16_0.out hb; clear HO16_0; have HO16_0 := Aside0.mk h_; clear h_; have h_ := Kd.R_below HO17_0.out hb; clear HO17_0; have HO17_0 := Aside0.mk h_; clear h_; have h_ := Kd.R_below HO20_0.out hb; clear HO20_0; have HO20_0 := Aside0.mk h_; clear h_; have h_ := Kd.R_below HO21_0.out hb; clear HO21_0; have HO21_0 := Aside0.mk h_; clear h_; have h_ := Kd.R_below HO22_0.out hb; clear HO22_0; have HO22_0 := Aside0.mk h_; clear h_; have h_ := blk_below BK1.out hb; clear BK1 c_BK1 z_BK1; have BK1 := Aside0.mk h_; have c_BK1 := blk_cell h_; have z_BK1 := blk_frozen h_; clear h_; have h_ := blk_below BK2.out hb; clear BK2 c_BK2 z_BK2; have BK2 := Aside0.mk h_; have c_BK2 := blk_cell h_; have z_BK2 := blk_frozen h_; clear h_; have BK23 := Aside0.mk hbox; have c_BK23 := blk_cell hbox; have z_BK23 := blk_frozen hbox; have hB_ := below_step HB.out hb; clear HB hb hbox hg; have HB := Aside0.mk hB_; clear hB_) | ((with_reducible refine gate_store (t := 39) (p := 15) rfl ?_); refine store_event (t := 39) (p := 15) (v := ?vo_s24) (w1 := ((W23.setCell ⟨gb23, 0, none⟩ (.int .i64 t657)).setCell ⟨gb23, 1, none⟩ (.slice A22_0 n22_0 c22_0))) ?hg ?ho ?hn ?hr ?_; (case ho => rfl); (case hg => rfl); (case hn => rfl); (case hr => first | (go_simp; done) | (go_simp; rfl)); intro W24 hw; have hk_ : Kept W23 W24 (fun k_ => k_ = gb23) := (by rw [hw]; exact Kept.setCell (Kept.setCell (Kept.refl W23 (fun k_ => k_ = gb23)) (.inl rfl) _) (.inl rfl) _); have hge_ : w.heap.size ≤ gb23 := (by have := E23.out.1; have := HB.out.size; have := Z1.out; have := Z2.out; have := Z3.out; have := Z5.out; have := Z7.out; have := Z14.out; have := Z15.out; have := Z16.out; have := Z17.out; have := Z18.out; have := Z19.out; have := Z20.out; have := Z21.out; have := Z22.out; have := Z23.out; omega); have Z24 := Aside0.mk hk_.1; have h_ := Kd.R_step HO15_0.out (fun k_ h1_ h2_ => hk_.2 k_ h2_ (fun h3_ => by obtain ⟨_, _⟩ := h1_; have := E23.out; have := Z1.out; have := Z2.out; have := Z3.out; have := Z5.out; have := Z7.out; have := Z14.out; have := Z15.out; have := Z16.out; have := Z17.out; have := Z18.out; have := Z19.out; have := Z20.out; have := Z21.out; have := Z22.out; have := Z23.out; omega)); clear HO15_0; have HO15_0 := Aside0.mk h_; clear h_; have h_ := Kd.R_step HO16_0.out (fun k_ h1_ h2_ => hk_.2 k_ h2_ (fun h3_ => by obtain ⟨_, _⟩ := h1_; have := E23.out; have := Z1.out; have := Z2.out; have := Z3.out; have := Z5.out; have := Z7.out; have := Z14.out; have := Z15.out; have := Z16.out; have := Z17.out; have := Z18.out; have := Z19.out; have := Z20.out; have := Z21.out; have := Z22.out; have := Z23.out; omega)); clear HO16_0; have HO16_0 := Aside0.mk h_; clear h_; have h_ := Kd.R_step HO17_0.out (fun k_ h1_ h2_ => hk_.2 k_ h2_ (fun h3_ => by obtain ⟨_, _⟩ := h1_; have := E23.out; have := Z1.out; have := Z2.out; have := Z3.out; have := Z5.out; have := Z7.out; have := Z14.out; have := Z15.out; have := Z16.out; have := Z17.out; have := Z18.out; have := Z19.out; have := Z20.out; have := Z21.out; have := Z22.out; have := Z23.out; omega)); clear HO17_0; have HO17_0 := Aside0.mk h_; clear h_; have h_ := Kd.R_step HO20_0.out (fun k_ h1_ h2_ => hk_.2 k_ h2_ (fun h3_ => by obtain ⟨_, _⟩ := h1_; have := E23.out; have := Z1.out; have := Z2.out; have := Z3.out; have := Z5.out; have := Z7.out; have := Z14.out; have := Z15.out; have := Z16.out; have := Z17.out; have := Z18.out; have := Z19.out; have := Z20.out; have := Z21.out; have := Z22.out; have := Z23.out; omega)); clear HO20_0; have HO20_0 := Aside0.mk h_; clear h_; have h_ := Kd.R_step HO21_0.out (fun k_ h1_ h2_ => hk_.2 k_ h2_ (fun h3_ => by obtain ⟨_, _⟩ := h1_; have := E23.out; have := Z1.out; have := Z2.out; have := Z3.out; have := Z5.out; have := Z7.out; have := Z14.out; have := Z15.out; have := Z16.out; have := Z17.out; have := Z18.out; have := Z19.out; have := Z20.out; have := Z21.out; have := Z22.out; have := Z23.out; omega)); clear HO21_0; have HO21_0 := Aside0.mk h_; clear h_; have h_ := Kd.R_step HO22_0.out (fun k_ h1_ h2_ => hk_.2 k_ h2_ (fun h3_ => by obtain ⟨_, _⟩ := h1_; have := E23.out; have := Z1.out; have := Z2.out; have := Z3.out; have := Z5.out; have := Z7.out; have := Z14.out; have := Z15.out; have := Z16.out; have := Z17.out; have := Z18.out; have := Z19.out; have := Z20.out; have := Z21.out; have := Z22.out; have := Z23.out; omega)); clear HO22_0; have HO22_0 := Aside0.mk h_; clear h_; have h_ := blk_kept BK1.out hk_ (fun hp_ => by have := E1.out; have := E23.out; have := Z1.out; have := Z2.out; have := Z3.out; have := Z5.out; have := Z7.out; have := Z14.out; have := Z15.out; have := Z16.out; have := Z17.out; have := Z18.out; have := Z19.out; have := Z20.out; have := Z21.out; have := Z22.out; have := Z23.out; omega); clear BK1 c_BK1 z_BK1; have BK1 := Aside0.mk h_; have c_BK1 := blk_cell h_; have z_BK1 := blk_frozen h_; clear h_; have h_ := blk_kept BK2.out hk_ (fun hp_ => by have := E2.out; have := E23.out; have := Z1.out; have := Z2.out; have := Z3.out; have := Z5.out; have := Z7.out; have := Z14.out; have := Z15.out; have := Z16.out; have := Z17.out; have := Z18.out; have := Z19.out; have := Z20.out; have := Z21.out; have := Z22.out; have := Z23.out; omega); clear BK2 c_BK2 z_BK2; have BK2 := Aside0.mk h_; have c_BK2 := blk_cell h_; have z_BK2 := blk_frozen h_; clear h_; have h_ := blk_set (blk_set (BK23.out) 0 (.int .i64 t657)) 1 (.slice A22_0 n22_0 c22_0); rw [← hw] at h_; simp only [List.setIfInBounds_toArray, List.set_cons_zero, List.set_cons_succ] at h_; clear BK23 c_BK23 z_BK23; have BK23 := Aside0.mk h_; have c_BK23 := blk_cell h_; have z_BK23 := blk_frozen h_; clear h_; have hB_ : Below w.heap.size w W24 := (by rw [hw]; exact below_set (below_set (HB.out) hge_) hge_); clear HB hw hk_ hge_; have HB := Aside0.mk hB_; clear hB_))
 have h_ := Kd.R_drew HO15_0.out
 clear HO15_0
 have HO15_0 := Aside0.mk h_
 clear h_
 have h_ := Kd.R_drew HO16_0.out
 clear HO16_0
 have HO16_0 := Aside0.mk h_
 clear h_
 have h_ := Kd.R_drew HO17_0.out
 clear HO17_0
 have HO17_0 := Aside0.mk h_
 clear h_
 have h_ := Kd.R_drew HO20_0.out
 clear HO20_0
 have HO20_0 := Aside0.mk h_
 clear h_
 have h_ := Kd.R_drew HO21_0.out
 clear HO21_0
 have HO21_0 := Aside0.mk h_
 clear h_
 have h_ := Kd.R_drew HO22_0.out
 clear HO22_0
 have HO22_0 := Aside0.mk h_
 clear h_
 have h_ := blk_drew BK1.out
 clear BK1 c_BK1 z_BK1
 have BK1 := Aside0.mk h_
 clear h_
 have h_ := blk_drew BK2.out
 clear BK2 c_BK2 z_BK2
 have BK2 := Aside0.mk h_
 clear h_
 have h_ := blk_drew BK23.out
 clear BK23 c_BK23 z_BK23
 have BK23 := Aside0.mk h_
 clear h_
 have hB_ := below_drew1 HB.out
 clear HB
 have HB := Aside0.mk hB_
 clear hB_
 have Z27 : Aside0 (W24.heap.size ≤ W24.drew.heap.size) := ⟨Nat.le_refl _⟩
 refine start_ (n := 8) (S := fun w' => w'.cell? ⟨gb2, 0, none⟩ = some (.int .i64 a3_0) ∧ w'.cell? ⟨gb2, 1, none⟩ = some (.int .i64 a3_1) ∧ w'.cell? ⟨gb2, 2, none⟩ = some (.int .i64 a3_2) ∧ w'.cell? ⟨gb2, 3, none⟩ = some (.int .i64 a3_3) ∧ w'.cell? ⟨gb2, 4, none⟩ = some (.int .i64 a3_4) ∧ w'.cell? ⟨gb2, 5, none⟩ = some (.int .i64 a3_5) ∧ w'.cell? ⟨gb23, 0, none⟩ = some (.int .i64 t657) ∧ w'.cell? ⟨gb23, 1, none⟩ = some (.slice A22_0 n22_0 c22_0)) (ds := []) #[false, false, false, false, false, false, false, false] (by kernel_rfl) rfl rfl ⟨(blk_cell BK2.out 0).trans rfl, (blk_cell BK2.out 1).trans rfl, (blk_cell BK2.out 2).trans rfl, (blk_cell BK2.out 3).trans rfl, (blk_cell BK2.out 4).trans rfl, (blk_cell BK2.out 5).trans rfl, (blk_cell BK23.out 0).trans rfl, (blk_cell BK23.out 1).trans rfl⟩ (fun hHeld => ?_)
 generalize W24.drew = W27 at Z27 HB BK1 BK2 BK23 HO15_0 HO16_0 HO17_0 HO20_0 HO21_0 HO22_0 hHeld ⊢
 have c_BK1 := blk_cell BK1.out
 have z_BK1 := blk_frozen BK1.out
 have c_BK2 := blk_cell BK2.out
 have z_BK2 := blk_frozen BK2.out
 have c_BK23 := blk_cell BK23.out
 have z_BK23 := blk_frozen BK23.out
 refine pure_ (i := 0) (N := some 48) (v := ?_) (a' := ?_) #[true, false, false, false, false, false, false, false] rfl rfl (by kernel_rfl) (fun _ _ _ h => h) (Or.inl ⟨by rfl, ?_⟩) ?_ ?_
 rotate_left
 ·intro w'
  go_simp
  with_reducible rfl
 rotate_left
 ·simp only [Act.put, List.setIfInBounds_toArray, List.set_cons_zero, List.set_cons_succ, i64_w, i32_w]
  rfl
 refine pure_ (i := 1) (N := some 49) (v := ?_) (a' := ?_) #[true, true, false, false, false, false, false, false] rfl rfl (by kernel_rfl) (fun _ _ _ h => h) (Or.inl ⟨by rfl, ?_⟩) ?_ ?_
 rotate_left
 ·intro w'
  go_simp
  with_reducible rfl
 rotate_left
 ·simp only [Act.put, List.setIfInBounds_toArray, List.set_cons_zero, List.set_cons_succ, i64_w, i32_w]
  rfl
 refine pure_ (i := 5) (N := some 53) (v := ?_) (a' := ?_) #[true, true, false, false, false, true, false, false] rfl rfl (by kernel_rfl) (fun _ _ _ h => h) (Or.inl ⟨by rfl, ?_⟩) ?_ ?_
 rotate_left
 ·intro w'
  go_simp
  with_reducible rfl
 rotate_left
 ·simp only [Act.put, List.setIfInBounds_toArray, List.set_cons_zero, List.set_cons_succ, i64_w, i32_w]
  rfl
 refine take_ (i := 2) (N := some 50) (v := ?_) (a' := ?_) #[true, true, true, false, false, true, false, false] rfl rfl (by kernel_rfl) (fun _ _ _ h => h) (Or.inl ⟨by rfl, ?_⟩) hHeld ?_ ?_
 rotate_left
 ·rintro w' ⟨s0, s1, s2, s3, s4, s5, s6, s7⟩
  go_simp
  with_reducible rfl
 rotate_left
 ·simp only [Act.put, List.setIfInBounds_toArray, List.set_cons_zero, List.set_cons_succ, i64_w, i32_w]
  rfl
 refine take_ (i := 3) (N := some 51) (v := ?_) (a' := ?_) #[true, true, true, true, false, true, false, false] rfl rfl (by kernel_rfl) (fun _ _ _ h => h) (Or.inl ⟨by rfl, ?_⟩) hHeld ?_ ?_
 rotate_left
 ·rintro w' ⟨s0, s1, s2, s3, s4, s5, s6, s7⟩
  go_simp
  with_reducible rfl
 rotate_left
 ·simp only [Act.put, List.setIfInBounds_toArray, List.set_cons_zero, List.set_cons_succ, i64_w, i32_w]
  rfl
 refine one_ (i := 4) (N := some 52) #[true, true, true, true, true, true, false, false] rfl rfl (by kernel_rfl) (by decide) (fun K hK => ?_)
 have hcall := laws_toRequest.calls a3_0 a3_1 a3_2 a3_3 a3_4 a3_5 t662 t663 t664 t665 t666 t667 W27  HM25.out
 refine goes_ Tryz.func21 (by kernel_rfl) rfl #[.agg #[.int .i64 a3_0, .int .i64 a3_1, .int .i64 a3_2, .int .i64 a3_3, .int .i64 a3_4, .int .i64 a3_5]] (by rfl) rfl rfl (by (try simp only [List.map_toArray, List.map_cons, List.map_nil]); first | done | rfl) ?_
 refine hcall.mono ?_
 rintro e W28 ⟨rfl, hb⟩
 refine ⟨_, rfl, ?_⟩
 clear hcall
 have Z28 := Aside0.mk hb.size
 have h_ := Kd.R_below HO15_0.out hb
 clear HO15_0
 have HO15_0 := Aside0.mk h_
 clear h_
 have h_ := Kd.R_below HO16_0.out hb
 clear HO16_0
 have HO16_0 := Aside0.mk h_
 clear h_
 have h_ := Kd.R_below HO17_0.out hb
 clear HO17_0
 have HO17_0 := Aside0.mk h_
 clear h_
 have h_ := Kd.R_below HO20_0.out hb
 clear HO20_0
 have HO20_0 := Aside0.mk h_
 clear h_
 have h_ := Kd.R_below HO21_0.out hb
 clear HO21_0
 have HO21_0 := Aside0.mk h_
 clear h_
 have h_ := Kd.R_below HO22_0.out hb
 clear HO22_0
 have HO22_0 := Aside0.mk h_
 clear h_
 have h_ := blk_below BK1.out hb
 clear BK1 c_BK1 z_BK1
 have BK1 := Aside0.mk h_
 have c_BK1 := blk_cell h_
 have z_BK1 := blk_frozen h_
 clear h_
 have h_ := blk_below BK2.out hb
 clear BK2 c_BK2 z_BK2
 have BK2 := Aside0.mk h_
 have c_BK2 := blk_cell h_
 have z_BK2 := blk_frozen h_
 clear h_
 have h_ := blk_below BK23.out hb
 clear BK23 c_BK23 z_BK23
 have BK23 := Aside0.mk h_
 have c_BK23 := blk_cell h_
 have z_BK23 := blk_frozen h_
 clear h_
 have hB_ := below_step HB.out hb
 clear HB hb
 have HB := Aside0.mk hB_
 clear hB_
 refine hK.out _ _ ⟨(blk_cell BK2.out 0).trans rfl, (blk_cell BK2.out 1).trans rfl, (blk_cell BK2.out 2).trans rfl, (blk_cell BK2.out 3).trans rfl, (blk_cell BK2.out 4).trans rfl, (blk_cell BK2.out 5).trans rfl, (blk_cell BK23.out 0).trans rfl, (blk_cell BK23.out 1).trans rfl⟩ (fun hHeld => ?_)
 clear hK K
 refine norm_ (a' := ?_) ?_ ?_
 rotate_left
 ·show Act.put _ (some 52) _ = _
  simp only [Act.put, List.setIfInBounds_toArray, List.set_cons_zero, List.set_cons_succ, i64_w, i32_w]
  rfl
 refine one_ (i := 6) (N := some 54) #[true, true, true, true, true, true, true, false] rfl rfl (by kernel_rfl) (by decide) (fun K hK => ?_)
 have hcall := impl_DecisionUntil.calls k _ _ t651 _ _ t654 t657 _ _ t658 t662 t663 t664 t665 t666 t667 a4 t668 W28 (Go.Proofs.YtmgfklmhelabcaaGreatM.R_C HO20_0.out) (Go.Proofs.YtmgfklmhelabcaaGreatM.R_len HO20_0.out) (Go.Proofs.YtmgfklmhelabcaaGreatM.R_C HO21_0.out) (Go.Proofs.YtmgfklmhelabcaaGreatM.R_len HO21_0.out) (Go.Proofs.YtmgfklmhelabcaaGreatM.R_C HO22_0.out) (Go.Proofs.YtmgfklmhelabcaaGreatM.R_len HO22_0.out) HM26.out
 rw [Go.Proofs.YtmgfklmhelabcaaGreatM.R_n HO20_0.out, Go.Proofs.YtmgfklmhelabcaaGreatM.R_n HO21_0.out, Go.Proofs.YtmgfklmhelabcaaGreatM.R_n HO22_0.out] at hcall
 refine goes_ Tryz.func22 (by kernel_rfl) rfl #[.slice A20_0 n20_0 c20_0, .slice A21_0 n21_0 c21_0, .agg #[.int .i64 t657, .slice A22_0 n22_0 c22_0], .agg #[.int .i64 t662, .int .i64 t663, .int .i64 t664, .int .i64 t665, .int .i64 t666, .int .i64 t667], .int .i64 a4] (by rfl) rfl rfl (by (try simp only [List.map_toArray, List.map_cons, List.map_nil]); first | done | rfl) ?_
 refine hcall.mono ?_
 rintro e W29 ⟨rfl, hb⟩
 refine ⟨_, rfl, ?_⟩
 clear hcall
 have Z29 := Aside0.mk hb.size
 have h_ := Kd.R_below HO15_0.out hb
 clear HO15_0
 have HO15_0 := Aside0.mk h_
 clear h_
 have h_ := Kd.R_below HO16_0.out hb
 clear HO16_0
 have HO16_0 := Aside0.mk h_
 clear h_
 have h_ := Kd.R_below HO17_0.out hb
 clear HO17_0
 have HO17_0 := Aside0.mk h_
 clear h_
 have h_ := Kd.R_below HO20_0.out hb
 clear HO20_0
 have HO20_0 := Aside0.mk h_
 clear h_
 have h_ := Kd.R_below HO21_0.out hb
 clear HO21_0
 have HO21_0 := Aside0.mk h_
 clear h_
 have h_ := Kd.R_below HO22_0.out hb
 clear HO22_0
 have HO22_0 := Aside0.mk h_
 clear h_
 have h_ := blk_below BK1.out hb
 clear BK1 c_BK1 z_BK1
 have BK1 := Aside0.mk h_
 have c_BK1 := blk_cell h_
 have z_BK1 := blk_frozen h_
 clear h_
 have h_ := blk_below BK2.out hb
 clear BK2 c_BK2 z_BK2
 have BK2 := Aside0.mk h_
 have c_BK2 := blk_cell h_
 have z_BK2 := blk_frozen h_
 clear h_
 have h_ := blk_below BK23.out hb
 clear BK23 c_BK23 z_BK23
 have BK23 := Aside0.mk h_
 have c_BK23 := blk_cell h_
 have z_BK23 := blk_frozen h_
 clear h_
 have hB_ := below_step HB.out hb
 clear HB hb
 have HB := Aside0.mk hB_
 clear hB_
 refine hK.out _ _ ⟨(blk_cell BK2.out 0).trans rfl, (blk_cell BK2.out 1).trans rfl, (blk_cell BK2.out 2).trans rfl, (blk_cell BK2.out 3).trans rfl, (blk_cell BK2.out 4).trans rfl, (blk_cell BK2.out 5).trans rfl, (blk_cell BK23.out 0).trans rfl, (blk_cell BK23.out 1).trans rfl⟩ (fun hHeld => ?_)
 clear hK K
 refine norm_ (a' := ?_) ?_ ?_
 rotate_left
 ·show Act.put _ (some 54) _ = _
  simp only [Act.put, List.setIfInBounds_toArray, List.set_cons_zero, List.set_cons_succ, i64_w, i32_w]
  rfl
 refine pure_ (i := 7) (N := some 16) (v := ?_) (a' := ?_) #[true, true, true, true, true, true, true, true] rfl rfl (by kernel_rfl) (fun _ _ _ h => h) (Or.inl ⟨by rfl, ?_⟩) ?_ ?_
 rotate_left
 ·intro w'
  go_simp
  with_reducible rfl
 rotate_left
 ·simp only [Act.put, List.setIfInBounds_toArray, List.set_cons_zero, List.set_cons_succ, i64_w, i32_w]
  rfl
 refine done_ (by kernel_rfl) ?_
 clear hHeld
 have H := H'.out
 clear H'
 replace H := ifD H; rcases H with ⟨c30, H⟩ | ⟨c30, H⟩
 rotate_left
 ·have c30_1 : (t668 == t650) = false := beq_eq_false_iff_ne.mpr c30
  have c30_2 : (t668 != t650) = true := bne_iff_ne.mpr c30
  have c30_0 : decide (t668 = t650) = false := decide_eq_false c30
  clear c30
  cases H
  go_wp2
  go_ret
  exact ⟨rfl, HB.out⟩
 have c30_1 : (t668 == t650) = true := beq_iff_eq.mpr c30
 have c30_2 : (t668 != t650) = false := bne_eq_false_iff_eq.mpr c30
 have c30_0 : decide (t668 = t650) = true := decide_eq_true c30
 clear c30
 replace H := obs H
 obtain ⟨t669, hm, H⟩ := H
 (try dsimp only at H)
 have H' := Aside0.mk H
 clear H
 have hcall := laws_toIncludesS.calls k _ _ l0 t669 W29 (Kd.C_below HR0.out HB.out) HC0.out hm
 clear hm
 (go_wp2_with fail)
 refine hcall.mono ?_
 rintro e W31 ⟨v670, rfl, ho0, hb⟩
 clear hcall
 have Z31 := Aside0.mk hb.size
 have h_ := Kd.R_below HO15_0.out hb
 clear HO15_0
 have HO15_0 := Aside0.mk h_
 clear h_
 have h_ := Kd.R_below HO16_0.out hb
 clear HO16_0
 have HO16_0 := Aside0.mk h_
 clear h_
 have h_ := Kd.R_below HO17_0.out hb
 clear HO17_0
 have HO17_0 := Aside0.mk h_
 clear h_
 have h_ := Kd.R_below HO20_0.out hb
 clear HO20_0
 have HO20_0 := Aside0.mk h_
 clear h_
 have h_ := Kd.R_below HO21_0.out hb
 clear HO21_0
 have HO21_0 := Aside0.mk h_
 clear h_
 have h_ := Kd.R_below HO22_0.out hb
 clear HO22_0
 have HO22_0 := Aside0.mk h_
 clear h_
 obtain ⟨A31_0, n31_0, c31_0, rfl, hn_, hr_⟩ := Go.Proofs.YtmgfklmhelabcaaGreatM.R_made ho0 HB.out.size
 clear hn_ ho0
 have HO31_0 := Aside0.mk hr_
 clear hr_
 have h_ := blk_below BK1.out hb
 clear BK1 c_BK1 z_BK1
 have BK1 := Aside0.mk h_
 have c_BK1 := blk_cell h_
 have z_BK1 := blk_frozen h_
 clear h_
 have h_ := blk_below BK2.out hb
 clear BK2 c_BK2 z_BK2
 have BK2 := Aside0.mk h_
 have c_BK2 := blk_cell h_
 have z_BK2 := blk_frozen h_
 clear h_
 have h_ := blk_below BK23.out hb
 clear BK23 c_BK23 z_BK23
 have BK23 := Aside0.mk h_
 have c_BK23 := blk_cell h_
 have z_BK23 := blk_frozen h_
 clear h_
 have hB_ := below_step HB.out hb
 clear HB hb
 have HB := Aside0.mk hB_
 clear hB_
 have H := H'.out
 clear H'
 replace H := obs H
 obtain ⟨t672, hm, H⟩ := H
 (try dsimp only at H)
 have H' := Aside0.mk H
 clear H
 have hcall := laws_eqIncludesS.calls k _ _ t651 _ _ t669 t672 W31 (Go.Proofs.YtmgfklmhelabcaaGreatM.R_C HO20_0.out) (Go.Proofs.YtmgfklmhelabcaaGreatM.R_len HO20_0.out) (Go.Proofs.YtmgfklmhelabcaaGreatM.R_C HO31_0.out) (Go.Proofs.YtmgfklmhelabcaaGreatM.R_len HO31_0.out) hm
 rw [Go.Proofs.YtmgfklmhelabcaaGreatM.R_n HO20_0.out, Go.Proofs.YtmgfklmhelabcaaGreatM.R_n HO31_0.out] at hcall
 clear hm
 (go_wp2_with fail)
 refine hcall.mono ?_
 rintro e W32 ⟨rfl, hb⟩
 clear hcall
 have Z32 := Aside0.mk hb.size
 have h_ := Kd.R_below HO15_0.out hb
 clear HO15_0
 have HO15_0 := Aside0.mk h_
 clear h_
 have h_ := Kd.R_below HO16_0.out hb
 clear HO16_0
 have HO16_0 := Aside0.mk h_
 clear h_
 have h_ := Kd.R_below HO17_0.out hb
 clear HO17_0
 have HO17_0 := Aside0.mk h_
 clear h_
 have h_ := Kd.R_below HO20_0.out hb
 clear HO20_0
 have HO20_0 := Aside0.mk h_
 clear h_
 have h_ := Kd.R_below HO21_0.out hb
 clear HO21_0
 have HO21_0 := Aside0.mk h_
 clear h_
 have h_ := Kd.R_below HO22_0.out hb
 clear HO22_0
 have HO22_0 := Aside0.mk h_
 clear h_
 have h_ := Kd.R_below HO31_0.out hb
 clear HO31_0
 have HO31_0 := Aside0.mk h_
 clear h_
 have h_ := blk_below BK1.out hb
 clear BK1 c_BK1 z_BK1
 have BK1 := Aside0.mk h_
 have c_BK1 := blk_cell h_
 have z_BK1 := blk_frozen h_
 clear h_
 have h_ := blk_below BK2.out hb
 clear BK2 c_BK2 z_BK2
 have BK2 := Aside0.mk h_
 have c_BK2 := blk_cell h_
 have z_BK2 := blk_frozen h_
 clear h_
 have h_ := blk_below BK23.out hb
 clear BK23 c_BK23 z_BK23
 have BK23 := Aside0.mk h_
 have c_BK23 := blk_cell h_
 have z_BK23 := blk_frozen h_
 clear h_
 have hB_ := below_step HB.out hb
 clear HB hb
 have HB := Aside0.mk hB_
 clear hB_
 have H := H'.out
 clear H'
 replace H := ifD H; rcases H with ⟨c33, H⟩ | ⟨c33, H⟩
 rotate_left
 ·replace c33 : t672 = false := by simpa using c33
  subst c33
  cases H
  go_wp2
  go_ret
  exact ⟨rfl, HB.out⟩
 subst c33
 replace H := obs H
 obtain ⟨t673, hm, H⟩ := H
 (try dsimp only at H)
 have H' := Aside0.mk H
 clear H
 have hcall := laws_toFactS.calls k _ _ l1 t673 W32 (Kd.C_below HR1.out HB.out) HC1.out hm
 clear hm
 (go_wp2_with fail)
 refine hcall.mono ?_
 rintro e W34 ⟨v674, rfl, ho0, hb⟩
 clear hcall
 have Z34 := Aside0.mk hb.size
 have h_ := Kd.R_below HO15_0.out hb
 clear HO15_0
 have HO15_0 := Aside0.mk h_
 clear h_
 have h_ := Kd.R_below HO16_0.out hb
 clear HO16_0
 have HO16_0 := Aside0.mk h_
 clear h_
 have h_ := Kd.R_below HO17_0.out hb
 clear HO17_0
 have HO17_0 := Aside0.mk h_
 clear h_
 have h_ := Kd.R_below HO20_0.out hb
 clear HO20_0
 have HO20_0 := Aside0.mk h_
 clear h_
 have h_ := Kd.R_below HO21_0.out hb
 clear HO21_0
 have HO21_0 := Aside0.mk h_
 clear h_
 have h_ := Kd.R_below HO22_0.out hb
 clear HO22_0
 have HO22_0 := Aside0.mk h_
 clear h_
 have h_ := Kd.R_below HO31_0.out hb
 clear HO31_0
 have HO31_0 := Aside0.mk h_
 clear h_
 obtain ⟨A34_0, n34_0, c34_0, rfl, hn_, hr_⟩ := Go.Proofs.YtmgfklmhelabcaaGreatM.R_made ho0 HB.out.size
 clear hn_ ho0
 have HO34_0 := Aside0.mk hr_
 clear hr_
 have h_ := blk_below BK1.out hb
 clear BK1 c_BK1 z_BK1
 have BK1 := Aside0.mk h_
 have c_BK1 := blk_cell h_
 have z_BK1 := blk_frozen h_
 clear h_
 have h_ := blk_below BK2.out hb
 clear BK2 c_BK2 z_BK2
 have BK2 := Aside0.mk h_
 have c_BK2 := blk_cell h_
 have z_BK2 := blk_frozen h_
 clear h_
 have h_ := blk_below BK23.out hb
 clear BK23 c_BK23 z_BK23
 have BK23 := Aside0.mk h_
 have c_BK23 := blk_cell h_
 have z_BK23 := blk_frozen h_
 clear h_
 have hB_ := below_step HB.out hb
 clear HB hb
 have HB := Aside0.mk hB_
 clear hB_
 have H := H'.out
 clear H'
 replace H := obs H
 obtain ⟨t676, hm, H⟩ := H
 (try dsimp only at H)
 have H' := Aside0.mk H
 clear H
 have hcall := laws_eqFactS.calls k _ _ t654 _ _ t673 t676 W34 (Go.Proofs.YtmgfklmhelabcaaGreatM.R_C HO21_0.out) (Go.Proofs.YtmgfklmhelabcaaGreatM.R_len HO21_0.out) (Go.Proofs.YtmgfklmhelabcaaGreatM.R_C HO34_0.out) (Go.Proofs.YtmgfklmhelabcaaGreatM.R_len HO34_0.out) hm
 rw [Go.Proofs.YtmgfklmhelabcaaGreatM.R_n HO21_0.out, Go.Proofs.YtmgfklmhelabcaaGreatM.R_n HO34_0.out] at hcall
 clear hm
 (go_wp2_with fail)
 refine hcall.mono ?_
 rintro e W35 ⟨rfl, hb⟩
 clear hcall
 have Z35 := Aside0.mk hb.size
 have h_ := Kd.R_below HO15_0.out hb
 clear HO15_0
 have HO15_0 := Aside0.mk h_
 clear h_
 have h_ := Kd.R_below HO16_0.out hb
 clear HO16_0
 have HO16_0 := Aside0.mk h_
 clear h_
 have h_ := Kd.R_below HO17_0.out hb
 clear HO17_0
 have HO17_0 := Aside0.mk h_
 clear h_
 have h_ := Kd.R_below HO20_0.out hb
 clear HO20_0
 have HO20_0 := Aside0.mk h_
 clear h_
 have h_ := Kd.R_below HO21_0.out hb
 clear HO21_0
 have HO21_0 := Aside0.mk h_
 clear h_
 have h_ := Kd.R_below HO22_0.out hb
 clear HO22_0
 have HO22_0 := Aside0.mk h_
 clear h_
 have h_ := Kd.R_below HO31_0.out hb
 clear HO31_0
 have HO31_0 := Aside0.mk h_
 clear h_
 have h_ := Kd.R_below HO34_0.out hb
 clear HO34_0
 have HO34_0 := Aside0.mk h_
 clear h_
 have h_ := blk_below BK1.out hb
 clear BK1 c_BK1 z_BK1
 have BK1 := Aside0.mk h_
 have c_BK1 := blk_cell h_
 have z_BK1 := blk_frozen h_
 clear h_
 have h_ := blk_below BK2.out hb
 clear BK2 c_BK2 z_BK2
 have BK2 := Aside0.mk h_
 have c_BK2 := blk_cell h_
 have z_BK2 := blk_frozen h_
 clear h_
 have h_ := blk_below BK23.out hb
 clear BK23 c_BK23 z_BK23
 have BK23 := Aside0.mk h_
 have c_BK23 := blk_cell h_
 have z_BK23 := blk_frozen h_
 clear h_
 have hB_ := below_step HB.out hb
 clear HB hb
 have HB := Aside0.mk hB_
 clear hB_
 have H := H'.out
 clear H'
 replace H := ifD H; rcases H with ⟨c36, H⟩ | ⟨c36, H⟩
 rotate_left
 ·replace c36 : t676 = false := by simpa using c36
  subst c36
  cases H
  go_wp2
  go_ret
  exact ⟨rfl, HB.out⟩
 subst c36
 replace H := obs H
 obtain ⟨⟨t677, t678⟩, hm, H⟩ := H
 (try dsimp only at H)
 have HM37 := Aside0.mk hm
 clear hm
 replace H := obs H
 obtain ⟨t681, hm, H⟩ := H
 (try dsimp only at H)
 have HM38 := Aside0.mk hm
 clear hm
 have H' := Aside0.mk H
 clear H
 try go_wp2
 have h_ := Kd.R_drew HO15_0.out
 clear HO15_0
 have HO15_0 := Aside0.mk h_
 clear h_
 have h_ := Kd.R_drew HO16_0.out
 clear HO16_0
 have HO16_0 := Aside0.mk h_
 clear h_
 have h_ := Kd.R_drew HO17_0.out
 clear HO17_0
 have HO17_0 := Aside0.mk h_
 clear h_
 have h_ := Kd.R_drew HO20_0.out
 clear HO20_0
 have HO20_0 := Aside0.mk h_
 clear h_
 have h_ := Kd.R_drew HO21_0.out
 clear HO21_0
 have HO21_0 := Aside0.mk h_
 clear h_
 have h_ := Kd.R_drew HO22_0.out
 clear HO22_0
 have HO22_0 := Aside0.mk h_
 clear h_
 have h_ := Kd.R_drew HO31_0.out
 clear HO31_0
 have HO31_0 := Aside0.mk h_
 clear h_
 have h_ := Kd.R_drew HO34_0.out
 clear HO34_0
 have HO34_0 := Aside0.mk h_
 clear h_
 have h_ := blk_drew BK1.out
 clear BK1 c_BK1 z_BK1
 have BK1 := Aside0.mk h_
 clear h_
 have h_ := blk_drew BK2.out
 clear BK2 c_BK2 z_BK2
 have BK2 := Aside0.mk h_
 clear h_
 have h_ := blk_drew BK23.out
 clear BK23 c_BK23 z_BK23
 have BK23 := Aside0.mk h_
 clear h_
 have hB_ := below_drew1 HB.out
 clear HB
 have HB := Aside0.mk hB_
 clear hB_
 have Z39 : Aside0 (W35.heap.size ≤ W35.drew.heap.size) := ⟨Nat.le_refl _⟩
 refine start_ (n := 5) (S := fun w' => w'.cell? ⟨gb1, 0, none⟩ = some (.int .i64 a2_0) ∧ w'.cell? ⟨gb1, 1, none⟩ = some (.slice A2_1 l2_1.length c2_1) ∧ w'.cell? ⟨gb23, 0, none⟩ = some (.int .i64 t657) ∧ w'.cell? ⟨gb23, 1, none⟩ = some (.slice A22_0 n22_0 c22_0)) (ds := []) #[false, false, false, false, false] (by kernel_rfl) rfl rfl ⟨(blk_cell BK1.out 0).trans rfl, (blk_cell BK1.out 1).trans rfl, (blk_cell BK23.out 0).trans rfl, (blk_cell BK23.out 1).trans rfl⟩ (fun hHeld => ?_)
 generalize W35.drew = W39 at Z39 HB BK1 BK2 BK23 HO15_0 HO16_0 HO17_0 HO20_0 HO21_0 HO22_0 HO31_0 HO34_0 hHeld ⊢
 have c_BK1 := blk_cell BK1.out
 have z_BK1 := blk_frozen BK1.out
 have c_BK2 := blk_cell BK2.out
 have z_BK2 := blk_frozen BK2.out
 have c_BK23 := blk_cell BK23.out
 have z_BK23 := blk_frozen BK23.out
 refine take_ (i := 0) (N := some 68) (v := ?_) (a' := ?_) #[true, false, false, false, false] rfl rfl (by kernel_rfl) (fun _ _ _ h => h) (Or.inl ⟨by rfl, ?_⟩) hHeld ?_ ?_
 rotate_left
 ·rintro w' ⟨s0, s1, s2, s3⟩
  go_simp
  with_reducible rfl
 rotate_left
 ·simp only [Act.put, List.setIfInBounds_toArray, List.set_cons_zero, List.set_cons_succ, i64_w, i32_w]
  rfl
 refine take_ (i := 1) (N := some 69) (v := ?_) (a' := ?_) #[true, true, false, false, false] rfl rfl (by kernel_rfl) (fun _ _ _ h => h) (Or.inl ⟨by rfl, ?_⟩) hHeld ?_ ?_
 rotate_left
 ·rintro w' ⟨s0, s1, s2, s3⟩
  go_simp
  with_reducible rfl
 rotate_left
 ·simp only [Act.put, List.setIfInBounds_toArray, List.set_cons_zero, List.set_cons_succ, i64_w, i32_w]
  rfl
 refine one_ (i := 2) (N := some 70) #[true, true, true, false, false] rfl rfl (by kernel_rfl) (by decide) (fun K hK => ?_)
 have hcall := laws_toPolicy.calls k a2_0 _ _ l2_1 t677 t678 W39 (Kd.C_below HR2_1.out HB.out) HC2_1.out HM37.out
 refine goes_ Tryz.func20 (by kernel_rfl) rfl #[.agg #[.int .i64 a2_0, .slice A2_1 l2_1.length c2_1]] (by rfl) rfl rfl (by (try simp only [List.map_toArray, List.map_cons, List.map_nil]); first | done | rfl) ?_
 refine hcall.mono ?_
 rintro e W40 ⟨v679, rfl, ho0, hb⟩
 refine ⟨_, rfl, ?_⟩
 clear hcall
 have Z40 := Aside0.mk hb.size
 have h_ := Kd.R_below HO15_0.out hb
 clear HO15_0
 have HO15_0 := Aside0.mk h_
 clear h_
 have h_ := Kd.R_below HO16_0.out hb
 clear HO16_0
 have HO16_0 := Aside0.mk h_
 clear h_
 have h_ := Kd.R_below HO17_0.out hb
 clear HO17_0
 have HO17_0 := Aside0.mk h_
 clear h_
 have h_ := Kd.R_below HO20_0.out hb
 clear HO20_0
 have HO20_0 := Aside0.mk h_
 clear h_
 have h_ := Kd.R_below HO21_0.out hb
 clear HO21_0
 have HO21_0 := Aside0.mk h_
 clear h_
 have h_ := Kd.R_below HO22_0.out hb
 clear HO22_0
 have HO22_0 := Aside0.mk h_
 clear h_
 have h_ := Kd.R_below HO31_0.out hb
 clear HO31_0
 have HO31_0 := Aside0.mk h_
 clear h_
 have h_ := Kd.R_below HO34_0.out hb
 clear HO34_0
 have HO34_0 := Aside0.mk h_
 clear h_
 obtain ⟨A40_0, n40_0, c40_0, rfl, hn_, hr_⟩ := Go.Proofs.YtmgfklmhelabcaaGreatM.R_made ho0 HB.out.size
 clear hn_ ho0
 have HO40_0 := Aside0.mk hr_
 clear hr_
 have h_ := blk_below BK1.out hb
 clear BK1 c_BK1 z_BK1
 have BK1 := Aside0.mk h_
 have c_BK1 := blk_cell h_
 have z_BK1 := blk_frozen h_
 clear h_
 have h_ := blk_below BK2.out hb
 clear BK2 c_BK2 z_BK2
 have BK2 := Aside0.mk h_
 have c_BK2 := blk_cell h_
 have z_BK2 := blk_frozen h_
 clear h_
 have h_ := blk_below BK23.out hb
 clear BK23 c_BK23 z_BK23
 have BK23 := Aside0.mk h_
 have c_BK23 := blk_cell h_
 have z_BK23 := blk_frozen h_
 clear h_
 have hB_ := below_step HB.out hb
 clear HB hb
 have HB := Aside0.mk hB_
 clear hB_
 refine hK.out _ _ ⟨(blk_cell BK1.out 0).trans rfl, (blk_cell BK1.out 1).trans rfl, (blk_cell BK23.out 0).trans rfl, (blk_cell BK23.out 1).trans rfl⟩ (fun hHeld => ?_)
 clear hK K
 refine norm_ (a' := ?_) ?_ ?_
 rotate_left
 ·show Act.put _ (some 70) _ = _
  simp only [Act.put, List.setIfInBounds_toArray, List.set_cons_zero, List.set_cons_succ, i64_w, i32_w]
  rfl
 refine one_ (i := 3) (N := some 71) #[true, true, true, true, false] rfl rfl (by kernel_rfl) (by decide) (fun K hK => ?_)
 have hcall := laws_eqPolicy.calls k t657 _ _ t658 t677 _ _ t678 t681 W40 (Go.Proofs.YtmgfklmhelabcaaGreatM.R_C HO22_0.out) (Go.Proofs.YtmgfklmhelabcaaGreatM.R_len HO22_0.out) (Go.Proofs.YtmgfklmhelabcaaGreatM.R_C HO40_0.out) (Go.Proofs.YtmgfklmhelabcaaGreatM.R_len HO40_0.out) HM38.out
 rw [Go.Proofs.YtmgfklmhelabcaaGreatM.R_n HO22_0.out, Go.Proofs.YtmgfklmhelabcaaGreatM.R_n HO40_0.out] at hcall
 refine goes_ Tryz.func25 (by kernel_rfl) rfl #[.agg #[.int .i64 t657, .slice A22_0 n22_0 c22_0], .agg #[.int .i64 t677, .slice A40_0 n40_0 c40_0]] (by rfl) rfl rfl (by (try simp only [List.map_toArray, List.map_cons, List.map_nil]); first | done | rfl) ?_
 refine hcall.mono ?_
 rintro e W41 ⟨rfl, hb⟩
 refine ⟨_, rfl, ?_⟩
 clear hcall
 have Z41 := Aside0.mk hb.size
 have h_ := Kd.R_below HO15_0.out hb
 clear HO15_0
 have HO15_0 := Aside0.mk h_
 clear h_
 have h_ := Kd.R_below HO16_0.out hb
 clear HO16_0
 have HO16_0 := Aside0.mk h_
 clear h_
 have h_ := Kd.R_below HO17_0.out hb
 clear HO17_0
 have HO17_0 := Aside0.mk h_
 clear h_
 have h_ := Kd.R_below HO20_0.out hb
 clear HO20_0
 have HO20_0 := Aside0.mk h_
 clear h_
 have h_ := Kd.R_below HO21_0.out hb
 clear HO21_0
 have HO21_0 := Aside0.mk h_
 clear h_
 have h_ := Kd.R_below HO22_0.out hb
 clear HO22_0
 have HO22_0 := Aside0.mk h_
 clear h_
 have h_ := Kd.R_below HO31_0.out hb
 clear HO31_0
 have HO31_0 := Aside0.mk h_
 clear h_
 have h_ := Kd.R_below HO34_0.out hb
 clear HO34_0
 have HO34_0 := Aside0.mk h_
 clear h_
 have h_ := Kd.R_below HO40_0.out hb
 clear HO40_0
 have HO40_0 := Aside0.mk h_
 clear h_
 have h_ := blk_below BK1.out hb
 clear BK1 c_BK1 z_BK1
 have BK1 := Aside0.mk h_
 have c_BK1 := blk_cell h_
 have z_BK1 := blk_frozen h_
 clear h_
 have h_ := blk_below BK2.out hb
 clear BK2 c_BK2 z_BK2
 have BK2 := Aside0.mk h_
 have c_BK2 := blk_cell h_
 have z_BK2 := blk_frozen h_
 clear h_
 have h_ := blk_below BK23.out hb
 clear BK23 c_BK23 z_BK23
 have BK23 := Aside0.mk h_
 have c_BK23 := blk_cell h_
 have z_BK23 := blk_frozen h_
 clear h_
 have hB_ := below_step HB.out hb
 clear HB hb
 have HB := Aside0.mk hB_
 clear hB_
 refine hK.out _ _ ⟨(blk_cell BK1.out 0).trans rfl, (blk_cell BK1.out 1).trans rfl, (blk_cell BK23.out 0).trans rfl, (blk_cell BK23.out 1).trans rfl⟩ (fun hHeld => ?_)
 clear hK K
 refine norm_ (a' := ?_) ?_ ?_
 rotate_left
 ·show Act.put _ (some 71) _ = _
  simp only [Act.put, List.setIfInBounds_toArray, List.set_cons_zero, List.set_cons_succ, i64_w, i32_w]
  rfl
 refine pure_ (i := 4) (N := some 72) (v := ?_) (a' := ?_) #[true, true, true, true, true] rfl rfl (by kernel_rfl) (fun _ _ _ h => h) (Or.inl ⟨by rfl, ?_⟩) ?_ ?_
 rotate_left
 ·intro w'
  go_simp
  with_reducible rfl
 rotate_left
 ·simp only [Act.put, List.setIfInBounds_toArray, List.set_cons_zero, List.set_cons_succ, i64_w, i32_w]
  rfl
 refine done_ (by kernel_rfl) ?_
 clear hHeld
 have H := H'.out
 clear H'
 replace H := ifD H; rcases H with ⟨c42, H⟩ | ⟨c42, H⟩
 ·subst c42
  cases H
  go_wp2
  go_ret
  exact ⟨rfl, HB.out⟩
 replace c42 : t681 = false := by simpa using c42
 subst c42
 cases H
 go_wp2
 go_ret
 exact ⟨rfl, HB.out⟩
section
open Go.Proofs.YtmgfklmhelabcaaGreatO
def g156 (x : S156) : Prop := (Lit.int .i64 x.f0).wf = true ∧ (Lit.int .i64 x.f1).wf = true
theorem opens156 (n : Nat) : Opens Tryz.prog 156 k156 g156 n :=
 opens_imp (opens_iso (fun x : S156 => (x.f0, x.f1)) (fun x => (⟨x.1, x.2⟩ : S156)) (fun _ => rfl) (opens_struct Tryz.underlying156 (by kernel_rfl) fun m _ => (fields_cons rfl (by kernel_rfl) (opens_int Tryz.underlying3 m) (fields_one rfl (by kernel_rfl) (opens_int Tryz.underlying3 m))))) (fun _ h => h)
def g158 (x : S158) : Prop := (Lit.int .i64 x.f0).wf = true ∧ (Lit.int .i64 x.f1).wf = true ∧ (Lit.int .i64 x.f2).wf = true ∧ (Lit.int .i64 x.f3).wf = true ∧ (Lit.int .i64 x.f4).wf = true ∧ (Lit.int .i64 x.f5).wf = true
theorem opens158 (n : Nat) : Opens Tryz.prog 158 k158 g158 n :=
 opens_imp (opens_iso (fun x : S158 => (x.f0, x.f1, x.f2, x.f3, x.f4, x.f5)) (fun x => (⟨x.1, x.2.1, x.2.2.1, x.2.2.2.1, x.2.2.2.2.1, x.2.2.2.2.2⟩ : S158)) (fun _ => rfl) (opens_struct Tryz.underlying158 (by kernel_rfl) fun m _ => (fields_cons rfl (by kernel_rfl) (opens_int Tryz.underlying3 m) (fields_cons rfl (by kernel_rfl) (opens_int Tryz.underlying3 m) (fields_cons rfl (by kernel_rfl) (opens_int Tryz.underlying3 m) (fields_cons rfl (by kernel_rfl) (opens_int Tryz.underlying3 m) (fields_cons rfl (by kernel_rfl) (opens_int Tryz.underlying3 m) (fields_one rfl (by kernel_rfl) (opens_int Tryz.underlying3 m))))))))) (fun _ h => h)
def GF188 (G : S188 → Prop) (x : S188) : Prop := (Lit.int .i64 x.f0).wf = true ∧ (Lit.int .i64 x.f1).wf = true ∧ (Lit.int .i64 x.f2).wf = true ∧ (x.f3.length ≤ maxLen ∧ ∀ y_ ∈ x.f3, G y_)
def g188 (x : S188) : Prop := ∃ k, Nat.rec (motive := fun _ => S188 → Prop) (fun _ => False) (fun _ G => GF188 G) k x
theorem gmono188 {G G' : S188 → Prop} (h : ∀ x, G x → G' x) (x : S188) (hx : GF188 G x) : GF188 G' x := by
 unfold GF188 at hx ⊢
 obtain ⟨h0, h1, h2, h3⟩ := hx
 exact ⟨h0, h1, h2, ⟨h3.1, fun y hy => h y (h3.2 y hy)⟩⟩
theorem opens188 (n : Nat) : Opens Tryz.prog 188 k188 g188 n :=
 opens_fix F188 4 [188] sz188 (Kd.upto_E sub188) GF188 (fun n d G hsz h => opens_imp (opens_iso (fun x : S188 => (x.f0, x.f1, x.f2, x.f3)) (fun x => (⟨x.1, x.2.1, x.2.2.1, x.2.2.2⟩ : S188)) (fun _ => rfl) (opens_struct Tryz.underlying188 (by first | (rw [show (Kd.pair _ _).sz = _ from rfl]; kernel_rfl) | kernel_rfl) fun m hm => have hd : Tryz.prog.cellsOf 188 = d.sz := (by rw [hsz]; kernel_rfl); (fields_cons rfl (by kernel_rfl) (opens_int Tryz.underlying3 m) (fields_cons rfl (by kernel_rfl) (opens_int Tryz.underlying3 m) (fields_cons rfl (by kernel_rfl) (opens_int Tryz.underlying3 m) (fields_one rfl (by kernel_rfl) (opens_slice Tryz.underlying186 hd fun m' hm' => h m' (Nat.lt_trans hm' hm)))))))) (fun _ h => h)) (fun e h => mono188.K _ _ e h) (fun h => gmono188 h) n
def g190 (x : S190) : Prop := (Lit.int .i64 x.f0).wf = true ∧ (Lit.int .i64 x.f1).wf = true ∧ (Lit.int .i64 x.f2).wf = true ∧ g188 x.f3
theorem opens190 (n : Nat) : Opens Tryz.prog 190 k190 g190 n :=
 opens_imp (opens_iso (fun x : S190 => (x.f0, x.f1, x.f2, x.f3)) (fun x => (⟨x.1, x.2.1, x.2.2.1, x.2.2.2⟩ : S190)) (fun _ => rfl) (opens_struct Tryz.underlying190 (by kernel_rfl) fun m _ => (fields_cons rfl (by kernel_rfl) (opens_int Tryz.underlying3 m) (fields_cons rfl (by kernel_rfl) (opens_int Tryz.underlying3 m) (fields_cons rfl (by kernel_rfl) (opens_int Tryz.underlying3 m) (fields_one rfl (by kernel_rfl) (opens188 m))))))) (fun _ h => h)
def g26 (x : S26) : Prop := (Lit.int .i64 x.f0).wf = true ∧ (x.f1.length ≤ maxLen ∧ ∀ y_ ∈ x.f1, g190 y_)
theorem opens26 (n : Nat) : Opens Tryz.prog 26 k26 g26 n :=
 opens_imp (opens_iso (fun x : S26 => (x.f0, x.f1)) (fun x => (⟨x.1, x.2⟩ : S26)) (fun _ => rfl) (opens_struct Tryz.underlying26 (by kernel_rfl) fun m _ => (fields_cons rfl (by kernel_rfl) (opens_int Tryz.underlying3 m) (fields_one rfl (by kernel_rfl) (opens_slice Tryz.underlying24 (by kernel_rfl) fun m _ => (opens190 m)))))) (fun _ h => h)
def g28 (x : S28) : Prop := (Lit.int .i64 x.f0).wf = true ∧ (Lit.int .i64 x.f1).wf = true ∧ (Lit.int .i64 x.f2).wf = true ∧ (Lit.int .i64 x.f3).wf = true ∧ (Lit.int .i64 x.f4).wf = true ∧ (Lit.int .i64 x.f5).wf = true
theorem opens28 (n : Nat) : Opens Tryz.prog 28 k28 g28 n :=
 opens_imp (opens_iso (fun x : S28 => (x.f0, x.f1, x.f2, x.f3, x.f4, x.f5)) (fun x => (⟨x.1, x.2.1, x.2.2.1, x.2.2.2.1, x.2.2.2.2.1, x.2.2.2.2.2⟩ : S28)) (fun _ => rfl) (opens_struct Tryz.underlying28 (by kernel_rfl) fun m _ => (fields_cons rfl (by kernel_rfl) (opens_int Tryz.underlying3 m) (fields_cons rfl (by kernel_rfl) (opens_int Tryz.underlying3 m) (fields_cons rfl (by kernel_rfl) (opens_int Tryz.underlying3 m) (fields_cons rfl (by kernel_rfl) (opens_int Tryz.underlying3 m) (fields_cons rfl (by kernel_rfl) (opens_int Tryz.underlying3 m) (fields_one rfl (by kernel_rfl) (opens_int Tryz.underlying3 m))))))))) (fun _ h => h)
end
def laws_FnExactDecisionUntil.Pure : Prop := ∀ (l0 : List (S156)) (l1 : List (S158)) (x2 : S26) (x3 : S28) (a4 : Int), l0.length ≤ maxLen → (∀ y_ ∈ l0, g156 y_) → l1.length ≤ maxLen → (∀ y_ ∈ l1, g158 y_) → g26 x2 → g28 x3 → (Lit.int .i64 a4).wf = true → ∃ k, laws_FnExactDecisionUntil.f k l0 l1 x2.f0 x2.f1 x3.f0 x3.f1 x3.f2 x3.f3 x3.f4 x3.f5 a4 = some true
end Go.Proofs.YtmgfklmhelabcaaGreat.QFnExactDecisionUntil
