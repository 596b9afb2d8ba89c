/- The machine side of FnExactSaveDecision: what each function that it reaches computes, and that the machine's call gives just that. -/
import Derived.Test.YtmgfklmhelabcaaGreatQFnExactSaveDecisionx0
import Derived.Test.YtmgfklmhelabcaaGreatQFnExactSaveDecisionx10
import Derived.Test.YtmgfklmhelabcaaGreatQFnExactSaveDecisionx13
import Derived.Test.YtmgfklmhelabcaaGreatQFnExactSaveDecisionx15
namespace Go.Proofs.YtmgfklmhelabcaaGreat.QFnExactSaveDecision
open Go.RowKit Go.Proofs.YtmgfklmhelabcaaGreatW.PrintWords Go.Proofs.YtmgfklmhelabcaaGreatW.PrintLast Go.Proofs.YtmgfklmhelabcaaGreatW.PrintMore
attribute [local go_sem] max2_int min2_int max_two min_two max_three min_three max_four min_four
set_option maxHeartbeats 8000000
set_option maxRecDepth 100000
open Go.Proofs.YtmgfklmhelabcaaGreatM
set_option linter.unusedVariables false
set_option linter.unusedSimpArgs false
def impl_RulesThatHold.l0 : Nat → List (S154) → List (S136) → List Int → List (S174) → Int → Int → Int → Int → Int → Int → Int → Int → Option (List Int)
 | 0, _, _, _, _, _, _, _, _, _, _, _, _ => none
 | k + 1, x0, x1, x9, x14, x15, x16, x603000, x603001, x603002, x603003, x603004, x603005 => if x16 < x15 then (if 0 ≤ x16 then (if x16 < (x14.length : Int) then ((impl_IsFor.f ((rd_T174 x14 x16).f0) ((rd_T174 x14 x16).f1) ((rd_T174 x14 x16).f2) ((rd_T174 x14 x16).f3.f0) ((rd_T174 x14 x16).f3.f1) ((rd_T174 x14 x16).f3.f2) ((rd_T174 x14 x16).f3.f3) x603003 x603004).bind fun t608 => (if t608 = true then ((impl_EvalCond.f k x0 x1 ((rd_T174 x14 x16).f3.f0) ((rd_T174 x14 x16).f3.f1) ((rd_T174 x14 x16).f3.f2) ((rd_T174 x14 x16).f3.f3) x603000 x603001 x603002 x603003 x603004 x603005).bind fun t609 => (if t609 = true then (if x9.length < 17592186044416 then (impl_RulesThatHold.l0 k x0 x1 (x9 ++ [x16]) x14 x15 (wrap64 (x16 + 1)) x603000 x603001 x603002 x603003 x603004 x603005) else (none)) else (impl_RulesThatHold.l0 k x0 x1 x9 x14 x15 (wrap64 (x16 + 1)) x603000 x603001 x603002 x603003 x603004 x603005))) else (impl_RulesThatHold.l0 k x0 x1 x9 x14 x15 (wrap64 (x16 + 1)) x603000 x603001 x603002 x603003 x603004 x603005))) else (none)) else (none)) else (some x9)
def impl_RulesThatHold.f (k : Nat) (l0 : List (S154)) (l1 : List (S136)) (a2_0 : Int) (l2_1 : List (S174)) (a3_0 : Int) (a3_1 : Int) (a3_2 : Int) (a3_3 : Int) (a3_4 : Int) (a3_5 : Int) : Option (List Int) := impl_RulesThatHold.l0 k l0 l1 (([] : List Int)) l2_1 (l2_1.length : Int) 0 a3_0 a3_1 a3_2 a3_3 a3_4 a3_5
theorem impl_RulesThatHold.calls (k : Nat) (A0 : Option Addr) (c0 : Nat) (l0 : List (S154)) (A1 : Option Addr) (c1 : Nat) (l1 : List (S136)) (a2_0 : Int) (A2_1 : Option Addr) (c2_1 : Nat) (l2_1 : List (S174)) (a3_0 : Int) (a3_1 : Int) (a3_2 : Int) (a3_3 : Int) (a3_4 : Int) (a3_5 : Int) (r : List Int) (w : World) (hr0 : Kd.C k154 w A0 l0.length l0) (hc0 : l0.length ≤ c0) (hr1 : Kd.C k136 w A1 l1.length l1) (hc1 : l1.length ≤ c1) (hr2_1 : Kd.C k174 w A2_1 l2_1.length l2_1) (hc2_1 : l2_1.length ≤ c2_1) (h : impl_RulesThatHold.f k l0 l1 a2_0 l2_1 a3_0 a3_1 a3_2 a3_3 a3_4 a3_5 = some r) :
  Calls Tryz.prog 114 #[.slice A0 l0.length c0, .slice A1 l1.length c1, .agg #[.int .i64 a2_0, .slice A2_1 l2_1.length c2_1], .agg #[.int .i64 a3_0, .int .i64 a3_1, .int .i64 a3_2, .int .i64 a3_3, .int .i64 a3_4, .int .i64 a3_5]] w fun e w' => ∃ v0_ : Value, e = .returned (v0_) ∧ Kd.R (Kd.int .i64) 3 w' w.heap.size (fun _ => True) v0_ r ∧ Below w.heap.size w w' := by
 have HR0 := Aside0.mk hr0
 have HC0 := Aside0.mk hc0
 clear hr0 hc0
 have HR1 := Aside0.mk hr1
 have HC1 := Aside0.mk hc1
 clear hr1 hc1
 have HR2_1 := Aside0.mk hr2_1
 have HC2_1 := Aside0.mk hc2_1
 clear hr2_1 hc2_1
 have HB := Aside0.mk (Below.refl w.heap.size w)
 have H := h
 clear h
 unfold impl_RulesThatHold.f at H
 have hu39 := Tryz.underlying39
 have hu41 := Tryz.underlying41
 have hu172 := Tryz.underlying172
 have hu174 := Tryz.underlying174
 go_enter Tryz.func114, Tryz.ntmps114
 replace H := Aside0.mk H
 go_upto_region 1 with (first | ((with_reducible refine gate_dst (N := 6) rfl ?_); refine box_event ?hg (N := 6) ?hd (cs := #[.int .i64 a2_0, .slice A2_1 l2_1.length c2_1]) (t := 39) ?hr ?_; (case hd => rfl); (case hg => rfl); (case hr => first | (go_simp; done) | (go_simp; rfl)); intro gb1 hg W1 hbox hb; replace HB := bH HB hb; clear hb; have BK1 := Aside0.mk hbox; have c_BK1 := blk_cell hbox; have z_BK1 := blk_frozen hbox; clear hg hbox) | ((with_reducible refine gate_dst (N := 7) rfl ?_); refine box_event ?hg (N := 7) ?hd (cs := #[.int .i64 a3_0, .int .i64 a3_1, .int .i64 a3_2, .int .i64 a3_3, .int .i64 a3_4, .int .i64 a3_5]) (t := 41) ?hr ?_; (case hd => rfl); (case hg => rfl); (case hr => first | (go_simp; done) | (go_simp; rfl)); intro gb2 hg W2 hbox hb; replace BK1 := bK BK1 hb; replace c_BK1 := bcl BK1; replace z_BK1 := bfr BK1; replace HB := bH HB hb; clear hb; have BK2 := Aside0.mk hbox; have c_BK2 := blk_cell hbox; have z_BK2 := blk_frozen hbox; clear hg hbox))
 go_upto_region 2 with (first | ((with_reducible refine gate_dst (N := 12) rfl ?_); refine Kd.R_lit (Kd.int .i64) (w0 := W2) w.heap.size 3 ?hg (N := 12) ?hd (xs := ([] : List Int)) (inner := []) (ok := fun _ => True) (okp := fun _ => True) ?hr ?hp (fun _ hk => hk) trivial (Below.refl _ _) (below_size zB) (by simp) ?_; (case hd => rfl); (case hg => rfl); (case hr => first | (go_simp; done) | (go_simp; rfl)); (case hp => exact (Reps.none _ _)); intro v3_ W3 ho hb0_ hg_ hnew_; have hb : Below W2.heap.size W2 W3 := ⟨hb0_.os, hb0_.tape, hb0_.output, hb0_.size, fun k_ hk_ => hg_.block k_ hk_ (by simp)⟩; clear hg_ hnew_; obtain ⟨A3_0, c3_0, rfl⟩ := Kd.R_slice ho; obtain ⟨n3_0, hn3_0⟩ : ∃ n_, n_ = ([] : List Int).length := ⟨_, rfl⟩; rw [← hn3_0] at ho ⊢; replace hn3_0 := Aside0.mk hn3_0; have HO3_0 := Aside0.mk ho; replace BK1 := bK BK1 hb; replace c_BK1 := bcl BK1; replace z_BK1 := bfr BK1; replace BK2 := bK BK2 hb; replace c_BK2 := bcl BK2; replace z_BK2 := bfr BK2; replace HB := bH HB hb; clear hb; clear ho hb0_))
 go_wp2
 go_loopg [9, 16] k (fun kq v9 v16 w' => ∃ (x9_4 : List Int) (x16_4 : Int), v16 = .int .i64 x16_4 ∧ Aside0 (impl_RulesThatHold.l0 kq l0 l1 x9_4 l2_1 (l2_1.length : Int) x16_4 a3_0 a3_1 a3_2 a3_3 a3_4 a3_5 = some r) ∧ Aside0 (kq ≤ k) ∧ Aside0 (w'.heap[gb1]? = some (.cells #[.int .i64 a2_0, .slice A2_1 l2_1.length c2_1] 39 (0, 0))) ∧ Aside0 (w'.heap[gb2]? = some (.cells #[.int .i64 a3_0, .int .i64 a3_1, .int .i64 a3_2, .int .i64 a3_3, .int .i64 a3_4, .int .i64 a3_5] 41 (0, 0))) ∧ Aside0 (Kd.R (Kd.int .i64) 3 w' w.heap.size (fun _ => True) v9 x9_4) ∧ Aside0 (Below w.heap.size w w'))
 case atStart => exact ⟨(([] : List Int)), (0), zT, H, ⟨Nat.le_refl _⟩, BK1, BK2, ⟨Kd.R_mono HO3_0.out (fun _ _ => trivial)⟩, HB⟩
 case round =>
  clear H HB BK1 c_BK1 z_BK1 BK2 c_BK2 z_BK2 HO3_0
  obtain ⟨x9_4, x16_4, rfl, HA, Hk4, BK1, BK2, HOL9_4, HB⟩ := hrel
  obtain ⟨AL9_4, cL9_4, rfl⟩ := Kd.R_slice HOL9_4.out
  have c_BK1 := bcl BK1; have z_BK1 := bfr BK1
  have c_BK2 := bcl BK2; have z_BK2 := bfr BK2
  cases gk with
  | zero => exact absurd HA.out (by simp [impl_RulesThatHold.l0])
  | succ k4 =>
   have H := HA.out; clear HA; simp only [impl_RulesThatHold.l0] at H; replace H := ifD H; rcases H with ⟨c5, H⟩ | ⟨c5, H⟩; rotate_left
   ·have c5_0 := decF c5; replace c5 := Aside0.mk c5; (try rw [c5_0]); cases H; go_wp2; go_ret; exact ⟨_, rfl, Kd.R_mono HOL9_4.out (fun _ _ => trivial), HB.out⟩
   have c5_0 := decT c5; replace c5 := Aside0.mk c5; (try rw [c5_0]); replace H := ifN H; obtain ⟨c6, H⟩ := H; have c6_0 := decT c6; replace c6 := Aside0.mk c6; (try rw [c6_0]); replace H := ifN H; obtain ⟨c7, H⟩ := H; have c7_0 := decT c7; replace c7 := Aside0.mk c7; (try rw [c7_0]); have p606 : 0 ≤ (x16_4 : Int) := (of_decide_eq_true (by assumption)); have q606 : x16_4 < (l2_1.length : Int) := (of_decide_eq_true (by assumption)); obtain ⟨ad606, A606_6, c606_6, e606, hx606_0, hx606_1, hx606_2, hx606_3, hx606_4, hx606_5, hx606_6, hl606_6, hi606_6⟩ := at_T174 HR2_1.out x16_4 p606 q606; cases e606; have HR606_6 := Aside0.mk hi606_6; have HC606_6 := Aside0.mk hl606_6; clear hi606_6 hl606_6; replace hx606_0 := Aside0.mk hx606_0; have y606_0 := xC HB hx606_0; replace hx606_1 := Aside0.mk hx606_1; have y606_1 := xC HB hx606_1; replace hx606_2 := Aside0.mk hx606_2; have y606_2 := xC HB hx606_2; replace hx606_3 := Aside0.mk hx606_3; have y606_3 := xC HB hx606_3; replace hx606_4 := Aside0.mk hx606_4; have y606_4 := xC HB hx606_4; replace hx606_5 := Aside0.mk hx606_5; have y606_5 := xC HB hx606_5; replace hx606_6 := Aside0.mk hx606_6; have y606_6 := xC HB hx606_6; have r606 := eq_true p606; have s606 := eq_true q606; replace p606 := Aside0.mk p606; replace q606 := Aside0.mk q606; replace H := Aside0.mk H; go_upto_region 5 with (first | ((with_reducible refine gate_dst (N := 11) rfl ?_); refine box_event ?hg (N := 11) ?hd (cs := #[.int .i64 0, .int .i64 0, .int .i64 0, .int .i64 0, .int .i64 0, .int .i64 0, .slice none 0 0]) (t := 174) ?hr ?_; (case hd => rfl); (case hg => rfl); (case hr => first | (go_simp; done) | (go_simp; rfl)); intro gb8 hg W8 hbox hb; have G8 := Aside0.mk hg; have b0_ := Aside0.mk hb; have BK8 := Aside0.mk hbox; have c_BK8 := blk_cell hbox; have z_BK8 := blk_frozen hbox; clear hg hb hbox) | ((with_reducible refine gate_store (t := 174) (p := 11) rfl ?_); refine store_event (t := 174) (p := 11) (v := ?vo_s9) (w1 := (((((((W8.setCell ⟨gb8, 0, none⟩ (.int .i64 ((rd_T174 l2_1 x16_4).f0))).setCell ⟨gb8, 1, none⟩ (.int .i64 ((rd_T174 l2_1 x16_4).f1))).setCell ⟨gb8, 2, none⟩ (.int .i64 ((rd_T174 l2_1 x16_4).f2))).setCell ⟨gb8, 3, none⟩ (.int .i64 ((rd_T174 l2_1 x16_4).f3.f0))).setCell ⟨gb8, 4, none⟩ (.int .i64 ((rd_T174 l2_1 x16_4).f3.f1))).setCell ⟨gb8, 5, none⟩ (.int .i64 ((rd_T174 l2_1 x16_4).f3.f2))).setCell ⟨gb8, 6, none⟩ (.slice A606_6 ((rd_T174 l2_1 x16_4).f3.f3).length c606_6))) ?hg ?ho ?hn ?hr ?_; (case ho => rfl); (case hg => rfl); (case hn => rfl); (case hr => first | (go_simp; done) | (go_simp; rfl)); intro W9 hw; have hb : Below wr.heap.size wr W9 := (by rw [hw]; exact bSet (bSet (bSet (bSet (bSet (bSet (bSet (b0_.out) (Nat.le_of_eq G8.out.symm)) (Nat.le_of_eq G8.out.symm)) (Nat.le_of_eq G8.out.symm)) (Nat.le_of_eq G8.out.symm)) (Nat.le_of_eq G8.out.symm)) (Nat.le_of_eq G8.out.symm)) (Nat.le_of_eq G8.out.symm)); clear b0_; have h_ := blk_set (blk_set (blk_set (blk_set (blk_set (blk_set (blk_set (BK8.out) 0 (.int .i64 ((rd_T174 l2_1 x16_4).f0))) 1 (.int .i64 ((rd_T174 l2_1 x16_4).f1))) 2 (.int .i64 ((rd_T174 l2_1 x16_4).f2))) 3 (.int .i64 ((rd_T174 l2_1 x16_4).f3.f0))) 4 (.int .i64 ((rd_T174 l2_1 x16_4).f3.f1))) 5 (.int .i64 ((rd_T174 l2_1 x16_4).f3.f2))) 6 (.slice A606_6 ((rd_T174 l2_1 x16_4).f3.f3).length c606_6); rw [← hw] at h_; simp only [List.setIfInBounds_toArray, List.set_cons_zero, List.set_cons_succ] at h_; clear BK8 c_BK8 z_BK8 hw; replace HOL9_4 := bR HOL9_4 hb; replace BK1 := bK BK1 hb; replace c_BK1 := bcl BK1; replace z_BK1 := bfr BK1; replace BK2 := bK BK2 hb; replace c_BK2 := bcl BK2; replace z_BK2 := bfr BK2; replace HB := bH HB hb; clear hb; have BK8 := Aside0.mk h_; have c_BK8 := blk_cell h_; have z_BK8 := blk_frozen h_; clear h_ G8))
   (try clear y606_0 y606_1 y606_2 y606_3 y606_4 y606_5 y606_6); replace H := H.out; replace H := obs H; obtain ⟨t608, hm, H⟩ := H; (try dsimp only at H); replace H := Aside0.mk H; have hcall := impl_IsFor.calls _ _ _ _ _ _ _ _ _ _ _ _ W9 (Kd.C_below HR606_6.out HB.out) HC606_6.out hm; clear hm; (go_wp2_with fail)
   refine hcall.mono ?_; rintro e W10 ⟨rfl, hb⟩; clear hcall; replace HOL9_4 := bR HOL9_4 hb; replace BK1 := bK BK1 hb; replace c_BK1 := bcl BK1; replace z_BK1 := bfr BK1; replace BK2 := bK BK2 hb; replace c_BK2 := bcl BK2; replace z_BK2 := bfr BK2; replace BK8 := bK BK8 hb; replace c_BK8 := bcl BK8; replace z_BK8 := bfr BK8; replace HB := bH HB hb; clear hb; replace H := ifD H.out; rcases H with ⟨c11, H⟩ | ⟨c11, H⟩; rotate_left
   ·replace c11 := nT c11; subst c11; replace H := Aside0.mk H; go_wp2; go_roundg k4
    case measure => have := Hk4.out; omega
    case rel => exact ⟨(x9_4), (wrap64 (x16_4 + 1)), zT, H, ⟨by have := Hk4.out; omega⟩, BK1, BK2, ⟨Kd.R_mono HOL9_4.out (fun _ _ => trivial)⟩, HB⟩
   subst c11; replace H := obs H; obtain ⟨t609, hm, H⟩ := H; (try dsimp only at H); replace H := Aside0.mk H; have hcall := impl_EvalCond.calls k4 _ _ _ _ _ _ _ _ _ _ _ _ _ _ _ _ _ _ _ W10 (Kd.C_below HR0.out HB.out) HC0.out (Kd.C_below HR1.out HB.out) HC1.out (Kd.C_below HR606_6.out HB.out) HC606_6.out hm; clear hm; (go_wp2_with fail)
   refine hcall.mono ?_; rintro e W12 ⟨rfl, hb⟩; clear hcall; replace HOL9_4 := bR HOL9_4 hb; replace BK1 := bK BK1 hb; replace c_BK1 := bcl BK1; replace z_BK1 := bfr BK1; replace BK2 := bK BK2 hb; replace c_BK2 := bcl BK2; replace z_BK2 := bfr BK2; replace BK8 := bK BK8 hb; replace c_BK8 := bcl BK8; replace z_BK8 := bfr BK8; replace HB := bH HB hb; clear hb; replace H := ifD H.out; rcases H with ⟨c13, H⟩ | ⟨c13, H⟩; rotate_left
   ·replace c13 := nT c13; subst c13; replace H := Aside0.mk H; go_wp2; go_roundg k4
    case measure => have := Hk4.out; omega
    case rel => exact ⟨(x9_4), (wrap64 (x16_4 + 1)), zT, H, ⟨by have := Hk4.out; omega⟩, BK1, BK2, ⟨Kd.R_mono HOL9_4.out (fun _ _ => trivial)⟩, HB⟩
   subst c13; replace H := ifN H; obtain ⟨c14, H⟩ := H; have c14_0 := decT c14; replace c14 := Aside0.mk c14; (try rw [c14_0]); replace H := Aside0.mk H; go_upto_region 7 with (first | ((with_reducible refine gate_builtin (b := .append) (xs := #[.tmp 35, .tmp 37]) rfl ?_); at_builtin; refine Kd.R_append (Kd.int .i64) (w0 := w) w.heap.size rfl (.tmp 35) (.tmp 37) 177 3 (.int .i64 0) 8 rfl Tryz.underlying177 info3 rfl (by decide) (by omega) (.slice AL9_4 x9_4.length cL9_4) x9_4 x16_4 [.int .i64 x16_4] (fun _ => True) (fun _ => False) rfl rfl ?aP (fun _ hk => hk.elim) (fun _ _ => trivial) (zR HOL9_4) zB (below_size zB) ?aL ?_; (case aP => exact rfl); (case aL => have := c14.out; omega); intro v15_ W15 ho hb hg hat; have h_ := blk_grown (zX BK1) hg (Kd.R_ne HOL9_4.out BK1.out (by decide)); clear BK1 c_BK1 z_BK1; have BK1 := Aside0.mk h_; have c_BK1 := bcl BK1; have z_BK1 := bfr BK1; clear h_; have h_ := blk_grown (zX BK2) hg (Kd.R_ne HOL9_4.out BK2.out (by decide)); clear BK2 c_BK2 z_BK2; have BK2 := Aside0.mk h_; have c_BK2 := bcl BK2; have z_BK2 := bfr BK2; clear h_; have h_ := blk_grown (zX BK8) hg (Kd.R_ne HOL9_4.out BK8.out (by decide)); clear BK8 c_BK8 z_BK8; have BK8 := Aside0.mk h_; have c_BK8 := bcl BK8; have z_BK8 := bfr BK8; clear h_; clear HB; have HB := Aside0.mk hb; obtain ⟨A15_0, c15_0, rfl⟩ := Kd.R_slice ho; obtain ⟨n15_0, hn15_0⟩ : ∃ n_, n_ = (x9_4 ++ [x16_4]).length := ⟨_, rfl⟩; rw [← hn15_0] at ho ⊢; replace hn15_0 := Aside0.mk hn15_0; have HO15_0 := Aside0.mk ho; clear ho hb hg hat HOL9_4))
   go_wp2; go_roundg k4
   case measure => have := Hk4.out; omega
   case rel => exact ⟨((x9_4 ++ [x16_4])), (wrap64 (x16_4 + 1)), zT, H, ⟨by have := Hk4.out; omega⟩, BK1, BK2, ⟨Kd.R_mono HO15_0.out (fun _ _ => trivial)⟩, HB⟩
def impl_DecideBy.f (k : Nat) (l0 : List (S154)) (l1 : List (S136)) (a2_0 : Int) (l2_1 : List (S174)) (a3_0 : Int) (a3_1 : Int) (a3_2 : Int) (a3_3 : Int) (a3_4 : Int) (a3_5 : Int) : Option (Int) := (impl_IsRequest.f a3_0 a3_1 a3_2 a3_3 a3_4 a3_5).bind fun t615 => (if t615 = true then ((impl_IsPolicy.f k a2_0 l2_1).bind fun t616 => (if t616 = true then ((impl_RulesThatHold.f k l0 l1 a2_0 l2_1 a3_0 a3_1 a3_2 a3_3 a3_4 a3_5).bind fun t617 => ((impl_decided.f k a2_0 l2_1 t617).bind fun t620 => (some t620))) else (some 0))) else (some 0))
theorem impl_DecideBy.calls (k : Nat) (A0 : Option Addr) (c0 : Nat) (l0 : List (S154)) (A1 : Option Addr) (c1 : Nat) (l1 : List (S136)) (a2_0 : Int) (A2_1 : Option Addr) (c2_1 : Nat) (l2_1 : List (S174)) (a3_0 : Int) (a3_1 : Int) (a3_2 : Int) (a3_3 : Int) (a3_4 : Int) (a3_5 : Int) (r : Int) (w : World) (hr0 : Kd.C k154 w A0 l0.length l0) (hc0 : l0.length ≤ c0) (hr1 : Kd.C k136 w A1 l1.length l1) (hc1 : l1.length ≤ c1) (hr2_1 : Kd.C k174 w A2_1 l2_1.length l2_1) (hc2_1 : l2_1.length ≤ c2_1) (h : impl_DecideBy.f k l0 l1 a2_0 l2_1 a3_0 a3_1 a3_2 a3_3 a3_4 a3_5 = some r) :
  Calls Tryz.prog 36 #[.slice A0 l0.length c0, .slice A1 l1.length c1, .agg #[.int .i64 a2_0, .slice A2_1 l2_1.length c2_1], .agg #[.int .i64 a3_0, .int .i64 a3_1, .int .i64 a3_2, .int .i64 a3_3, .int .i64 a3_4, .int .i64 a3_5]] w fun e w' => e = .returned (.int .i64 r) ∧ Below w.heap.size w w' := by
 have HR0 := Aside0.mk hr0
 have HC0 := Aside0.mk hc0
 clear hr0 hc0
 have HR1 := Aside0.mk hr1
 have HC1 := Aside0.mk hc1
 clear hr1 hc1
 have HR2_1 := Aside0.mk hr2_1
 have HC2_1 := Aside0.mk hc2_1
 clear hr2_1 hc2_1
 have HB := Aside0.mk (Below.refl w.heap.size w)
 have H := h
 clear h
 unfold impl_DecideBy.f at H
 have hu39 := Tryz.underlying39
 have hu41 := Tryz.underlying41
 go_enter Tryz.func36, Tryz.ntmps36
 replace H := Aside0.mk H
 go_upto_region 1 with (first | ((with_reducible refine gate_dst (N := 6) rfl ?_); refine box_event ?hg (N := 6) ?hd (cs := #[.int .i64 a2_0, .slice A2_1 l2_1.length c2_1]) (t := 39) ?hr ?_; (case hd => rfl); (case hg => rfl); (case hr => first | (go_simp; done) | (go_simp; rfl)); intro gb1 hg W1 hbox hb; replace HB := bH HB hb; clear hb; have BK1 := Aside0.mk hbox; have c_BK1 := blk_cell hbox; have z_BK1 := blk_frozen hbox; clear hg hbox) | ((with_reducible refine gate_dst (N := 7) rfl ?_); refine box_event ?hg (N := 7) ?hd (cs := #[.int .i64 a3_0, .int .i64 a3_1, .int .i64 a3_2, .int .i64 a3_3, .int .i64 a3_4, .int .i64 a3_5]) (t := 41) ?hr ?_; (case hd => rfl); (case hg => rfl); (case hr => first | (go_simp; done) | (go_simp; rfl)); intro gb2 hg W2 hbox hb; replace BK1 := bK BK1 hb; replace c_BK1 := bcl BK1; replace z_BK1 := bfr BK1; replace HB := bH HB hb; clear hb; have BK2 := Aside0.mk hbox; have c_BK2 := blk_cell hbox; have z_BK2 := blk_frozen hbox; clear hg hbox))
 replace H := H.out
 replace H := obs H
 obtain ⟨t615, hm, H⟩ := H
 (try dsimp only at H)
 replace H := Aside0.mk H
 have hcall := impl_IsRequest.calls _ _ _ _ _ _ _ W2  hm
 clear hm
 (go_wp2_with fail)
 refine hcall.mono ?_
 rintro e W3 ⟨rfl, hb⟩
 clear hcall
 replace BK1 := bK BK1 hb; replace c_BK1 := bcl BK1; replace z_BK1 := bfr BK1
 replace BK2 := bK BK2 hb; replace c_BK2 := bcl BK2; replace z_BK2 := bfr BK2
 replace HB := bH HB hb; clear hb
 replace H := ifD H.out; rcases H with ⟨c4, H⟩ | ⟨c4, H⟩
 rotate_left
 ·replace c4 := nT c4
  subst c4
  cases H
  go_wp2
  go_ret
  exact ⟨rfl, HB.out⟩
 subst c4
 replace H := obs H
 obtain ⟨t616, hm, H⟩ := H
 (try dsimp only at H)
 replace H := Aside0.mk H
 have hcall := impl_IsPolicy.calls k _ _ _ _ _ W3 (Kd.C_below HR2_1.out HB.out) HC2_1.out hm
 clear hm
 (go_wp2_with fail)
 refine hcall.mono ?_
 rintro e W5 ⟨rfl, hb⟩
 clear hcall
 replace BK1 := bK BK1 hb; replace c_BK1 := bcl BK1; replace z_BK1 := bfr BK1
 replace BK2 := bK BK2 hb; replace c_BK2 := bcl BK2; replace z_BK2 := bfr BK2
 replace HB := bH HB hb; clear hb
 replace H := ifD H.out; rcases H with ⟨c6, H⟩ | ⟨c6, H⟩
 rotate_left
 ·replace c6 := nT c6
  subst c6
  cases H
  go_wp2
  go_ret
  exact ⟨rfl, HB.out⟩
 subst c6
 replace H := Aside0.mk H
 try go_wp2
 clear c_BK1 z_BK1; have rBK1 := BK1; replace BK1 := dK BK1
 clear c_BK2 z_BK2; have rBK2 := BK2; replace BK2 := dK BK2
 have HBr := HB; replace HB := dH HB
 refine stA (n := 8) (S := fun w' => Below W5.heap.size W5 w') (by kernel_rfl) rfl (below_drew1 (Below.refl _ W5)) (by kernel_rfl) (fun hHeld => ?_)
 generalize W5.drew = W7 at HB BK1 BK2 hHeld ⊢
 replace H := H.out
 replace H := obs H
 obtain ⟨t617, hm, H⟩ := H
 (try dsimp only at H)
 replace hm := Aside0.mk hm
 replace H := Aside0.mk H
 refine pu 1 (some 18) 2 ?_; refine pu 2 (some 19) 6 ?_; refine ld 0 (some 17) 7 hHeld ?_ (hr := by (intro w' h_; have y_ := kD rBK1 h_; go_simp; with_reducible rfl)); refine ld 3 (some 20) 15 hHeld ?_ (hr := by (intro w' h_; have y_ := kD rBK1 h_; go_simp; with_reducible rfl)); refine ld 4 (some 21) 31 hHeld ?_ (hr := by (intro w' h_; have y_ := kD rBK2 h_; go_simp; with_reducible rfl))
 refine on 5 (some 22) 63 (fun K hK => ?_)
 have hcall := impl_RulesThatHold.calls k _ _ _ _ _ _ _ _ _ _ _ _ _ _ _ _ _ W7 (Kd.C_below HR0.out HB.out) HC0.out (Kd.C_below HR1.out HB.out) HC1.out (Kd.C_below HR2_1.out HB.out) HC2_1.out hm.out
 refine goes_ Tryz.func114 (by kernel_rfl) rfl #[.slice A0 l0.length c0, .slice A1 l1.length c1, .agg #[.int .i64 a2_0, .slice A2_1 l2_1.length c2_1], .agg #[.int .i64 a3_0, .int .i64 a3_1, .int .i64 a3_2, .int .i64 a3_3, .int .i64 a3_4, .int .i64 a3_5]] (by rfl) rfl rfl zM ?_
 refine hcall.mono ?_
 rintro e W9 ⟨v618, rfl, ho0, hb⟩
 refine ⟨_, rfl, ?_⟩
 clear hcall hm
 replace hHeld := below_step hHeld hb
 replace BK1 := bK BK1 hb
 replace BK2 := bK BK2 hb
 obtain ⟨A9_0, _, c9_0, rfl, rfl, hr_⟩ := R_made ho0 HB.out.size; clear ho0; have HO9_0 := Aside0.mk hr_; clear hr_
 replace HB := bH HB hb; clear hb
 refine hK.out _ _ hHeld (fun hHeld => ?_)
 clear hK K
 refine nr 22 ?_
 replace H := H.out
 replace H := obs H
 obtain ⟨t620, hm, H⟩ := H
 (try dsimp only at H)
 replace hm := Aside0.mk hm
 replace H := Aside0.mk H
 refine on 6 (some 23) 127 (fun K hK => ?_)
 have hcall := impl_decided.calls k _ _ _ _ _ _ _ _ W9 (Kd.C_below HR2_1.out HB.out) HC2_1.out (R_C HO9_0.out) (R_len HO9_0.out) hm.out
 refine goes_ Tryz.func113 (by kernel_rfl) rfl #[.agg #[.int .i64 a2_0, .slice A2_1 l2_1.length c2_1], .slice A9_0 t617.length c9_0] (by rfl) rfl rfl zM ?_
 refine hcall.mono ?_
 rintro e W11 ⟨rfl, hb⟩
 refine ⟨_, rfl, ?_⟩
 clear hcall hm
 replace hHeld := below_step hHeld hb
 replace BK1 := bK BK1 hb
 replace BK2 := bK BK2 hb
 replace HO9_0 := bR HO9_0 hb
 replace HB := bH HB hb; clear hb
 refine hK.out _ _ hHeld (fun hHeld => ?_)
 clear hK K
 refine nr 23 ?_
 refine pu 7 (some 8) 255 ?_
 refine dn (by kernel_rfl) ?_
 clear hHeld HBr rBK1 rBK2
 have c_BK1 := bcl BK1; have z_BK1 := bfr BK1
 have c_BK2 := bcl BK2; have z_BK2 := bfr BK2
 replace H := H.out
 cases H
 go_wp2
 go_ret
 exact ⟨rfl, HB.out⟩
def impl_DecisionUntil.l0 : Nat → List (S154) → List (S136) → Int → Int → Int → Int → List (S174) → Int → Int → Int → Int → Int → Int → Option (Int)
 | 0, _, _, _, _, _, _, _, _, _, _, _, _, _ => none
 | k + 1, x0, x1, x4, x11, x12, x622000, x622001, x623000, x623001, x623002, x623003, x623004, x623005 => if x11 < (mn (wrap64 (x623005 + x4)) 10000) then ((impl_AtTime.f x623000 x623001 x623002 x623003 x623004 x623005 (wrap64 (x11 + 1))).bind fun bt627 => ((impl_DecideBy.f k x0 x1 x622000 x622001 bt627.1 bt627.2.1 bt627.2.2.1 bt627.2.2.2.1 bt627.2.2.2.2.1 bt627.2.2.2.2.2).bind fun t633 => (if t633 = x12 then (impl_DecisionUntil.l0 k x0 x1 x4 (wrap64 (x11 + 1)) x12 x622000 x622001 x623000 x623001 x623002 x623003 x623004 x623005) else (some x11)))) else (some x11)
def impl_DecisionUntil.f (k : Nat) (l0 : List (S154)) (l1 : List (S136)) (a2_0 : Int) (l2_1 : List (S174)) (a3_0 : Int) (a3_1 : Int) (a3_2 : Int) (a3_3 : Int) (a3_4 : Int) (a3_5 : Int) (a4 : Int) : Option (Int) := (impl_IsRequest.f a3_0 a3_1 a3_2 a3_3 a3_4 a3_5).bind fun t623 => (if t623 = true then ((impl_IsPolicy.f k a2_0 l2_1).bind fun t624 => (if t624 = true then ((impl_InRange.f a4 0 60).bind fun t625 => (if t625 = true then ((impl_DecideBy.f k l0 l1 a2_0 l2_1 a3_0 a3_1 a3_2 a3_3 a3_4 a3_5).bind fun t626 => (impl_DecisionUntil.l0 k l0 l1 a4 a3_5 t626 a2_0 l2_1 a3_0 a3_1 a3_2 a3_3 a3_4 a3_5)) else (some a3_5))) else (some a3_5))) else (some a3_5))
theorem impl_DecisionUntil.calls (k : Nat) (A0 : Option Addr) (c0 : Nat) (l0 : List (S154)) (A1 : Option Addr) (c1 : Nat) (l1 : List (S136)) (a2_0 : Int) (A2_1 : Option Addr) (c2_1 : Nat) (l2_1 : List (S174)) (a3_0 : Int) (a3_1 : Int) (a3_2 : Int) (a3_3 : Int) (a3_4 : Int) (a3_5 : Int) (a4 : Int) (r : Int) (w : World) (hr0 : Kd.C k154 w A0 l0.length l0) (hc0 : l0.length ≤ c0) (hr1 : Kd.C k136 w A1 l1.length l1) (hc1 : l1.length ≤ c1) (hr2_1 : Kd.C k174 w A2_1 l2_1.length l2_1) (hc2_1 : l2_1.length ≤ c2_1) (h : impl_DecisionUntil.f k l0 l1 a2_0 l2_1 a3_0 a3_1 a3_2 a3_3 a3_4 a3_5 a4 = some r) :
  Calls Tryz.prog 22 #[.slice A0 l0.length c0, .slice A1 l1.length c1, .agg #[.int .i64 a2_0, .slice A2_1 l2_1.length c2_1], .agg #[.int .i64 a3_0, .int .i64 a3_1, .int .i64 a3_2, .int .i64 a3_3, .int .i64 a3_4, .int .i64 a3_5], .int .i64 a4] w fun e w' => e = .returned (.int .i64 r) ∧ Below w.heap.size w w' := by
 have HR0 := Aside0.mk hr0
 have HC0 := Aside0.mk hc0
 clear hr0 hc0
 have HR1 := Aside0.mk hr1
 have HC1 := Aside0.mk hc1
 clear hr1 hc1
 have HR2_1 := Aside0.mk hr2_1
 have HC2_1 := Aside0.mk hc2_1
 clear hr2_1 hc2_1
 have HB := Aside0.mk (Below.refl w.heap.size w)
 have H := h
 clear h
 unfold impl_DecisionUntil.f at H
 have hu39 := Tryz.underlying39
 have hu41 := Tryz.underlying41
 go_enter Tryz.func22, Tryz.ntmps22
 replace H := Aside0.mk H
 go_upto_region 1 with (first | ((with_reducible refine gate_dst (N := 7) rfl ?_); refine box_event ?hg (N := 7) ?hd (cs := #[.int .i64 a2_0, .slice A2_1 l2_1.length c2_1]) (t := 39) ?hr ?_; (case hd => rfl); (case hg => rfl); (case hr => first | (go_simp; done) | (go_simp; rfl)); intro gb1 hg W1 hbox hb; replace HB := bH HB hb; clear hb; have BK1 := Aside0.mk hbox; have c_BK1 := blk_cell hbox; have z_BK1 := blk_frozen hbox; clear hg hbox) | ((with_reducible refine gate_dst (N := 8) rfl ?_); refine box_event ?hg (N := 8) ?hd (cs := #[.int .i64 a3_0, .int .i64 a3_1, .int .i64 a3_2, .int .i64 a3_3, .int .i64 a3_4, .int .i64 a3_5]) (t := 41) ?hr ?_; (case hd => rfl); (case hg => rfl); (case hr => first | (go_simp; done) | (go_simp; rfl)); intro gb2 hg W2 hbox hb; replace BK1 := bK BK1 hb; replace c_BK1 := bcl BK1; replace z_BK1 := bfr BK1; replace HB := bH HB hb; clear hb; have BK2 := Aside0.mk hbox; have c_BK2 := blk_cell hbox; have z_BK2 := blk_frozen hbox; clear hg hbox))
 replace H := H.out
 replace H := obs H
 obtain ⟨t623, hm, H⟩ := H
 (try dsimp only at H)
 replace H := Aside0.mk H
 have hcall := impl_IsRequest.calls _ _ _ _ _ _ _ W2  hm
 clear hm
 (go_wp2_with fail)
 refine hcall.mono ?_
 rintro e W3 ⟨rfl, hb⟩
 clear hcall
 replace BK1 := bK BK1 hb; replace c_BK1 := bcl BK1; replace z_BK1 := bfr BK1
 replace BK2 := bK BK2 hb; replace c_BK2 := bcl BK2; replace z_BK2 := bfr BK2
 replace HB := bH HB hb; clear hb
 replace H := ifD H.out; rcases H with ⟨c4, H⟩ | ⟨c4, H⟩
 rotate_left
 ·replace c4 := nT c4
  subst c4
  cases H
  go_wp2
  go_ret
  exact ⟨rfl, HB.out⟩
 subst c4
 replace H := obs H
 obtain ⟨t624, hm, H⟩ := H
 (try dsimp only at H)
 replace H := Aside0.mk H
 have hcall := impl_IsPolicy.calls k _ _ _ _ _ W3 (Kd.C_below HR2_1.out HB.out) HC2_1.out hm
 clear hm
 (go_wp2_with fail)
 refine hcall.mono ?_
 rintro e W5 ⟨rfl, hb⟩
 clear hcall
 replace BK1 := bK BK1 hb; replace c_BK1 := bcl BK1; replace z_BK1 := bfr BK1
 replace BK2 := bK BK2 hb; replace c_BK2 := bcl BK2; replace z_BK2 := bfr BK2
 replace HB := bH HB hb; clear hb
 replace H := ifD H.out; rcases H with ⟨c6, H⟩ | ⟨c6, H⟩
 rotate_left
 ·replace c6 := nT c6
  subst c6
  cases H
  go_wp2
  go_ret
  exact ⟨rfl, HB.out⟩
 subst c6
 replace H := obs H
 obtain ⟨t625, hm, H⟩ := H
 (try dsimp only at H)
 replace H := Aside0.mk H
 have hcall := impl_InRange.calls _ _ _ _ W5  hm
 clear hm
 (go_wp2_with fail)
 refine hcall.mono ?_
 rintro e W7 ⟨rfl, hb⟩
 clear hcall
 replace BK1 := bK BK1 hb; replace c_BK1 := bcl BK1; replace z_BK1 := bfr BK1
 replace BK2 := bK BK2 hb; replace c_BK2 := bcl BK2; replace z_BK2 := bfr BK2
 replace HB := bH HB hb; clear hb
 replace H := ifD H.out; rcases H with ⟨c8, H⟩ | ⟨c8, H⟩
 rotate_left
 ·replace c8 := nT c8
  subst c8
  cases H
  go_wp2
  go_ret
  exact ⟨rfl, HB.out⟩
 subst c8
 replace H := obs H
 obtain ⟨t626, hm, H⟩ := H
 (try dsimp only at H)
 replace H := Aside0.mk H
 have hcall := impl_DecideBy.calls k _ _ _ _ _ _ _ _ _ _ _ _ _ _ _ _ _ W7 (Kd.C_below HR0.out HB.out) HC0.out (Kd.C_below HR1.out HB.out) HC1.out (Kd.C_below HR2_1.out HB.out) HC2_1.out hm
 clear hm
 (go_wp2_with fail)
 refine hcall.mono ?_
 rintro e W9 ⟨rfl, hb⟩
 clear hcall
 replace BK1 := bK BK1 hb; replace c_BK1 := bcl BK1; replace z_BK1 := bfr BK1
 replace BK2 := bK BK2 hb; replace c_BK2 := bcl BK2; replace z_BK2 := bfr BK2
 replace HB := bH HB hb; clear hb
 go_wp2
 go_loopg [11] k (fun kq v11 w' => ∃ (x11_10 : Int), v11 = .int .i64 x11_10 ∧ Aside0 (impl_DecisionUntil.l0 kq l0 l1 a4 x11_10 t626 a2_0 l2_1 a3_0 a3_1 a3_2 a3_3 a3_4 a3_5 = some r) ∧ Aside0 (kq ≤ k) ∧ Aside0 (w'.heap[gb1]? = some (.cells #[.int .i64 a2_0, .slice A2_1 l2_1.length c2_1] 39 (0, 0))) ∧ Aside0 (w'.heap[gb2]? = some (.cells #[.int .i64 a3_0, .int .i64 a3_1, .int .i64 a3_2, .int .i64 a3_3, .int .i64 a3_4, .int .i64 a3_5] 41 (0, 0))) ∧ Aside0 (Below w.heap.size w w'))
 case atStart => exact ⟨(a3_5), zT, H, ⟨Nat.le_refl _⟩, BK1, BK2, HB⟩
 case round =>
  clear H HB BK1 c_BK1 z_BK1 BK2 c_BK2 z_BK2
  obtain ⟨x11_10, rfl, HA, Hk10, BK1, BK2, HB⟩ := hrel
  have c_BK1 := bcl BK1; have z_BK1 := bfr BK1
  have c_BK2 := bcl BK2; have z_BK2 := bfr BK2
  cases gk with
  | zero => exact absurd HA.out (by simp [impl_DecisionUntil.l0])
  | succ k10 =>
   have H := HA.out; clear HA; simp only [impl_DecisionUntil.l0] at H; replace H := Aside0.mk H; try go_wp2
   clear c_BK1 z_BK1; have rBK1 := BK1; replace BK1 := dK BK1; clear c_BK2 z_BK2; have rBK2 := BK2; replace BK2 := dK BK2; have HBr := HB; replace HB := dH HB; refine stA (n := 19) (S := fun w' => Below wr.heap.size wr w') (by kernel_rfl) rfl (below_drew1 (Below.refl _ wr)) (by kernel_rfl) (fun hHeld => ?_); generalize wr.drew = W11 at HB BK1 BK2 hHeld ⊢; replace H := H.out; have mq12 : (if 10000 < (wrap64 (a3_5 + a4)) then 10000 else (wrap64 (a3_5 + a4))) = mn (wrap64 (a3_5 + a4)) 10000 := rfl; replace H := Aside0.mk H; refine pu 0 (some 34) 1 ?_; refine pu 1 (some 35) 3 ?_; refine pu 3 (some 37) 11 ?_; refine ld 2 (some 36) 15 hHeld ?_ (hr := by (intro w' h_; have y_ := kD rBK2 h_; go_simp; with_reducible rfl)); refine pu 4 (some 38) 31 ?_; refine pu 5 (some 39) 63 ?_; replace H := ifD H.out; rcases H with ⟨c13, H⟩ | ⟨c13, H⟩; rotate_left
   ·have c13_0 := decF c13; replace c13 := Aside0.mk c13; (try rw [c13_0]); replace H := Aside0.mk H; refine pu 6 (some 40) 127 ?_; refine pu 7 (some 41) 255 ?_; refine sk 8 (some 42) 511 ?_; refine sk 9 (some 43) 1023 ?_; refine sk 10 (some 44) 2047 ?_; refine sk 11 (some 45) 4095 ?_; refine sk 12 (some 46) 8191 ?_; refine sk 13 (some 47) 16383 ?_; refine sk 14 (some 48) 32767 ?_; refine sk 15 (some 49) 65535 ?_; refine sk 16 (some 50) 131071 ?_; refine sk 17 (some 51) 262143 ?_; refine pu 18 (some 52) 524287 ?_; refine dn (by kernel_rfl) ?_; clear hHeld HBr rBK1 rBK2; have c_BK1 := bcl BK1; have z_BK1 := bfr BK1; have c_BK2 := bcl BK2; have z_BK2 := bfr BK2; replace H := H.out; cases H; go_wp2; go_ret; exact ⟨rfl, HB.out⟩
   have c13_0 := decT c13; replace c13 := Aside0.mk c13; (try rw [c13_0]); replace H := obs H; obtain ⟨⟨t627, t628, t629, t630, t631, t632⟩, hm, H⟩ := H; (try dsimp only at H); replace hm := Aside0.mk hm; replace H := Aside0.mk H; refine pu 6 (some 40) 127 ?_; refine pu 7 (some 41) 255 ?_; refine pu 8 (some 42) 511 ?_; refine pu 9 (some 43) 1023 ?_; refine pu 12 (some 46) 5119 ?_; refine pu 13 (some 47) 13311 ?_; refine ld 10 (some 44) 14335 hHeld ?_ (hr := by (intro w' h_; have y_ := kD rBK1 h_; go_simp; with_reducible rfl)); refine ld 11 (some 45) 16383 hHeld ?_ (hr := by (intro w' h_; have y_ := kD rBK2 h_; go_simp; with_reducible rfl)); refine pu 16 (some 50) 81919 ?_; refine on 14 (some 48) 98303 (fun K hK => ?_); have hcall := impl_AtTime.calls _ _ _ _ _ _ _ _ _ _ _ _ _ W11  hm.out; refine goes_ Tryz.func35 (by kernel_rfl) rfl #[.agg #[.int .i64 a3_0, .int .i64 a3_1, .int .i64 a3_2, .int .i64 a3_3, .int .i64 a3_4, .int .i64 a3_5], .int .i64 (wrap64 (x11_10 + 1))] (by rfl) rfl rfl zM ?_; refine hcall.mono ?_; rintro e W15 ⟨rfl, hb⟩; refine ⟨_, rfl, ?_⟩; clear hcall hm; replace hHeld := below_step hHeld hb; replace BK1 := bK BK1 hb; replace BK2 := bK BK2 hb; replace HB := bH HB hb; clear hb; refine hK.out _ _ hHeld (fun hHeld => ?_); clear hK K; refine nr 48 ?_; replace H := H.out; replace H := obs H; obtain ⟨t633, hm, H⟩ := H; (try dsimp only at H); replace hm := Aside0.mk hm; replace H := Aside0.mk H; refine on 15 (some 49) 131071 (fun K hK => ?_); have hcall := impl_DecideBy.calls k10 _ _ _ _ _ _ _ _ _ _ _ _ _ _ _ _ _ W15 (Kd.C_below HR0.out HB.out) HC0.out (Kd.C_below HR1.out HB.out) HC1.out (Kd.C_below HR2_1.out HB.out) HC2_1.out hm.out; refine goes_ Tryz.func36 (by kernel_rfl) rfl #[.slice A0 l0.length c0, .slice A1 l1.length c1, .agg #[.int .i64 a2_0, .slice A2_1 l2_1.length c2_1], .agg #[.int .i64 t627, .int .i64 t628, .int .i64 t629, .int .i64 t630, .int .i64 t631, .int .i64 t632]] (by rfl) rfl rfl zM ?_; refine hcall.mono ?_; rintro e W17 ⟨rfl, hb⟩; refine ⟨_, rfl, ?_⟩; clear hcall hm; replace hHeld := below_step hHeld hb; replace BK1 := bK BK1 hb; replace BK2 := bK BK2 hb; replace HB := bH HB hb; clear hb; refine hK.out _ _ hHeld (fun hHeld => ?_); clear hK K; refine nr 49 ?_; refine pu 17 (some 51) 262143 ?_; refine pu 18 (some 52) 524287 ?_; refine dn (by kernel_rfl) ?_; clear hHeld HBr rBK1 rBK2; have c_BK1 := bcl BK1; have z_BK1 := bfr BK1; have c_BK2 := bcl BK2; have z_BK2 := bfr BK2; replace H := ifD H.out; rcases H with ⟨c18, H⟩ | ⟨c18, H⟩; rotate_left
   ·obtain ⟨c18_0, c18_1, c18_2⟩ := d3F c18; clear c18; (first | rw [c18_1] | rw [c18_2] | skip); cases H; go_wp2; go_ret; exact ⟨rfl, HB.out⟩
   obtain ⟨c18_0, c18_1, c18_2⟩ := d3T c18; clear c18; (first | rw [c18_1] | rw [c18_2] | skip); replace H := Aside0.mk H; go_wp2; go_roundg k10
   case measure => have := Hk10.out; omega
   case rel => exact ⟨(wrap64 (x11_10 + 1)), zT, H, ⟨by have := Hk10.out; omega⟩, BK1, BK2, HB⟩
def impl_SaveDecision.f (k : Nat) (l0 : List (S154)) (l1 : List (S136)) (a2_0 : Int) (l2_1 : List (S174)) (a3_0 : Int) (a3_1 : Int) (a3_2 : Int) (a3_3 : Int) (a3_4 : Int) (a3_5 : Int) (a4 : Int) : Option (Int × Int × Int × Int × Int × Int × Int × Int) := (impl_DecideBy.f k l0 l1 a2_0 l2_1 a3_0 a3_1 a3_2 a3_3 a3_4 a3_5).bind fun t637 => ((impl_DecisionUntil.f k l0 l1 a2_0 l2_1 a3_0 a3_1 a3_2 a3_3 a3_4 a3_5 a4).bind fun t638 => (some (a3_0, a3_1, a3_2, a3_3, a3_4, a3_5, t637, t638)))
def impl_SaveDecision.T1 : Bool × List (List Nat × List Nat) := (true, [([], []), ([], []), ([], []), ([], []), ([], []), ([1, 2, 3, 4], [1, 2, 3, 4]), ([], []), ([], []), ([], []), ([], []), ([], []), ([6, 7, 8, 9, 10, 5], [6, 7, 8, 9, 10]), ([0, 5, 11], [0, 5, 11]), ([12, 11, 0, 1, 2, 3, 4, 5, 6, 7, 8, 9, 10, 11, 12], [12])])
def impl_SaveDecision.B1 : List Nat := [0, 0, 0, 0, 0, 30, 0, 0, 0, 0, 0, 2046, 4095, 8191]
theorem impl_SaveDecision.tab1 : rtab .any (opsOf Tryz.f27 1) = impl_SaveDecision.T1 := by kernel_rfl
theorem impl_SaveDecision.bits1 : waitsOk impl_SaveDecision.T1.2 impl_SaveDecision.B1 = true := by kernel_rfl
theorem impl_SaveDecision.calls (k : Nat) (A0 : Option Addr) (c0 : Nat) (l0 : List (S154)) (A1 : Option Addr) (c1 : Nat) (l1 : List (S136)) (a2_0 : Int) (A2_1 : Option Addr) (c2_1 : Nat) (l2_1 : List (S174)) (a3_0 : Int) (a3_1 : Int) (a3_2 : Int) (a3_3 : Int) (a3_4 : Int) (a3_5 : Int) (a4 : Int) (r1 : Int) (r2 : Int) (r3 : Int) (r4 : Int) (r5 : Int) (r6 : Int) (r7 : Int) (r8 : Int) (w : World) (hr0 : Kd.C k154 w A0 l0.length l0) (hc0 : l0.length ≤ c0) (hr1 : Kd.C k136 w A1 l1.length l1) (hc1 : l1.length ≤ c1) (hr2_1 : Kd.C k174 w A2_1 l2_1.length l2_1) (hc2_1 : l2_1.length ≤ c2_1) (h : impl_SaveDecision.f k l0 l1 a2_0 l2_1 a3_0 a3_1 a3_2 a3_3 a3_4 a3_5 a4 = some (r1, r2, r3, r4, r5, r6, r7, r8)) :
  Calls Tryz.prog 27 #[.slice A0 l0.length c0, .slice A1 l1.length c1, .agg #[.int .i64 a2_0, .slice A2_1 l2_1.length c2_1], .agg #[.int .i64 a3_0, .int .i64 a3_1, .int .i64 a3_2, .int .i64 a3_3, .int .i64 a3_4, .int .i64 a3_5], .int .i64 a4] w fun e w' => e = .returned (.agg #[.int .i64 r1, .int .i64 r2, .int .i64 r3, .int .i64 r4, .int .i64 r5, .int .i64 r6, .int .i64 r7, .int .i64 r8]) ∧ Below w.heap.size w w' := by
 have hu39 := Tryz.underlying39
 have hu41 := Tryz.underlying41
 have hu48 := Tryz.underlying48
 have HR0 := Aside0.mk hr0
 have HC0 := Aside0.mk hc0
 clear hr0 hc0
 have HR1 := Aside0.mk hr1
 have HC1 := Aside0.mk hc1
 clear hr1 hc1
 have HR2_1 := Aside0.mk hr2_1
 have HC2_1 := Aside0.mk hc2_1
 clear hr2_1 hc2_1
 have HB := Aside0.mk (Below.refl w.heap.size w)
 (try unfold impl_SaveDecision.f at h)
 have H := h
 clear h
 replace H := obs H
 obtain ⟨t637, A60, H⟩ := H
 (try dsimp only at H)
 have A6 := Aside0.mk A60
 clear A60
 replace H := obs H
 obtain ⟨t638, A70, H⟩ := H
 (try dsimp only at H)
 have A7 := Aside0.mk A70
 clear A70
 simp only [Option.some.injEq, Prod.mk.injEq] at H
 obtain ⟨rfl, rfl, rfl, rfl, rfl, rfl, rfl, rfl⟩ := H
 go_enter Tryz.func27, Tryz.ntmps27
 try go_wp2_with (first | ((with_reducible refine gate_dst (N := 7) rfl ?_); refine box_event ?hg (N := 7) ?hd (cs := #[.int .i64 a2_0, .slice A2_1 l2_1.length c2_1]) (t := 39) ?hr ?_; (case hd => rfl); (case hg => rfl); (case hr => first | (go_simp; done) | (go_simp; rfl)); intro gb634 hg w8 hbox hb; have n0_ := Aside0.mk (below_step zB hb); have n1_ := Aside0.mk (hbox); have n2_ := Aside0.mk ((by rw [hg]; exact (below_size zB) : w.heap.size ≤ gb634)); have n3_ := Aside0.mk ((by rw [hg]; exact (below_size zB) : w.heap.size ≤ gb634)); clear HB; have HB := n0_; have BK634 := n1_; have GW634 := n2_; have GE634 := n3_; clear n0_ n1_ n2_ n3_; clear hb hbox hg) | ((with_reducible refine gate_dst (N := 8) rfl ?_); refine box_event ?hg (N := 8) ?hd (cs := #[.int .i64 a3_0, .int .i64 a3_1, .int .i64 a3_2, .int .i64 a3_3, .int .i64 a3_4, .int .i64 a3_5]) (t := 41) ?hr ?_; (case hd => rfl); (case hg => rfl); (case hr => first | (go_simp; done) | (go_simp; rfl)); intro gb635 hg w9 hbox hb; have n0_ := Aside0.mk (blk_below (g := gb634) (o := .cells #[.int .i64 a2_0, .slice A2_1 l2_1.length c2_1] 39 (0, 0)) (zX BK634) hb); have n1_ := Aside0.mk (below_step zB hb); have n2_ := Aside0.mk (hbox); have n3_ := Aside0.mk ((by rw [hg]; exact (below_size zB) : w.heap.size ≤ gb635)); have n4_ := Aside0.mk ((by rw [hg]; exact (below_size zB) : w.heap.size ≤ gb635)); have n5_ := Aside0.mk ((by rw [hg]; exact Nat.ne_of_lt (blk_lt (g := gb634) (o := .cells #[.int .i64 a2_0, .slice A2_1 l2_1.length c2_1] 39 (0, 0)) (zX BK634)) : gb634 ≠ gb635)); have n6_ := Aside0.mk ((by rw [hg]; exact Nat.ne_of_gt (blk_lt (g := gb634) (o := .cells #[.int .i64 a2_0, .slice A2_1 l2_1.length c2_1] 39 (0, 0)) (zX BK634)) : gb635 ≠ gb634)); clear BK634; clear HB; have BK634 := n0_; have HB := n1_; have BK635 := n2_; have GW635 := n3_; have GE635 := n4_; have NB634_635 := n5_; have NB635_634 := n6_; clear n0_ n1_ n2_ n3_ n4_ n5_ n6_; clear hb hbox hg) | ((with_reducible refine gate_dst (N := 10) rfl ?_); refine box_event ?hg (N := 10) ?hd (cs := #[.int .i64 0, .int .i64 0, .int .i64 0, .int .i64 0, .int .i64 0, .int .i64 0, .int .i64 0, .int .i64 0]) (t := 48) ?hr ?_; (case hd => rfl); (case hg => rfl); (case hr => first | (go_simp; done) | (go_simp; rfl)); intro gb636 hg w10 hbox hb; have n0_ := Aside0.mk (blk_below (g := gb634) (o := .cells #[.int .i64 a2_0, .slice A2_1 l2_1.length c2_1] 39 (0, 0)) (zX BK634) hb); have n1_ := Aside0.mk (blk_below (g := gb635) (o := .cells #[.int .i64 a3_0, .int .i64 a3_1, .int .i64 a3_2, .int .i64 a3_3, .int .i64 a3_4, .int .i64 a3_5] 41 (0, 0)) (zX BK635) hb); have n2_ := Aside0.mk (below_step zB hb); have n3_ := Aside0.mk (hbox); have n4_ := Aside0.mk ((by rw [hg]; exact (below_size zB) : w.heap.size ≤ gb636)); have n5_ := Aside0.mk ((by rw [hg]; exact (below_size zB) : w.heap.size ≤ gb636)); have n6_ := Aside0.mk ((by rw [hg]; exact Nat.ne_of_lt (blk_lt (g := gb634) (o := .cells #[.int .i64 a2_0, .slice A2_1 l2_1.length c2_1] 39 (0, 0)) (zX BK634)) : gb634 ≠ gb636)); have n7_ := Aside0.mk ((by rw [hg]; exact Nat.ne_of_gt (blk_lt (g := gb634) (o := .cells #[.int .i64 a2_0, .slice A2_1 l2_1.length c2_1] 39 (0, 0)) (zX BK634)) : gb636 ≠ gb634)); have n8_ := Aside0.mk ((by rw [hg]; exact Nat.ne_of_lt (blk_lt (g := gb635) (o := .cells #[.int .i64 a3_0, .int .i64 a3_1, .int .i64 a3_2, .int .i64 a3_3, .int .i64 a3_4, .int .i64 a3_5] 41 (0, 0)) (zX BK635)) : gb635 ≠ gb636)); have n9_ := Aside0.mk ((by rw [hg]; exact Nat.ne_of_gt (blk_lt (g := gb635) (o := .cells #[.int .i64 a3_0, .int .i64 a3_1, .int .i64 a3_2, .int .i64 a3_3, .int .i64 a3_4, .int .i64 a3_5] 41 (0, 0)) (zX BK635)) : gb636 ≠ gb635)); clear BK634; clear BK635; clear HB; have BK634 := n0_; have BK635 := n1_; have HB := n2_; have BK636 := n3_; have GW636 := n4_; have GE636 := n5_; have NB634_636 := n6_; have NB636_634 := n7_; have NB635_636 := n8_; have NB636_635 := n9_; clear n0_ n1_ n2_ n3_ n4_ n5_ n6_ n7_ n8_ n9_; clear hb hbox hg))
 have n0_ := Aside0.mk (blk_drew BK634.out)
 have n1_ := Aside0.mk (blk_drew BK635.out)
 have n2_ := Aside0.mk (blk_drew BK636.out)
 have n3_ := Aside0.mk (below_drew1 HB.out)
 clear BK634
 clear BK635
 clear BK636
 clear HB
 have BK634 := n0_
 have BK635 := n1_
 have BK636 := n2_
 have HB := n3_
 clear n0_ n1_ n2_ n3_
 refine start_ (n := 14) (S := fun w' => w'.cell? ⟨gb635, 0, none⟩ = some (.int .i64 a3_0) ∧ w'.cell? ⟨gb635, 1, none⟩ = some (.int .i64 a3_1) ∧ w'.cell? ⟨gb635, 2, none⟩ = some (.int .i64 a3_2) ∧ w'.cell? ⟨gb635, 3, none⟩ = some (.int .i64 a3_3) ∧ w'.cell? ⟨gb635, 4, none⟩ = some (.int .i64 a3_4) ∧ w'.cell? ⟨gb635, 5, none⟩ = some (.int .i64 a3_5) ∧ w'.cell? ⟨gb634, 0, none⟩ = some (.int .i64 a2_0) ∧ w'.cell? ⟨gb634, 1, none⟩ = some (.slice A2_1 l2_1.length c2_1)) (ds := []) #[false, false, false, false, false, false, false, false, false, false, false, false, false, false] (by kernel_rfl) rfl rfl ⟨(blk_cell BK635.out 0).trans rfl, (blk_cell BK635.out 1).trans rfl, (blk_cell BK635.out 2).trans rfl, (blk_cell BK635.out 3).trans rfl, (blk_cell BK635.out 4).trans rfl, (blk_cell BK635.out 5).trans rfl, (blk_cell BK634.out 0).trans rfl, (blk_cell BK634.out 1).trans rfl⟩ (fun hHeld => ?_); refine with_tabW impl_SaveDecision.tab1 impl_SaveDecision.bits1 (fun HT_ HW_ => ?_)
 generalize w10.drew = w11 at BK634 BK635 BK636 HB hHeld ⊢
 refine pure_ (i := 1) (N := some 12) (v := ?_) (a' := ?_) #[false, true, false, false, false, false, false, false, false, false, false, false, false, false] rfl rfl (any_of HT_.out (by kernel_rfl)) (fun _ _ _ h => h) (Or.inl ⟨by rfl, ?_⟩) ?_ ?_
 rotate_left
 ·intro w'
  go_simp
  with_reducible rfl
 rotate_left
 ·simp only [Act.put, List.setIfInBounds_toArray, List.set_cons_zero, List.set_cons_succ, i64_w, i32_w]
  rfl
 refine pure_ (i := 2) (N := some 13) (v := ?_) (a' := ?_) #[false, true, true, false, false, false, false, false, false, false, false, false, false, false] rfl rfl (any_of HT_.out (by kernel_rfl)) (fun _ _ _ h => h) (Or.inl ⟨by rfl, ?_⟩) ?_ ?_
 rotate_left
 ·intro w'
  go_simp
  with_reducible rfl
 rotate_left
 ·simp only [Act.put, List.setIfInBounds_toArray, List.set_cons_zero, List.set_cons_succ, i64_w, i32_w]
  rfl
 refine pure_ (i := 6) (N := some 17) (v := ?_) (a' := ?_) #[false, true, true, false, false, false, true, false, false, false, false, false, false, false] rfl rfl (any_of HT_.out (by kernel_rfl)) (fun _ _ _ h => h) (Or.inl ⟨by rfl, ?_⟩) ?_ ?_
 rotate_left
 ·intro w'
  go_simp
  with_reducible rfl
 rotate_left
 ·simp only [Act.put, List.setIfInBounds_toArray, List.set_cons_zero, List.set_cons_succ, i64_w, i32_w]
  rfl
 refine pure_ (i := 7) (N := some 18) (v := ?_) (a' := ?_) #[false, true, true, false, false, false, true, true, false, false, false, false, false, false] rfl rfl (any_of HT_.out (by kernel_rfl)) (fun _ _ _ h => h) (Or.inl ⟨by rfl, ?_⟩) ?_ ?_
 rotate_left
 ·intro w'
  go_simp
  with_reducible rfl
 rotate_left
 ·simp only [Act.put, List.setIfInBounds_toArray, List.set_cons_zero, List.set_cons_succ, i64_w, i32_w]
  rfl
 refine pure_ (i := 10) (N := some 21) (v := ?_) (a' := ?_) #[false, true, true, false, false, false, true, true, false, false, true, false, false, false] rfl rfl (any_of HT_.out (by kernel_rfl)) (fun _ _ _ h => h) (Or.inl ⟨by rfl, ?_⟩) ?_ ?_
 rotate_left
 ·intro w'
  go_simp
  with_reducible rfl
 rotate_left
 ·simp only [Act.put, List.setIfInBounds_toArray, List.set_cons_zero, List.set_cons_succ, i64_w, i32_w]
  rfl
 refine take_ (i := 0) (N := some 11) (v := ?_) (a' := ?_) #[true, true, true, false, false, false, true, true, false, false, true, false, false, false] rfl rfl (take_ofW HT_.out HW_.out (by kernel_rfl)) (fun _ _ _ h => h) (Or.inl ⟨by rfl, ?_⟩) hHeld ?_ ?_
 rotate_left
 ·rintro w' ⟨s0, s1, s2, s3, s4, s5, s6, s7⟩
  go_simp
  with_reducible rfl
 rotate_left
 ·simp only [Act.put, List.setIfInBounds_toArray, List.set_cons_zero, List.set_cons_succ, i64_w, i32_w]
  rfl
 refine take_ (i := 3) (N := some 14) (v := ?_) (a' := ?_) #[true, true, true, true, false, false, true, true, false, false, true, false, false, false] rfl rfl (take_ofW HT_.out HW_.out (by kernel_rfl)) (fun _ _ _ h => h) (Or.inl ⟨by rfl, ?_⟩) hHeld ?_ ?_
 rotate_left
 ·rintro w' ⟨s0, s1, s2, s3, s4, s5, s6, s7⟩
  go_simp
  with_reducible rfl
 rotate_left
 ·simp only [Act.put, List.setIfInBounds_toArray, List.set_cons_zero, List.set_cons_succ, i64_w, i32_w]
  rfl
 refine take_ (i := 4) (N := some 15) (v := ?_) (a' := ?_) #[true, true, true, true, true, false, true, true, false, false, true, false, false, false] rfl rfl (take_ofW HT_.out HW_.out (by kernel_rfl)) (fun _ _ _ h => h) (Or.inl ⟨by rfl, ?_⟩) hHeld ?_ ?_
 rotate_left
 ·rintro w' ⟨s0, s1, s2, s3, s4, s5, s6, s7⟩
  go_simp
  with_reducible rfl
 rotate_left
 ·simp only [Act.put, List.setIfInBounds_toArray, List.set_cons_zero, List.set_cons_succ, i64_w, i32_w]
  rfl
 refine take_ (i := 8) (N := some 19) (v := ?_) (a' := ?_) #[true, true, true, true, true, false, true, true, true, false, true, false, false, false] rfl rfl (take_ofW HT_.out HW_.out (by kernel_rfl)) (fun _ _ _ h => h) (Or.inl ⟨by rfl, ?_⟩) hHeld ?_ ?_
 rotate_left
 ·rintro w' ⟨s0, s1, s2, s3, s4, s5, s6, s7⟩
  go_simp
  with_reducible rfl
 rotate_left
 ·simp only [Act.put, List.setIfInBounds_toArray, List.set_cons_zero, List.set_cons_succ, i64_w, i32_w]
  rfl
 refine take_ (i := 9) (N := some 20) (v := ?_) (a' := ?_) #[true, true, true, true, true, false, true, true, true, true, true, false, false, false] rfl rfl (take_ofW HT_.out HW_.out (by kernel_rfl)) (fun _ _ _ h => h) (Or.inl ⟨by rfl, ?_⟩) hHeld ?_ ?_
 rotate_left
 ·rintro w' ⟨s0, s1, s2, s3, s4, s5, s6, s7⟩
  go_simp
  with_reducible rfl
 rotate_left
 ·simp only [Act.put, List.setIfInBounds_toArray, List.set_cons_zero, List.set_cons_succ, i64_w, i32_w]
  rfl
 refine one_ (i := 5) (N := some 16) #[true, true, true, true, true, true, true, true, true, true, true, false, false, false] rfl rfl (one_of HT_.out (by kernel_rfl)) (by decide) (fun K hK => ?_)
 refine goes_ Tryz.func36 (by kernel_rfl) rfl #[.slice A0 l0.length c0, .slice A1 l1.length c1, .agg #[.int .i64 a2_0, .slice A2_1 l2_1.length c2_1], .agg #[.int .i64 a3_0, .int .i64 a3_1, .int .i64 a3_2, .int .i64 a3_3, .int .i64 a3_4, .int .i64 a3_5]] (by rfl) rfl rfl zM ?_
 with_reducible refine (impl_DecideBy.calls k _ _ l0 _ _ l1 a2_0 _ _ l2_1 a3_0 a3_1 a3_2 a3_3 a3_4 a3_5 t637 _ ?side1 ?side2 ?side3 ?side4 ?side5 ?side6 A6.out).mono ?_
 (case side1 => repeat (first | exact (Kd.C_below HR0.out HB.out) | (with_reducible refine Kd.C_alloc ?_ _) | (with_reducible refine Kd.C_drewN ?_ _) | (with_reducible refine Kd.C_drew ?_)))
 (case side2 => exact HC0.out)
 (case side3 => repeat (first | exact (Kd.C_below HR1.out HB.out) | (with_reducible refine Kd.C_alloc ?_ _) | (with_reducible refine Kd.C_drewN ?_ _) | (with_reducible refine Kd.C_drew ?_)))
 (case side4 => exact HC1.out)
 (case side5 => repeat (first | exact (Kd.C_below HR2_1.out HB.out) | (with_reducible refine Kd.C_alloc ?_ _) | (with_reducible refine Kd.C_drewN ?_ _) | (with_reducible refine Kd.C_drew ?_)))
 (case side6 => exact HC2_1.out)
 rintro e w12 ⟨rfl, hb⟩
 refine ⟨_, rfl, ?_⟩
 have n0_ := Aside0.mk (blk_below (g := gb634) (o := .cells #[.int .i64 a2_0, .slice A2_1 l2_1.length c2_1] 39 (0, 0)) (zX BK634) hb)
 have n1_ := Aside0.mk (blk_below (g := gb635) (o := .cells #[.int .i64 a3_0, .int .i64 a3_1, .int .i64 a3_2, .int .i64 a3_3, .int .i64 a3_4, .int .i64 a3_5] 41 (0, 0)) (zX BK635) hb)
 have n2_ := Aside0.mk (blk_below (g := gb636) (o := .cells #[.int .i64 0, .int .i64 0, .int .i64 0, .int .i64 0, .int .i64 0, .int .i64 0, .int .i64 0, .int .i64 0] 48 (0, 0)) (zX BK636) hb)
 have n3_ := Aside0.mk (below_step zB hb)
 clear BK634
 clear BK635
 clear BK636
 clear HB
 have BK634 := n0_
 have BK635 := n1_
 have BK636 := n2_
 have HB := n3_
 clear n0_ n1_ n2_ n3_
 (try clear hb)
 (try clear hb2)
 (try clear hk)
 (try clear hi)
 refine hK.out _ _ ⟨(blk_cell BK635.out 0).trans rfl, (blk_cell BK635.out 1).trans rfl, (blk_cell BK635.out 2).trans rfl, (blk_cell BK635.out 3).trans rfl, (blk_cell BK635.out 4).trans rfl, (blk_cell BK635.out 5).trans rfl, (blk_cell BK634.out 0).trans rfl, (blk_cell BK634.out 1).trans rfl⟩ (fun hHeld => ?_)
 clear hK K
 refine norm_ (a' := ?_) ?_ ?_
 rotate_left
 ·show Act.put _ (some 16) _ = _
  simp only [Act.put, List.setIfInBounds_toArray, List.set_cons_zero, List.set_cons_succ, i64_w, i32_w]
  rfl
 refine one_ (i := 11) (N := some 22) #[true, true, true, true, true, true, true, true, true, true, true, true, false, false] rfl rfl (one_of HT_.out (by kernel_rfl)) (by decide) (fun K hK => ?_)
 refine goes_ Tryz.func22 (by kernel_rfl) rfl #[.slice A0 l0.length c0, .slice A1 l1.length c1, .agg #[.int .i64 a2_0, .slice A2_1 l2_1.length c2_1], .agg #[.int .i64 a3_0, .int .i64 a3_1, .int .i64 a3_2, .int .i64 a3_3, .int .i64 a3_4, .int .i64 a3_5], .int .i64 a4] (by rfl) rfl rfl zM ?_
 with_reducible refine (impl_DecisionUntil.calls k _ _ l0 _ _ l1 a2_0 _ _ l2_1 a3_0 a3_1 a3_2 a3_3 a3_4 a3_5 a4 t638 _ ?side1 ?side2 ?side3 ?side4 ?side5 ?side6 A7.out).mono ?_
 (case side1 => repeat (first | exact (Kd.C_below HR0.out HB.out) | (with_reducible refine Kd.C_alloc ?_ _) | (with_reducible refine Kd.C_drewN ?_ _) | (with_reducible refine Kd.C_drew ?_)))
 (case side2 => exact HC0.out)
 (case side3 => repeat (first | exact (Kd.C_below HR1.out HB.out) | (with_reducible refine Kd.C_alloc ?_ _) | (with_reducible refine Kd.C_drewN ?_ _) | (with_reducible refine Kd.C_drew ?_)))
 (case side4 => exact HC1.out)
 (case side5 => repeat (first | exact (Kd.C_below HR2_1.out HB.out) | (with_reducible refine Kd.C_alloc ?_ _) | (with_reducible refine Kd.C_drewN ?_ _) | (with_reducible refine Kd.C_drew ?_)))
 (case side6 => exact HC2_1.out)
 rintro e w13 ⟨rfl, hb⟩
 refine ⟨_, rfl, ?_⟩
 have n0_ := Aside0.mk (blk_below (g := gb634) (o := .cells #[.int .i64 a2_0, .slice A2_1 l2_1.length c2_1] 39 (0, 0)) (zX BK634) hb)
 have n1_ := Aside0.mk (blk_below (g := gb635) (o := .cells #[.int .i64 a3_0, .int .i64 a3_1, .int .i64 a3_2, .int .i64 a3_3, .int .i64 a3_4, .int .i64 a3_5] 41 (0, 0)) (zX BK635) hb)
 have n2_ := Aside0.mk (blk_below (g := gb636) (o := .cells #[.int .i64 0, .int .i64 0, .int .i64 0, .int .i64 0, .int .i64 0, .int .i64 0, .int .i64 0, .int .i64 0] 48 (0, 0)) (zX BK636) hb)
 have n3_ := Aside0.mk (below_step zB hb)
 clear BK634
 clear BK635
 clear BK636
 clear HB
 have BK634 := n0_
 have BK635 := n1_
 have BK636 := n2_
 have HB := n3_
 clear n0_ n1_ n2_ n3_
 (try clear hb)
 (try clear hb2)
 (try clear hk)
 (try clear hi)
 refine hK.out _ _ ⟨(blk_cell BK635.out 0).trans rfl, (blk_cell BK635.out 1).trans rfl, (blk_cell BK635.out 2).trans rfl, (blk_cell BK635.out 3).trans rfl, (blk_cell BK635.out 4).trans rfl, (blk_cell BK635.out 5).trans rfl, (blk_cell BK634.out 0).trans rfl, (blk_cell BK634.out 1).trans rfl⟩ (fun hHeld => ?_)
 clear hK K
 refine norm_ (a' := ?_) ?_ ?_
 rotate_left
 ·show Act.put _ (some 22) _ = _
  simp only [Act.put, List.setIfInBounds_toArray, List.set_cons_zero, List.set_cons_succ, i64_w, i32_w]
  rfl
 refine pure_ (i := 12) (N := some 23) (v := ?_) (a' := ?_) #[true, true, true, true, true, true, true, true, true, true, true, true, true, false] rfl rfl (any_of HT_.out (by kernel_rfl)) (fun _ _ _ h => h) (Or.inl ⟨by rfl, ?_⟩) ?_ ?_
 rotate_left
 ·intro w'
  go_simp
  with_reducible rfl
 rotate_left
 ·simp only [Act.put, List.setIfInBounds_toArray, List.set_cons_zero, List.set_cons_succ, i64_w, i32_w]
  rfl
 refine one_ (i := 13) (N := none) #[true, true, true, true, true, true, true, true, true, true, true, true, true, true] rfl rfl (one_of HT_.out (by kernel_rfl)) (by decide) (fun K hK => ?_)
 have hs14 : w13.cell? ⟨gb636, 0, none⟩ = some (.int .i64 0) := (blk_cell BK636.out 0).trans rfl
 have hfs14 := blk_frozen BK636.out 0
 have hns14_0 := NB634_636.out
 have hns14_1 := NB635_636.out
 have hms14_0 := NB636_634.out
 have hms14_1 := NB636_635.out
 have hs15 : w13.cell? ⟨gb636, 1, none⟩ = some (.int .i64 0) := (blk_cell BK636.out 1).trans rfl
 have hfs15 := blk_frozen BK636.out 1
 have hns15_0 := NB634_636.out
 have hns15_1 := NB635_636.out
 have hms15_0 := NB636_634.out
 have hms15_1 := NB636_635.out
 have hs16 : w13.cell? ⟨gb636, 2, none⟩ = some (.int .i64 0) := (blk_cell BK636.out 2).trans rfl
 have hfs16 := blk_frozen BK636.out 2
 have hns16_0 := NB634_636.out
 have hns16_1 := NB635_636.out
 have hms16_0 := NB636_634.out
 have hms16_1 := NB636_635.out
 have hs17 : w13.cell? ⟨gb636, 3, none⟩ = some (.int .i64 0) := (blk_cell BK636.out 3).trans rfl
 have hfs17 := blk_frozen BK636.out 3
 have hns17_0 := NB634_636.out
 have hns17_1 := NB635_636.out
 have hms17_0 := NB636_634.out
 have hms17_1 := NB636_635.out
 have hs18 : w13.cell? ⟨gb636, 4, none⟩ = some (.int .i64 0) := (blk_cell BK636.out 4).trans rfl
 have hfs18 := blk_frozen BK636.out 4
 have hns18_0 := NB634_636.out
 have hns18_1 := NB635_636.out
 have hms18_0 := NB636_634.out
 have hms18_1 := NB636_635.out
 have hs19 : w13.cell? ⟨gb636, 5, none⟩ = some (.int .i64 0) := (blk_cell BK636.out 5).trans rfl
 have hfs19 := blk_frozen BK636.out 5
 have hns19_0 := NB634_636.out
 have hns19_1 := NB635_636.out
 have hms19_0 := NB636_634.out
 have hms19_1 := NB636_635.out
 have hs20 : w13.cell? ⟨gb636, 6, none⟩ = some (.int .i64 0) := (blk_cell BK636.out 6).trans rfl
 have hfs20 := blk_frozen BK636.out 6
 have hns20_0 := NB634_636.out
 have hns20_1 := NB635_636.out
 have hms20_0 := NB636_634.out
 have hms20_1 := NB636_635.out
 have hs21 : w13.cell? ⟨gb636, 7, none⟩ = some (.int .i64 0) := (blk_cell BK636.out 7).trans rfl
 have hfs21 := blk_frozen BK636.out 7
 have hns21_0 := NB634_636.out
 have hns21_1 := NB635_636.out
 have hms21_0 := NB636_634.out
 have hms21_1 := NB636_635.out
 refine skip_ (w1 := ?_) (by rfl) rfl ?_ ?_
 rotate_left
 ·go_simp
  rfl
 refine hK.out _ _ ⟨((cell_far (p := ⟨gb636, _, none⟩) NB635_636.out _).trans (((cell_far (p := ⟨gb636, _, none⟩) NB635_636.out _).trans (((cell_far (p := ⟨gb636, _, none⟩) NB635_636.out _).trans (((cell_far (p := ⟨gb636, _, none⟩) NB635_636.out _).trans (((cell_far (p := ⟨gb636, _, none⟩) NB635_636.out _).trans (((cell_far (p := ⟨gb636, _, none⟩) NB635_636.out _).trans (((cell_far (p := ⟨gb636, _, none⟩) NB635_636.out _).trans (((cell_far (p := ⟨gb636, _, none⟩) NB635_636.out _).trans (hHeld.1)))))))))))))))), ((cell_far (p := ⟨gb636, _, none⟩) NB635_636.out _).trans (((cell_far (p := ⟨gb636, _, none⟩) NB635_636.out _).trans (((cell_far (p := ⟨gb636, _, none⟩) NB635_636.out _).trans (((cell_far (p := ⟨gb636, _, none⟩) NB635_636.out _).trans (((cell_far (p := ⟨gb636, _, none⟩) NB635_636.out _).trans (((cell_far (p := ⟨gb636, _, none⟩) NB635_636.out _).trans (((cell_far (p := ⟨gb636, _, none⟩) NB635_636.out _).trans (((cell_far (p := ⟨gb636, _, none⟩) NB635_636.out _).trans (hHeld.2.1)))))))))))))))), ((cell_far (p := ⟨gb636, _, none⟩) NB635_636.out _).trans (((cell_far (p := ⟨gb636, _, none⟩) NB635_636.out _).trans (((cell_far (p := ⟨gb636, _, none⟩) NB635_636.out _).trans (((cell_far (p := ⟨gb636, _, none⟩) NB635_636.out _).trans (((cell_far (p := ⟨gb636, _, none⟩) NB635_636.out _).trans (((cell_far (p := ⟨gb636, _, none⟩) NB635_636.out _).trans (((cell_far (p := ⟨gb636, _, none⟩) NB635_636.out _).trans (((cell_far (p := ⟨gb636, _, none⟩) NB635_636.out _).trans (hHeld.2.2.1)))))))))))))))), ((cell_far (p := ⟨gb636, _, none⟩) NB635_636.out _).trans (((cell_far (p := ⟨gb636, _, none⟩) NB635_636.out _).trans (((cell_far (p := ⟨gb636, _, none⟩) NB635_636.out _).trans (((cell_far (p := ⟨gb636, _, none⟩) NB635_636.out _).trans (((cell_far (p := ⟨gb636, _, none⟩) NB635_636.out _).trans (((cell_far (p := ⟨gb636, _, none⟩) NB635_636.out _).trans (((cell_far (p := ⟨gb636, _, none⟩) NB635_636.out _).trans (((cell_far (p := ⟨gb636, _, none⟩) NB635_636.out _).trans (hHeld.2.2.2.1)))))))))))))))), ((cell_far (p := ⟨gb636, _, none⟩) NB635_636.out _).trans (((cell_far (p := ⟨gb636, _, none⟩) NB635_636.out _).trans (((cell_far (p := ⟨gb636, _, none⟩) NB635_636.out _).trans (((cell_far (p := ⟨gb636, _, none⟩) NB635_636.out _).trans (((cell_far (p := ⟨gb636, _, none⟩) NB635_636.out _).trans (((cell_far (p := ⟨gb636, _, none⟩) NB635_636.out _).trans (((cell_far (p := ⟨gb636, _, none⟩) NB635_636.out _).trans (((cell_far (p := ⟨gb636, _, none⟩) NB635_636.out _).trans (hHeld.2.2.2.2.1)))))))))))))))), ((cell_far (p := ⟨gb636, _, none⟩) NB635_636.out _).trans (((cell_far (p := ⟨gb636, _, none⟩) NB635_636.out _).trans (((cell_far (p := ⟨gb636, _, none⟩) NB635_636.out _).trans (((cell_far (p := ⟨gb636, _, none⟩) NB635_636.out _).trans (((cell_far (p := ⟨gb636, _, none⟩) NB635_636.out _).trans (((cell_far (p := ⟨gb636, _, none⟩) NB635_636.out _).trans (((cell_far (p := ⟨gb636, _, none⟩) NB635_636.out _).trans (((cell_far (p := ⟨gb636, _, none⟩) NB635_636.out _).trans (hHeld.2.2.2.2.2.1)))))))))))))))), ((cell_far (p := ⟨gb636, _, none⟩) NB634_636.out _).trans (((cell_far (p := ⟨gb636, _, none⟩) NB634_636.out _).trans (((cell_far (p := ⟨gb636, _, none⟩) NB634_636.out _).trans (((cell_far (p := ⟨gb636, _, none⟩) NB634_636.out _).trans (((cell_far (p := ⟨gb636, _, none⟩) NB634_636.out _).trans (((cell_far (p := ⟨gb636, _, none⟩) NB634_636.out _).trans (((cell_far (p := ⟨gb636, _, none⟩) NB634_636.out _).trans (((cell_far (p := ⟨gb636, _, none⟩) NB634_636.out _).trans (hHeld.2.2.2.2.2.2.1)))))))))))))))), ((cell_far (p := ⟨gb636, _, none⟩) NB634_636.out _).trans (((cell_far (p := ⟨gb636, _, none⟩) NB634_636.out _).trans (((cell_far (p := ⟨gb636, _, none⟩) NB634_636.out _).trans (((cell_far (p := ⟨gb636, _, none⟩) NB634_636.out _).trans (((cell_far (p := ⟨gb636, _, none⟩) NB634_636.out _).trans (((cell_far (p := ⟨gb636, _, none⟩) NB634_636.out _).trans (((cell_far (p := ⟨gb636, _, none⟩) NB634_636.out _).trans (((cell_far (p := ⟨gb636, _, none⟩) NB634_636.out _).trans (hHeld.2.2.2.2.2.2.2))))))))))))))))⟩ (fun hHeld => ?_)
 clear hK K
 refine done_ (done_of HT_.out (by kernel_rfl)) ?_
 try go_wp2
 refine bodyPost_ret (results_cell_row rfl _ _ gb636 48 #[.int .i64 a3_0, .int .i64 a3_1, .int .i64 a3_2, .int .i64 a3_3, .int .i64 a3_4, .int .i64 a3_5, .int .i64 t637, .int .i64 t638] (0, 0) _ rfl (zP) Tryz.underlying48 rfl (by kernel_rfl)) rfl ?_
 exact ⟨zE, zB⟩
def laws_eqRequest.f (a0_0 : Int) (a0_1 : Int) (a0_2 : Int) (a0_3 : Int) (a0_4 : Int) (a0_5 : Int) (a1_0 : Int) (a1_1 : Int) (a1_2 : Int) (a1_3 : Int) (a1_4 : Int) (a1_5 : Int) : Option (Bool) := if a0_0 = a1_0 then (if a0_1 = a1_1 then (if a0_2 = a1_2 then (if a0_3 = a1_3 then (if a0_4 = a1_4 then (if a0_5 = a1_5 then (some true) else (some false)) else (some false)) else (some false)) else (some false)) else (some false)) else (some false)
theorem laws_eqRequest.calls (a0_0 : Int) (a0_1 : Int) (a0_2 : Int) (a0_3 : Int) (a0_4 : Int) (a0_5 : Int) (a1_0 : Int) (a1_1 : Int) (a1_2 : Int) (a1_3 : Int) (a1_4 : Int) (a1_5 : Int) (r : Bool) (w : World) (h : laws_eqRequest.f a0_0 a0_1 a0_2 a0_3 a0_4 a0_5 a1_0 a1_1 a1_2 a1_3 a1_4 a1_5 = some r) :
  Calls Tryz.prog 101 #[.agg #[.int .i64 a0_0, .int .i64 a0_1, .int .i64 a0_2, .int .i64 a0_3, .int .i64 a0_4, .int .i64 a0_5], .agg #[.int .i64 a1_0, .int .i64 a1_1, .int .i64 a1_2, .int .i64 a1_3, .int .i64 a1_4, .int .i64 a1_5]] w fun e w' => e = .returned (.bool r) ∧ Below w.heap.size w w' := by
 have HB := Aside0.mk (Below.refl w.heap.size w)
 have H := h
 clear h
 unfold laws_eqRequest.f at H
 have hu41 := Tryz.underlying41
 go_enter Tryz.func101, Tryz.ntmps101
 replace H := Aside0.mk H
 go_upto_region 1 with (first | ((with_reducible refine gate_dst (N := 2) rfl ?_); refine box_event ?hg (N := 2) ?hd (cs := #[.int .i64 a0_0, .int .i64 a0_1, .int .i64 a0_2, .int .i64 a0_3, .int .i64 a0_4, .int .i64 a0_5]) (t := 41) ?hr ?_; (case hd => rfl); (case hg => rfl); (case hr => first | (go_simp; done) | (go_simp; rfl)); intro gb1 hg W1 hbox hb; replace HB := bH HB hb; clear hb; have BK1 := Aside0.mk hbox; have c_BK1 := blk_cell hbox; have z_BK1 := blk_frozen hbox; clear hg hbox) | ((with_reducible refine gate_dst (N := 3) rfl ?_); refine box_event ?hg (N := 3) ?hd (cs := #[.int .i64 a1_0, .int .i64 a1_1, .int .i64 a1_2, .int .i64 a1_3, .int .i64 a1_4, .int .i64 a1_5]) (t := 41) ?hr ?_; (case hd => rfl); (case hg => rfl); (case hr => first | (go_simp; done) | (go_simp; rfl)); intro gb2 hg W2 hbox hb; replace BK1 := bK BK1 hb; replace c_BK1 := bcl BK1; replace z_BK1 := bfr BK1; replace HB := bH HB hb; clear hb; have BK2 := Aside0.mk hbox; have c_BK2 := blk_cell hbox; have z_BK2 := blk_frozen hbox; clear hg hbox))
 replace H := ifD H.out; rcases H with ⟨c3, H⟩ | ⟨c3, H⟩
 rotate_left
 ·obtain ⟨c3_0, c3_1, c3_2⟩ := d3F c3
  clear c3
  (first | rw [c3_1] | rw [c3_2] | skip)
  cases H
  go_wp2
  go_ret
  exact ⟨rfl, HB.out⟩
 obtain ⟨c3_0, c3_1, c3_2⟩ := d3T c3
 clear c3
 (first | rw [c3_1] | rw [c3_2] | skip)
 replace H := ifD H; rcases H with ⟨c4, H⟩ | ⟨c4, H⟩
 rotate_left
 ·obtain ⟨c4_0, c4_1, c4_2⟩ := d3F c4
  clear c4
  (first | rw [c4_1] | rw [c4_2] | skip)
  cases H
  go_wp2
  go_ret
  exact ⟨rfl, HB.out⟩
 obtain ⟨c4_0, c4_1, c4_2⟩ := d3T c4
 clear c4
 (first | rw [c4_1] | rw [c4_2] | skip)
 replace H := ifD H; rcases H with ⟨c5, H⟩ | ⟨c5, H⟩
 rotate_left
 ·obtain ⟨c5_0, c5_1, c5_2⟩ := d3F c5
  clear c5
  (first | rw [c5_1] | rw [c5_2] | skip)
  cases H
  go_wp2
  go_ret
  exact ⟨rfl, HB.out⟩
 obtain ⟨c5_0, c5_1, c5_2⟩ := d3T c5
 clear c5
 (first | rw [c5_1] | rw [c5_2] | skip)
 replace H := ifD H; rcases H with ⟨c6, H⟩ | ⟨c6, H⟩
 rotate_left
 ·obtain ⟨c6_0, c6_1, c6_2⟩ := d3F c6
  clear c6
  (first | rw [c6_1] | rw [c6_2] | skip)
  cases H
  go_wp2
  go_ret
  exact ⟨rfl, HB.out⟩
 obtain ⟨c6_0, c6_1, c6_2⟩ := d3T c6
 clear c6
 (first | rw [c6_1] | rw [c6_2] | skip)
 replace H := ifD H; rcases H with ⟨c7, H⟩ | ⟨c7, H⟩
 rotate_left
 ·obtain ⟨c7_0, c7_1, c7_2⟩ := d3F c7
  clear c7
  (first | rw [c7_1] | rw [c7_2] | skip)
  cases H
  go_wp2
  go_ret
  exact ⟨rfl, HB.out⟩
 obtain ⟨c7_0, c7_1, c7_2⟩ := d3T c7
 clear c7
 (first | rw [c7_1] | rw [c7_2] | skip)
 replace H := ifD H; rcases H with ⟨c8, H⟩ | ⟨c8, H⟩
 ·obtain ⟨c8_0, c8_1, c8_2⟩ := d3T c8
  clear c8
  (first | rw [c8_1] | rw [c8_2] | skip)
  cases H
  go_wp2
  go_ret
  exact ⟨rfl, HB.out⟩
 obtain ⟨c8_0, c8_1, c8_2⟩ := d3F c8
 clear c8
 (first | rw [c8_1] | rw [c8_2] | skip)
 cases H
 go_wp2
 go_ret
 exact ⟨rfl, HB.out⟩
def laws_eqSaved.f (a0_0 : Int) (a0_1 : Int) (a0_2 : Int) (a0_3 : Int) (a0_4 : Int) (a0_5 : Int) (a0_6 : Int) (a0_7 : Int) (a1_0 : Int) (a1_1 : Int) (a1_2 : Int) (a1_3 : Int) (a1_4 : Int) (a1_5 : Int) (a1_6 : Int) (a1_7 : Int) : Option (Bool) := (laws_eqRequest.f a0_0 a0_1 a0_2 a0_3 a0_4 a0_5 a1_0 a1_1 a1_2 a1_3 a1_4 a1_5).bind fun t643 => (if t643 = true then (if a0_6 = a1_6 then (if a0_7 = a1_7 then (some true) else (some false)) else (some false)) else (some false))
theorem laws_eqSaved.calls (a0_0 : Int) (a0_1 : Int) (a0_2 : Int) (a0_3 : Int) (a0_4 : Int) (a0_5 : Int) (a0_6 : Int) (a0_7 : Int) (a1_0 : Int) (a1_1 : Int) (a1_2 : Int) (a1_3 : Int) (a1_4 : Int) (a1_5 : Int) (a1_6 : Int) (a1_7 : Int) (r : Bool) (w : World) (h : laws_eqSaved.f a0_0 a0_1 a0_2 a0_3 a0_4 a0_5 a0_6 a0_7 a1_0 a1_1 a1_2 a1_3 a1_4 a1_5 a1_6 a1_7 = some r) :
  Calls Tryz.prog 28 #[.agg #[.int .i64 a0_0, .int .i64 a0_1, .int .i64 a0_2, .int .i64 a0_3, .int .i64 a0_4, .int .i64 a0_5, .int .i64 a0_6, .int .i64 a0_7], .agg #[.int .i64 a1_0, .int .i64 a1_1, .int .i64 a1_2, .int .i64 a1_3, .int .i64 a1_4, .int .i64 a1_5, .int .i64 a1_6, .int .i64 a1_7]] w fun e w' => e = .returned (.bool r) ∧ Below w.heap.size w w' := by
 have HB := Aside0.mk (Below.refl w.heap.size w)
 have H := h
 clear h
 unfold laws_eqSaved.f at H
 have hu41 := Tryz.underlying41
 have hu48 := Tryz.underlying48
 go_enter Tryz.func28, Tryz.ntmps28
 replace H := Aside0.mk H
 go_upto_region 1 with (first | ((with_reducible refine gate_dst (N := 2) rfl ?_); refine box_event ?hg (N := 2) ?hd (cs := #[.int .i64 a0_0, .int .i64 a0_1, .int .i64 a0_2, .int .i64 a0_3, .int .i64 a0_4, .int .i64 a0_5, .int .i64 a0_6, .int .i64 a0_7]) (t := 48) ?hr ?_; (case hd => rfl); (case hg => rfl); (case hr => first | (go_simp; done) | (go_simp; rfl)); intro gb1 hg W1 hbox hb; replace HB := bH HB hb; clear hb; have BK1 := Aside0.mk hbox; have c_BK1 := blk_cell hbox; have z_BK1 := blk_frozen hbox; clear hg hbox) | ((with_reducible refine gate_dst (N := 3) rfl ?_); refine box_event ?hg (N := 3) ?hd (cs := #[.int .i64 a1_0, .int .i64 a1_1, .int .i64 a1_2, .int .i64 a1_3, .int .i64 a1_4, .int .i64 a1_5, .int .i64 a1_6, .int .i64 a1_7]) (t := 48) ?hr ?_; (case hd => rfl); (case hg => rfl); (case hr => first | (go_simp; done) | (go_simp; rfl)); intro gb2 hg W2 hbox hb; replace BK1 := bK BK1 hb; replace c_BK1 := bcl BK1; replace z_BK1 := bfr BK1; replace HB := bH HB hb; clear hb; have BK2 := Aside0.mk hbox; have c_BK2 := blk_cell hbox; have z_BK2 := blk_frozen hbox; clear hg hbox))
 replace H := H.out
 replace H := obs H
 obtain ⟨t643, hm, H⟩ := H
 (try dsimp only at H)
 replace H := Aside0.mk H
 have hcall := laws_eqRequest.calls _ _ _ _ _ _ _ _ _ _ _ _ _ W2  hm
 clear hm
 (go_wp2_with fail)
 refine hcall.mono ?_
 rintro e W3 ⟨rfl, hb⟩
 clear hcall
 replace BK1 := bK BK1 hb; replace c_BK1 := bcl BK1; replace z_BK1 := bfr BK1
 replace BK2 := bK BK2 hb; replace c_BK2 := bcl BK2; replace z_BK2 := bfr BK2
 replace HB := bH HB hb; clear hb
 replace H := ifD H.out; rcases H with ⟨c4, H⟩ | ⟨c4, H⟩
 rotate_left
 ·replace c4 := nT c4
  subst c4
  cases H
  go_wp2
  go_ret
  exact ⟨rfl, HB.out⟩
 subst c4
 replace H := ifD H; rcases H with ⟨c5, H⟩ | ⟨c5, H⟩
 rotate_left
 ·obtain ⟨c5_0, c5_1, c5_2⟩ := d3F c5
  clear c5
  (first | rw [c5_1] | rw [c5_2] | skip)
  cases H
  go_wp2
  go_ret
  exact ⟨rfl, HB.out⟩
 obtain ⟨c5_0, c5_1, c5_2⟩ := d3T c5
 clear c5
 (first | rw [c5_1] | rw [c5_2] | skip)
 replace H := ifD H; rcases H with ⟨c6, H⟩ | ⟨c6, H⟩
 ·obtain ⟨c6_0, c6_1, c6_2⟩ := d3T c6
  clear c6
  (first | rw [c6_1] | rw [c6_2] | skip)
  cases H
  go_wp2
  go_ret
  exact ⟨rfl, HB.out⟩
 obtain ⟨c6_0, c6_1, c6_2⟩ := d3F c6
 clear c6
 (first | rw [c6_1] | rw [c6_2] | skip)
 cases H
 go_wp2
 go_ret
 exact ⟨rfl, HB.out⟩
end Go.Proofs.YtmgfklmhelabcaaGreat.QFnExactSaveDecision
