/- The machine side of FnExactEqualPoints: what each function that it reaches computes, and that the machine's call gives just that. -/
import Derived.Test.YtineejdlpcgnkaaQFnExactEqualPointsx0
import Derived.Test.YtineejdlpcgnkaaQFnExactEqualPointsx1
import Derived.Test.YtineejdlpcgnkaaQFnExactEqualPointsx2
import Derived.Test.YtineejdlpcgnkaaQFnExactEqualPointsx3
import Derived.Test.YtineejdlpcgnkaaQFnExactEqualPointsx11
namespace Go.Proofs.Ytineejdlpcgnkaa.QFnExactEqualPoints
open Go.RowKit Go.Proofs.YtineejdlpcgnkaaW.PrintWords Go.Proofs.YtineejdlpcgnkaaW.PrintLast Go.Proofs.YtineejdlpcgnkaaW.PrintMore
attribute [local go_sem] max2_int min2_int max_two min_two max_three min_three max_four min_four   -- for this text's walks alone
set_option linter.unusedVariables false
set_option linter.unusedSimpArgs false

attribute [local go_sem high] eqA99 eqA103 eqA132
/-! ### spec_EqualPolicies: function 120 -/
def spec_EqualPolicies.l0 : Nat → Int → Int → List (S174) → Int → List (S174) → Option (Bool)
  | 0, _, _, _, _, _ => none
  | k + 1, x5, x296000, x296001, x297000, x297001 => if x5 < (x296001.length : Int) then (if 0 ≤ x5 then (if x5 < (x297001.length : Int) then (if ((rd_T174 x296001 x5).f0) = ((rd_T174 x297001 x5).f0) then (if ((rd_T174 x296001 x5).f1) = ((rd_T174 x297001 x5).f1) then (if ((rd_T174 x296001 x5).f2) = ((rd_T174 x297001 x5).f2) then ((spec_EqualConds.f k ((rd_T174 x296001 x5).f3.f0) ((rd_T174 x296001 x5).f3.f1) ((rd_T174 x296001 x5).f3.f2) ((rd_T174 x296001 x5).f3.f3) ((rd_T174 x297001 x5).f3.f0) ((rd_T174 x297001 x5).f3.f1) ((rd_T174 x297001 x5).f3.f2) ((rd_T174 x297001 x5).f3.f3)).bind fun t301 => (if t301 = true then (spec_EqualPolicies.l0 k (wrap64 (x5 + 1)) x296000 x296001 x297000 x297001) else (some false))) else (some false)) else (some false)) else (some false)) else (none)) else (none)) else (some true)
def spec_EqualPolicies.f (k : Nat) (a0_0 : Int) (l0_1 : List (S174)) (a1_0 : Int) (l1_1 : List (S174)) : Option (Bool) := if a0_0 = a1_0 then (if (l0_1.length : Int) = (l1_1.length : Int) then (spec_EqualPolicies.l0 k 0 a0_0 l0_1 a1_0 l1_1) else (some false)) else (some false)
open Go.Proofs.YtineejdlpcgnkaaM in
set_option maxHeartbeats 8000000 in
set_option maxRecDepth 100000 in
theorem spec_EqualPolicies.calls (k : Nat) (a0_0 : Int) (A0_1 : Option Addr) (c0_1 : Nat) (l0_1 : List (S174)) (a1_0 : Int) (A1_1 : Option Addr) (c1_1 : Nat) (l1_1 : List (S174)) (r : Bool) (w : World) (hr0_1 : Kd.C k174 w A0_1 l0_1.length l0_1) (hc0_1 : l0_1.length ≤ c0_1) (hr1_1 : Kd.C k174 w A1_1 l1_1.length l1_1) (hc1_1 : l1_1.length ≤ c1_1) (h : spec_EqualPolicies.f k a0_0 l0_1 a1_0 l1_1 = some r) :
    Calls Try.prog 120 #[.agg #[.int .i64 a0_0, .slice A0_1 l0_1.length c0_1], .agg #[.int .i64 a1_0, .slice A1_1 l1_1.length c1_1]] w fun e w' => e = .returned (.bool r) ∧ Below w.heap.size w w' := by
  have HR0_1 := Aside0.mk hr0_1
  have HC0_1 := Aside0.mk hc0_1
  clear hr0_1 hc0_1
  have HR1_1 := Aside0.mk hr1_1
  have HC1_1 := Aside0.mk hc1_1
  clear hr1_1 hc1_1
  have HB := Aside0.mk (Below.refl w.heap.size w)
  have H := h
  clear h
  unfold spec_EqualPolicies.f at H
  have hu38 := Try.underlying38
  have hu172 := Try.underlying172
  have hu174 := Try.underlying174
  go_enter Try.func120, Try.ntmps120
  replace H := Aside0.mk H
  go_upto_region 1 with (first | ((with_reducible refine gate_dst (N := 2) rfl ?_); refine box_event ?hg (N := 2) ?hd (cs := #[.int .i64 a0_0, .slice A0_1 l0_1.length c0_1]) (t := 38) ?hr ?_; (case hd => rfl); (case hg => rfl); (case hr => first | (go_simp; done) | (go_simp; rfl)); intro gb1 hg W1 hbox hb; replace HB := bH HB hb; clear hb; have BK1 := Aside0.mk hbox; have c_BK1 := blk_cell hbox; have z_BK1 := blk_frozen hbox; clear hg hbox) | ((with_reducible refine gate_dst (N := 3) rfl ?_); refine box_event ?hg (N := 3) ?hd (cs := #[.int .i64 a1_0, .slice A1_1 l1_1.length c1_1]) (t := 38) ?hr ?_; (case hd => rfl); (case hg => rfl); (case hr => first | (go_simp; done) | (go_simp; rfl)); intro gb2 hg W2 hbox hb; replace BK1 := bK BK1 hb; replace c_BK1 := blk_cell BK1.out; replace z_BK1 := blk_frozen BK1.out; replace HB := bH HB hb; clear hb; have BK2 := Aside0.mk hbox; have c_BK2 := blk_cell hbox; have z_BK2 := blk_frozen hbox; clear hg hbox))
  replace H := H.out
  by_cases c3 : a0_0 = a1_0
  · rw [if_pos c3] at H
    have c3_0 := decT c3; have c3_1 := eqT c3; have c3_2 := neT c3
    clear c3
    by_cases c4 : (l0_1.length : Int) = (l1_1.length : Int)
    · rw [if_pos c4] at H
      have c4_0 := decT c4; have c4_1 := eqT c4; have c4_2 := neT c4
      clear c4
      replace H := Aside0.mk H
      go_wp2
      go_loopg [5] k (fun kq v5 w' => ∃ (x5_5 : Int), v5 = .int .i64 x5_5 ∧ Aside0 (spec_EqualPolicies.l0 kq x5_5 a0_0 l0_1 a1_0 l1_1 = some r) ∧ Aside0 (kq ≤ k) ∧ Aside0 (w'.heap[gb1]? = some (.cells #[.int .i64 a0_0, .slice A0_1 l0_1.length c0_1] 38 (0, 0))) ∧ Aside0 (w'.heap[gb2]? = some (.cells #[.int .i64 a1_0, .slice A1_1 l1_1.length c1_1] 38 (0, 0))) ∧ Aside0 (Below w.heap.size w w'))
      case atStart => exact ⟨(0), (by first | rfl | (simp; done) | (simp [*]; done)), H, ⟨Nat.le_refl _⟩, BK1, BK2, HB⟩
      case round =>
        clear H HB BK1 c_BK1 z_BK1 BK2 c_BK2 z_BK2
        try clear c3_0 c3_1 c3_2 c4_0 c4_1 c4_2
        obtain ⟨x5_5, rfl, HA, Hk5, BK1, BK2, HB⟩ := hrel
        have c_BK1 := blk_cell BK1.out; have z_BK1 := blk_frozen BK1.out
        have c_BK2 := blk_cell BK2.out; have z_BK2 := blk_frozen BK2.out
        cases gk with
        | zero => exact absurd HA.out (by simp [spec_EqualPolicies.l0])
        | succ k5 =>
          have H := HA.out
          clear HA
          simp only [spec_EqualPolicies.l0] at H
          by_cases c6 : x5_5 < (l0_1.length : Int)
          · rw [if_pos c6] at H
            have c6_0 := decT c6
            replace c6 := Aside0.mk c6
            by_cases c7 : 0 ≤ x5_5
            · rw [if_pos c7] at H
              have c7_0 := decT c7
              replace c7 := Aside0.mk c7
              have p297 : 0 ≤ (x5_5 : Int) := (of_decide_eq_true (by assumption))
              have q297 : x5_5 < (l0_1.length : Int) := (of_decide_eq_true (by assumption))
              obtain ⟨ad297, A297_6, c297_6, e297, hx297_0, hx297_1, hx297_2, hx297_3, hx297_4, hx297_5, hx297_6, hl297_6, hi297_6⟩ := at_T174 HR0_1.out x5_5 p297 q297
              cases e297
              have HR297_6 := Aside0.mk hi297_6; have HC297_6 := Aside0.mk hl297_6; clear hi297_6 hl297_6
              replace hx297_0 := Aside0.mk hx297_0
              have y297_0 := xC HB hx297_0
              replace hx297_1 := Aside0.mk hx297_1
              have y297_1 := xC HB hx297_1
              replace hx297_2 := Aside0.mk hx297_2
              have y297_2 := xC HB hx297_2
              replace hx297_3 := Aside0.mk hx297_3
              have y297_3 := xC HB hx297_3
              replace hx297_4 := Aside0.mk hx297_4
              have y297_4 := xC HB hx297_4
              replace hx297_5 := Aside0.mk hx297_5
              have y297_5 := xC HB hx297_5
              replace hx297_6 := Aside0.mk hx297_6
              have y297_6 := xC HB hx297_6
              have r297 := eq_true p297; have s297 := eq_true q297
              replace p297 := Aside0.mk p297; replace q297 := Aside0.mk q297
              replace H := Aside0.mk H
              go_upto_region 7 with (first | ((with_reducible refine gate_dst (N := 6) rfl ?_); refine box_event ?hg (N := 6) ?hd (cs := #[.int .i64 0, .int .i64 0, .int .i64 0, .int .i64 0, .int .i64 0, .int .i64 0, .slice none 0 0]) (t := 174) ?hr ?_; (case hd => rfl); (case hg => rfl); (case hr => first | (go_simp; done) | (go_simp; rfl)); intro gb8 hg W8 hbox hb; have G8 := Aside0.mk hg; have b0_ := Aside0.mk hb; have BK8 := Aside0.mk hbox; have c_BK8 := blk_cell hbox; have z_BK8 := blk_frozen hbox; clear hg hb hbox) | ((with_reducible refine gate_store (t := 174) (p := 6) rfl ?_); refine store_event (t := 174) (p := 6) (v := ?vo_s9) (w1 := (((((((W8.setCell ⟨gb8, 0, none⟩ (.int .i64 ((rd_T174 l0_1 x5_5).f0))).setCell ⟨gb8, 1, none⟩ (.int .i64 ((rd_T174 l0_1 x5_5).f1))).setCell ⟨gb8, 2, none⟩ (.int .i64 ((rd_T174 l0_1 x5_5).f2))).setCell ⟨gb8, 3, none⟩ (.int .i64 ((rd_T174 l0_1 x5_5).f3.f0))).setCell ⟨gb8, 4, none⟩ (.int .i64 ((rd_T174 l0_1 x5_5).f3.f1))).setCell ⟨gb8, 5, none⟩ (.int .i64 ((rd_T174 l0_1 x5_5).f3.f2))).setCell ⟨gb8, 6, none⟩ (.slice A297_6 ((rd_T174 l0_1 x5_5).f3.f3).length c297_6))) ?hg ?ho ?hn ?hr ?_; (case ho => rfl); (case hg => rfl); (case hn => rfl); (case hr => first | (go_simp; done) | (go_simp; rfl)); intro W9 hw; have hb : Below wr.heap.size wr W9 := (by rw [hw]; exact bSet (bSet (bSet (bSet (bSet (bSet (bSet (b0_.out) (Nat.le_of_eq G8.out.symm)) (Nat.le_of_eq G8.out.symm)) (Nat.le_of_eq G8.out.symm)) (Nat.le_of_eq G8.out.symm)) (Nat.le_of_eq G8.out.symm)) (Nat.le_of_eq G8.out.symm)) (Nat.le_of_eq G8.out.symm)); clear b0_; have h_ := blk_set (blk_set (blk_set (blk_set (blk_set (blk_set (blk_set (BK8.out) 0 (.int .i64 ((rd_T174 l0_1 x5_5).f0))) 1 (.int .i64 ((rd_T174 l0_1 x5_5).f1))) 2 (.int .i64 ((rd_T174 l0_1 x5_5).f2))) 3 (.int .i64 ((rd_T174 l0_1 x5_5).f3.f0))) 4 (.int .i64 ((rd_T174 l0_1 x5_5).f3.f1))) 5 (.int .i64 ((rd_T174 l0_1 x5_5).f3.f2))) 6 (.slice A297_6 ((rd_T174 l0_1 x5_5).f3.f3).length c297_6); rw [← hw] at h_; simp only [List.setIfInBounds_toArray, List.set_cons_zero, List.set_cons_succ] at h_; clear BK8 c_BK8 z_BK8 hw; replace BK1 := bK BK1 hb; replace c_BK1 := blk_cell BK1.out; replace z_BK1 := blk_frozen BK1.out; replace BK2 := bK BK2 hb; replace c_BK2 := blk_cell BK2.out; replace z_BK2 := blk_frozen BK2.out; replace HB := bH HB hb; clear hb; have BK8 := Aside0.mk h_; have c_BK8 := blk_cell h_; have z_BK8 := blk_frozen h_; clear h_ G8))
              try clear y297_0 y297_1 y297_2 y297_3 y297_4 y297_5 y297_6 r297 s297
              replace H := H.out
              by_cases c10 : x5_5 < (l1_1.length : Int)
              · rw [if_pos c10] at H
                have c10_0 := decT c10
                replace c10 := Aside0.mk c10
                have p299 : 0 ≤ (x5_5 : Int) := (of_decide_eq_true (by assumption))
                have q299 : x5_5 < (l1_1.length : Int) := (of_decide_eq_true (by assumption))
                obtain ⟨ad299, A299_6, c299_6, e299, hx299_0, hx299_1, hx299_2, hx299_3, hx299_4, hx299_5, hx299_6, hl299_6, hi299_6⟩ := at_T174 HR1_1.out x5_5 p299 q299
                cases e299
                have HR299_6 := Aside0.mk hi299_6; have HC299_6 := Aside0.mk hl299_6; clear hi299_6 hl299_6
                replace hx299_0 := Aside0.mk hx299_0
                have y299_0 := xC HB hx299_0
                replace hx299_1 := Aside0.mk hx299_1
                have y299_1 := xC HB hx299_1
                replace hx299_2 := Aside0.mk hx299_2
                have y299_2 := xC HB hx299_2
                replace hx299_3 := Aside0.mk hx299_3
                have y299_3 := xC HB hx299_3
                replace hx299_4 := Aside0.mk hx299_4
                have y299_4 := xC HB hx299_4
                replace hx299_5 := Aside0.mk hx299_5
                have y299_5 := xC HB hx299_5
                replace hx299_6 := Aside0.mk hx299_6
                have y299_6 := xC HB hx299_6
                have r299 := eq_true p299; have s299 := eq_true q299
                replace p299 := Aside0.mk p299; replace q299 := Aside0.mk q299
                replace H := Aside0.mk H
                go_upto_region 8 with (first | ((with_reducible refine gate_dst (N := 7) rfl ?_); refine box_event ?hg (N := 7) ?hd (cs := #[.int .i64 0, .int .i64 0, .int .i64 0, .int .i64 0, .int .i64 0, .int .i64 0, .slice none 0 0]) (t := 174) ?hr ?_; (case hd => rfl); (case hg => rfl); (case hr => first | (go_simp; done) | (go_simp; rfl)); intro gb11 hg W11 hbox hb; have G11 := Aside0.mk hg; have b0_ := Aside0.mk hb; have BK11 := Aside0.mk hbox; have c_BK11 := blk_cell hbox; have z_BK11 := blk_frozen hbox; clear hg hb hbox) | ((with_reducible refine gate_store (t := 174) (p := 7) rfl ?_); refine store_event (t := 174) (p := 7) (v := ?vo_s12) (w1 := (((((((W11.setCell ⟨gb11, 0, none⟩ (.int .i64 ((rd_T174 l1_1 x5_5).f0))).setCell ⟨gb11, 1, none⟩ (.int .i64 ((rd_T174 l1_1 x5_5).f1))).setCell ⟨gb11, 2, none⟩ (.int .i64 ((rd_T174 l1_1 x5_5).f2))).setCell ⟨gb11, 3, none⟩ (.int .i64 ((rd_T174 l1_1 x5_5).f3.f0))).setCell ⟨gb11, 4, none⟩ (.int .i64 ((rd_T174 l1_1 x5_5).f3.f1))).setCell ⟨gb11, 5, none⟩ (.int .i64 ((rd_T174 l1_1 x5_5).f3.f2))).setCell ⟨gb11, 6, none⟩ (.slice A299_6 ((rd_T174 l1_1 x5_5).f3.f3).length c299_6))) ?hg ?ho ?hn ?hr ?_; (case ho => rfl); (case hg => rfl); (case hn => rfl); (case hr => first | (go_simp; done) | (go_simp; rfl)); intro W12 hw; have hb : Below W9.heap.size W9 W12 := (by rw [hw]; exact bSet (bSet (bSet (bSet (bSet (bSet (bSet (b0_.out) (Nat.le_of_eq G11.out.symm)) (Nat.le_of_eq G11.out.symm)) (Nat.le_of_eq G11.out.symm)) (Nat.le_of_eq G11.out.symm)) (Nat.le_of_eq G11.out.symm)) (Nat.le_of_eq G11.out.symm)) (Nat.le_of_eq G11.out.symm)); clear b0_; have h_ := blk_set (blk_set (blk_set (blk_set (blk_set (blk_set (blk_set (BK11.out) 0 (.int .i64 ((rd_T174 l1_1 x5_5).f0))) 1 (.int .i64 ((rd_T174 l1_1 x5_5).f1))) 2 (.int .i64 ((rd_T174 l1_1 x5_5).f2))) 3 (.int .i64 ((rd_T174 l1_1 x5_5).f3.f0))) 4 (.int .i64 ((rd_T174 l1_1 x5_5).f3.f1))) 5 (.int .i64 ((rd_T174 l1_1 x5_5).f3.f2))) 6 (.slice A299_6 ((rd_T174 l1_1 x5_5).f3.f3).length c299_6); rw [← hw] at h_; simp only [List.setIfInBounds_toArray, List.set_cons_zero, List.set_cons_succ] at h_; clear BK11 c_BK11 z_BK11 hw; replace BK1 := bK BK1 hb; replace c_BK1 := blk_cell BK1.out; replace z_BK1 := blk_frozen BK1.out; replace BK2 := bK BK2 hb; replace c_BK2 := blk_cell BK2.out; replace z_BK2 := blk_frozen BK2.out; replace BK8 := bK BK8 hb; replace c_BK8 := blk_cell BK8.out; replace z_BK8 := blk_frozen BK8.out; replace HB := bH HB hb; clear hb; have BK11 := Aside0.mk h_; have c_BK11 := blk_cell h_; have z_BK11 := blk_frozen h_; clear h_ G11))
                try clear y299_0 y299_1 y299_2 y299_3 y299_4 y299_5 y299_6 r299 s299
                replace H := H.out
                by_cases c13 : ((rd_T174 l0_1 x5_5).f0) = ((rd_T174 l1_1 x5_5).f0)
                · rw [if_pos c13] at H
                  have c13_0 := decT c13; have c13_1 := eqT c13; have c13_2 := neT c13
                  clear c13
                  by_cases c14 : ((rd_T174 l0_1 x5_5).f1) = ((rd_T174 l1_1 x5_5).f1)
                  · rw [if_pos c14] at H
                    have c14_0 := decT c14; have c14_1 := eqT c14; have c14_2 := neT c14
                    clear c14
                    by_cases c15 : ((rd_T174 l0_1 x5_5).f2) = ((rd_T174 l1_1 x5_5).f2)
                    · rw [if_pos c15] at H
                      have c15_0 := decT c15; have c15_1 := eqT c15; have c15_2 := neT c15
                      clear c15
                      obtain ⟨t301, hm, H⟩ := Option.bind_eq_some_iff.mp H
                      try dsimp only at H
                      replace H := Aside0.mk H
                      have hcall := spec_EqualConds.calls k5 _ _ _ _ _ _ _ _ _ _ _ _ _ W12 (Kd.C_below HR297_6.out HB.out) HC297_6.out (Kd.C_below HR299_6.out HB.out) HC299_6.out hm
                      clear hm
                      go_wp2_with fail
                      refine hcall.mono ?_
                      rintro e W16 ⟨rfl, hb⟩
                      clear hcall
                      replace BK1 := bK BK1 hb; replace c_BK1 := blk_cell BK1.out; replace z_BK1 := blk_frozen BK1.out
                      replace BK2 := bK BK2 hb; replace c_BK2 := blk_cell BK2.out; replace z_BK2 := blk_frozen BK2.out
                      replace BK8 := bK BK8 hb; replace c_BK8 := blk_cell BK8.out; replace z_BK8 := blk_frozen BK8.out
                      replace BK11 := bK BK11 hb; replace c_BK11 := blk_cell BK11.out; replace z_BK11 := blk_frozen BK11.out
                      replace HB := bH HB hb; clear hb
                      replace H := H.out
                      by_cases c17 : t301 = true
                      · rw [if_pos c17] at H
                        subst c17
                        replace H := Aside0.mk H
                        go_wp2
                        go_roundg k5
                        case measure => have := Hk5.out; omega
                        case rel => exact ⟨(wrap64 (x5_5 + 1)), (by first | rfl | (simp; done) | (simp [*]; done)), H, ⟨by have := Hk5.out; omega⟩, BK1, BK2, HB⟩
                      · rw [if_neg c17] at H
                        replace c17 := (Bool.not_eq_true _).mp c17
                        subst c17
                        obtain rfl := Option.some.inj H
                        clear H
                        go_wp2
                        go_ret
                        exact ⟨rfl, HB.out⟩
                    · rw [if_neg c15] at H
                      have c15_0 := decF c15; have c15_1 := eqF c15; have c15_2 := neF c15
                      clear c15
                      obtain rfl := Option.some.inj H
                      clear H
                      go_wp2
                      go_ret
                      exact ⟨rfl, HB.out⟩
                  · rw [if_neg c14] at H
                    have c14_0 := decF c14; have c14_1 := eqF c14; have c14_2 := neF c14
                    clear c14
                    obtain rfl := Option.some.inj H
                    clear H
                    go_wp2
                    go_ret
                    exact ⟨rfl, HB.out⟩
                · rw [if_neg c13] at H
                  have c13_0 := decF c13; have c13_1 := eqF c13; have c13_2 := neF c13
                  clear c13
                  obtain rfl := Option.some.inj H
                  clear H
                  go_wp2
                  go_ret
                  exact ⟨rfl, HB.out⟩
              · rw [if_neg c10] at H
                cases H
            · rw [if_neg c7] at H
              cases H
          · rw [if_neg c6] at H
            have c6_0 := decF c6
            replace c6 := Aside0.mk c6
            obtain rfl := Option.some.inj H
            clear H
            go_wp2
            go_ret
            exact ⟨rfl, HB.out⟩
    · rw [if_neg c4] at H
      have c4_0 := decF c4; have c4_1 := eqF c4; have c4_2 := neF c4
      clear c4
      obtain rfl := Option.some.inj H
      clear H
      go_wp2
      go_ret
      exact ⟨rfl, HB.out⟩
  · rw [if_neg c3] at H
    have c3_0 := decF c3; have c3_1 := eqF c3; have c3_2 := neF c3
    clear c3
    obtain rfl := Option.some.inj H
    clear H
    go_wp2
    go_ret
    exact ⟨rfl, HB.out⟩

/-! ### spec_EqualEpochs: function 62 -/
def spec_EqualEpochs.f (k : Nat) (a0_0 : Int) (a0_1 : Int) (l0_2 : List (S149)) (a0_3 : Int) (l0_4 : List (S174)) (a1_0 : Int) (a1_1 : Int) (l1_2 : List (S149)) (a1_3 : Int) (l1_4 : List (S174)) : Option (Bool) := if a0_0 = a1_0 then (if a0_1 = a1_1 then ((spec_l24Pairs.f k l0_2 l1_2).bind fun t304 => (if t304 = true then ((spec_EqualPolicies.f k a0_3 l0_4 a1_3 l1_4).bind fun t305 => (some t305)) else (some false))) else (some false)) else (some false)
open Go.Proofs.YtineejdlpcgnkaaM in
set_option maxHeartbeats 8000000 in
set_option maxRecDepth 100000 in
theorem spec_EqualEpochs.calls (k : Nat) (a0_0 : Int) (a0_1 : Int) (A0_2 : Option Addr) (c0_2 : Nat) (l0_2 : List (S149)) (a0_3 : Int) (A0_4 : Option Addr) (c0_4 : Nat) (l0_4 : List (S174)) (a1_0 : Int) (a1_1 : Int) (A1_2 : Option Addr) (c1_2 : Nat) (l1_2 : List (S149)) (a1_3 : Int) (A1_4 : Option Addr) (c1_4 : Nat) (l1_4 : List (S174)) (r : Bool) (w : World) (hr0_2 : Kd.C k149 w A0_2 l0_2.length l0_2) (hc0_2 : l0_2.length ≤ c0_2) (hr0_4 : Kd.C k174 w A0_4 l0_4.length l0_4) (hc0_4 : l0_4.length ≤ c0_4) (hr1_2 : Kd.C k149 w A1_2 l1_2.length l1_2) (hc1_2 : l1_2.length ≤ c1_2) (hr1_4 : Kd.C k174 w A1_4 l1_4.length l1_4) (hc1_4 : l1_4.length ≤ c1_4) (h : spec_EqualEpochs.f k a0_0 a0_1 l0_2 a0_3 l0_4 a1_0 a1_1 l1_2 a1_3 l1_4 = some r) :
    Calls Try.prog 62 #[.agg #[.int .i64 a0_0, .int .i64 a0_1, .slice A0_2 l0_2.length c0_2, .int .i64 a0_3, .slice A0_4 l0_4.length c0_4], .agg #[.int .i64 a1_0, .int .i64 a1_1, .slice A1_2 l1_2.length c1_2, .int .i64 a1_3, .slice A1_4 l1_4.length c1_4]] w fun e w' => e = .returned (.bool r) ∧ Below w.heap.size w w' := by
  have HR0_2 := Aside0.mk hr0_2
  have HC0_2 := Aside0.mk hc0_2
  clear hr0_2 hc0_2
  have HR0_4 := Aside0.mk hr0_4
  have HC0_4 := Aside0.mk hc0_4
  clear hr0_4 hc0_4
  have HR1_2 := Aside0.mk hr1_2
  have HC1_2 := Aside0.mk hc1_2
  clear hr1_2 hc1_2
  have HR1_4 := Aside0.mk hr1_4
  have HC1_4 := Aside0.mk hc1_4
  clear hr1_4 hc1_4
  have HB := Aside0.mk (Below.refl w.heap.size w)
  have H := h
  clear h
  unfold spec_EqualEpochs.f at H
  have hu38 := Try.underlying38
  have hu40 := Try.underlying40
  go_enter Try.func62, Try.ntmps62
  replace H := Aside0.mk H
  go_upto_region 1 with (first | ((with_reducible refine gate_dst (N := 2) rfl ?_); refine box_event ?hg (N := 2) ?hd (cs := #[.int .i64 a0_0, .int .i64 a0_1, .slice A0_2 l0_2.length c0_2, .int .i64 a0_3, .slice A0_4 l0_4.length c0_4]) (t := 40) ?hr ?_; (case hd => rfl); (case hg => rfl); (case hr => first | (go_simp; done) | (go_simp; rfl)); intro gb1 hg W1 hbox hb; replace HB := bH HB hb; clear hb; have BK1 := Aside0.mk hbox; have c_BK1 := blk_cell hbox; have z_BK1 := blk_frozen hbox; clear hg hbox) | ((with_reducible refine gate_dst (N := 3) rfl ?_); refine box_event ?hg (N := 3) ?hd (cs := #[.int .i64 a1_0, .int .i64 a1_1, .slice A1_2 l1_2.length c1_2, .int .i64 a1_3, .slice A1_4 l1_4.length c1_4]) (t := 40) ?hr ?_; (case hd => rfl); (case hg => rfl); (case hr => first | (go_simp; done) | (go_simp; rfl)); intro gb2 hg W2 hbox hb; replace BK1 := bK BK1 hb; replace c_BK1 := blk_cell BK1.out; replace z_BK1 := blk_frozen BK1.out; replace HB := bH HB hb; clear hb; have BK2 := Aside0.mk hbox; have c_BK2 := blk_cell hbox; have z_BK2 := blk_frozen hbox; clear hg hbox))
  replace H := H.out
  by_cases c3 : a0_0 = a1_0
  · rw [if_pos c3] at H
    have c3_0 := decT c3; have c3_1 := eqT c3; have c3_2 := neT c3
    clear c3
    by_cases c4 : a0_1 = a1_1
    · rw [if_pos c4] at H
      have c4_0 := decT c4; have c4_1 := eqT c4; have c4_2 := neT c4
      clear c4
      obtain ⟨t304, hm, H⟩ := Option.bind_eq_some_iff.mp H
      try dsimp only at H
      replace H := Aside0.mk H
      have hcall := spec_l24Pairs.calls k _ _ _ _ _ _ _ W2 (Kd.C_below HR0_2.out HB.out) HC0_2.out (Kd.C_below HR1_2.out HB.out) HC1_2.out hm
      clear hm
      go_wp2_with fail
      refine hcall.mono ?_
      rintro e W5 ⟨rfl, hb⟩
      clear hcall
      replace BK1 := bK BK1 hb; replace c_BK1 := blk_cell BK1.out; replace z_BK1 := blk_frozen BK1.out
      replace BK2 := bK BK2 hb; replace c_BK2 := blk_cell BK2.out; replace z_BK2 := blk_frozen BK2.out
      replace HB := bH HB hb; clear hb
      replace H := H.out
      by_cases c6 : t304 = true
      · rw [if_pos c6] at H
        subst c6
        obtain ⟨t305, hm, H⟩ := Option.bind_eq_some_iff.mp H
        try dsimp only at H
        replace H := Aside0.mk H
        have hcall := spec_EqualPolicies.calls k _ _ _ _ _ _ _ _ _ W5 (Kd.C_below HR0_4.out HB.out) HC0_4.out (Kd.C_below HR1_4.out HB.out) HC1_4.out hm
        clear hm
        go_wp2_with fail
        refine hcall.mono ?_
        rintro e W7 ⟨rfl, hb⟩
        clear hcall
        replace BK1 := bK BK1 hb; replace c_BK1 := blk_cell BK1.out; replace z_BK1 := blk_frozen BK1.out
        replace BK2 := bK BK2 hb; replace c_BK2 := blk_cell BK2.out; replace z_BK2 := blk_frozen BK2.out
        replace HB := bH HB hb; clear hb
        replace H := H.out
        obtain rfl := Option.some.inj H
        clear H
        go_wp2
        go_ret
        exact ⟨rfl, HB.out⟩
      · rw [if_neg c6] at H
        replace c6 := (Bool.not_eq_true _).mp c6
        subst c6
        obtain rfl := Option.some.inj H
        clear H
        go_wp2
        go_ret
        exact ⟨rfl, HB.out⟩
    · rw [if_neg c4] at H
      have c4_0 := decF c4; have c4_1 := eqF c4; have c4_2 := neF c4
      clear c4
      obtain rfl := Option.some.inj H
      clear H
      go_wp2
      go_ret
      exact ⟨rfl, HB.out⟩
  · rw [if_neg c3] at H
    have c3_0 := decF c3; have c3_1 := eqF c3; have c3_2 := neF c3
    clear c3
    obtain rfl := Option.some.inj H
    clear H
    go_wp2
    go_ret
    exact ⟨rfl, HB.out⟩

/-! ### spec_EqualStores: function 63 -/
def spec_EqualStores.l0 : Nat → List (S132) → List (S132) → Int → Option (Bool)
  | 0, _, _, _ => none
  | k + 1, x0, x1, x5 => if x5 < (x0.length : Int) then (if 0 ≤ x5 then (if x5 < (x1.length : Int) then (if (!(((rd_T132 x0 x5).f0) == ((rd_T132 x1 x5).f0)) || (!(((rd_T132 x0 x5).f1) == ((rd_T132 x1 x5).f1)) || (!(((rd_T132 x0 x5).f2) == ((rd_T132 x1 x5).f2)) || (!(((rd_T132 x0 x5).f3) == ((rd_T132 x1 x5).f3)) || (!(((rd_T132 x0 x5).f4) == ((rd_T132 x1 x5).f4)) || (!(((rd_T132 x0 x5).f5) == ((rd_T132 x1 x5).f5)))))))) = true then (some false) else (spec_EqualStores.l0 k x0 x1 (wrap64 (x5 + 1)))) else (none)) else (none)) else (some true)
def spec_EqualStores.f (k : Nat) (l0 : List (S132)) (l1 : List (S132)) : Option (Bool) := if (l0.length : Int) = (l1.length : Int) then (spec_EqualStores.l0 k l0 l1 0) else (some false)
open Go.Proofs.YtineejdlpcgnkaaM in
set_option maxHeartbeats 8000000 in
set_option maxRecDepth 100000 in
theorem spec_EqualStores.calls (k : Nat) (A0 : Option Addr) (c0 : Nat) (l0 : List (S132)) (A1 : Option Addr) (c1 : Nat) (l1 : List (S132)) (r : Bool) (w : World) (hr0 : Kd.C k132 w A0 l0.length l0) (hc0 : l0.length ≤ c0) (hr1 : Kd.C k132 w A1 l1.length l1) (hc1 : l1.length ≤ c1) (h : spec_EqualStores.f k l0 l1 = some r) :
    Calls Try.prog 63 #[.slice A0 l0.length c0, .slice A1 l1.length c1] w fun e w' => e = .returned (.bool r) ∧ Below w.heap.size w w' := by
  have HR0 := Aside0.mk hr0
  have HC0 := Aside0.mk hc0
  clear hr0 hc0
  have HR1 := Aside0.mk hr1
  have HC1 := Aside0.mk hc1
  clear hr1 hc1
  have HB := Aside0.mk (Below.refl w.heap.size w)
  have H := h
  clear h
  unfold spec_EqualStores.f at H
  have hu132 := Try.underlying132
  go_enter Try.func63, Try.ntmps63
  by_cases c1 : (l0.length : Int) = (l1.length : Int)
  · rw [if_pos c1] at H
    have c1_0 := decT c1; have c1_1 := eqT c1; have c1_2 := neT c1
    clear c1
    replace H := Aside0.mk H
    go_wp2
    go_loopg [5] k (fun kq v5 w' => ∃ (x5_2 : Int), v5 = .int .i64 x5_2 ∧ Aside0 (spec_EqualStores.l0 kq l0 l1 x5_2 = some r) ∧ Aside0 (kq ≤ k) ∧ Aside0 (Below w.heap.size w w'))
    case atStart => exact ⟨(0), (by first | rfl | (simp; done) | (simp [*]; done)), H, ⟨Nat.le_refl _⟩, HB⟩
    case round =>
      clear H HB 
      try clear c1_0 c1_1 c1_2
      obtain ⟨x5_2, rfl, HA, Hk2, HB⟩ := hrel
      cases gk with
      | zero => exact absurd HA.out (by simp [spec_EqualStores.l0])
      | succ k2 =>
        have H := HA.out
        clear HA
        simp only [spec_EqualStores.l0] at H
        by_cases c3 : x5_2 < (l0.length : Int)
        · rw [if_pos c3] at H
          have c3_0 := decT c3
          replace c3 := Aside0.mk c3
          by_cases c4 : 0 ≤ x5_2
          · rw [if_pos c4] at H
            have c4_0 := decT c4
            replace c4 := Aside0.mk c4
            have p306 : 0 ≤ (x5_2 : Int) := (of_decide_eq_true (by assumption))
            have q306 : x5_2 < (l0.length : Int) := (of_decide_eq_true (by assumption))
            obtain ⟨ad306, e306, hx306_0, hx306_1, hx306_2, hx306_3, hx306_4, hx306_5⟩ := at_T132 HR0.out x5_2 p306 q306
            cases e306
            replace hx306_0 := Aside0.mk hx306_0
            have y306_0 := xC HB hx306_0
            replace hx306_1 := Aside0.mk hx306_1
            have y306_1 := xC HB hx306_1
            replace hx306_2 := Aside0.mk hx306_2
            have y306_2 := xC HB hx306_2
            replace hx306_3 := Aside0.mk hx306_3
            have y306_3 := xC HB hx306_3
            replace hx306_4 := Aside0.mk hx306_4
            have y306_4 := xC HB hx306_4
            replace hx306_5 := Aside0.mk hx306_5
            have y306_5 := xC HB hx306_5
            have r306 := eq_true p306; have s306 := eq_true q306
            replace p306 := Aside0.mk p306; replace q306 := Aside0.mk q306
            by_cases c5 : x5_2 < (l1.length : Int)
            · rw [if_pos c5] at H
              have c5_0 := decT c5
              replace c5 := Aside0.mk c5
              have p307 : 0 ≤ (x5_2 : Int) := (of_decide_eq_true (by assumption))
              have q307 : x5_2 < (l1.length : Int) := (of_decide_eq_true (by assumption))
              obtain ⟨ad307, e307, hx307_0, hx307_1, hx307_2, hx307_3, hx307_4, hx307_5⟩ := at_T132 HR1.out x5_2 p307 q307
              cases e307
              replace hx307_0 := Aside0.mk hx307_0
              have y307_0 := xC HB hx307_0
              replace hx307_1 := Aside0.mk hx307_1
              have y307_1 := xC HB hx307_1
              replace hx307_2 := Aside0.mk hx307_2
              have y307_2 := xC HB hx307_2
              replace hx307_3 := Aside0.mk hx307_3
              have y307_3 := xC HB hx307_3
              replace hx307_4 := Aside0.mk hx307_4
              have y307_4 := xC HB hx307_4
              replace hx307_5 := Aside0.mk hx307_5
              have y307_5 := xC HB hx307_5
              have r307 := eq_true p307; have s307 := eq_true q307
              replace p307 := Aside0.mk p307; replace q307 := Aside0.mk q307
              replace H := Aside0.mk H
              try go_wp2
              go_quiet (fail)
              try clear y306_0 y306_1 y306_2 y306_3 y306_4 y306_5 r306 s306 y307_0 y307_1 y307_2 y307_3
              try clear y307_4 y307_5 r307 s307
              replace HB := qH HB nq
              generalize wr.drewN nq = W6 at HB ⊢
              clear nq
              replace H := H.out
              by_cases c7 : (!(((rd_T132 l0 x5_2).f0) == ((rd_T132 l1 x5_2).f0)) || (!(((rd_T132 l0 x5_2).f1) == ((rd_T132 l1 x5_2).f1)) || (!(((rd_T132 l0 x5_2).f2) == ((rd_T132 l1 x5_2).f2)) || (!(((rd_T132 l0 x5_2).f3) == ((rd_T132 l1 x5_2).f3)) || (!(((rd_T132 l0 x5_2).f4) == ((rd_T132 l1 x5_2).f4)) || (!(((rd_T132 l0 x5_2).f5) == ((rd_T132 l1 x5_2).f5)))))))) = true
              · rw [if_pos c7] at H
                try rw [c7]
                obtain rfl := Option.some.inj H
                clear H
                go_wp2
                go_ret
                exact ⟨rfl, HB.out⟩
              · rw [if_neg c7] at H
                replace c7 := (Bool.not_eq_true _).mp c7
                try rw [c7]
                replace H := Aside0.mk H
                go_wp2
                go_roundg k2
                case measure => have := Hk2.out; omega
                case rel => exact ⟨(wrap64 (x5_2 + 1)), (by first | rfl | (simp; done) | (simp [*]; done)), H, ⟨by have := Hk2.out; omega⟩, HB⟩
            · rw [if_neg c5] at H
              cases H
          · rw [if_neg c4] at H
            cases H
        · rw [if_neg c3] at H
          have c3_0 := decF c3
          replace c3 := Aside0.mk c3
          obtain rfl := Option.some.inj H
          clear H
          go_wp2
          go_ret
          exact ⟨rfl, HB.out⟩
  · rw [if_neg c1] at H
    have c1_0 := decF c1; have c1_1 := eqF c1; have c1_2 := neF c1
    clear c1
    obtain rfl := Option.some.inj H
    clear H
    go_wp2
    go_ret
    exact ⟨rfl, HB.out⟩

/-! ### spec_l27Revoked: function 64 -/
def spec_l27Revoked.l0 : Nat → List (S99) → List (S99) → Int → Option (Bool)
  | 0, _, _, _ => none
  | k + 1, x0, x1, x5 => if x5 < (x0.length : Int) then (if 0 ≤ x5 then (if x5 < (x1.length : Int) then (if (!(((rd_T99 x0 x5).f0) == ((rd_T99 x1 x5).f0)) || (!(((rd_T99 x0 x5).f1) == ((rd_T99 x1 x5).f1)))) = true then (some false) else (spec_l27Revoked.l0 k x0 x1 (wrap64 (x5 + 1)))) else (none)) else (none)) else (some true)
def spec_l27Revoked.f (k : Nat) (l0 : List (S99)) (l1 : List (S99)) : Option (Bool) := if (l0.length : Int) = (l1.length : Int) then (spec_l27Revoked.l0 k l0 l1 0) else (some false)
open Go.Proofs.YtineejdlpcgnkaaM in
set_option maxHeartbeats 8000000 in
set_option maxRecDepth 100000 in
theorem spec_l27Revoked.calls (k : Nat) (A0 : Option Addr) (c0 : Nat) (l0 : List (S99)) (A1 : Option Addr) (c1 : Nat) (l1 : List (S99)) (r : Bool) (w : World) (hr0 : Kd.C k99 w A0 l0.length l0) (hc0 : l0.length ≤ c0) (hr1 : Kd.C k99 w A1 l1.length l1) (hc1 : l1.length ≤ c1) (h : spec_l27Revoked.f k l0 l1 = some r) :
    Calls Try.prog 64 #[.slice A0 l0.length c0, .slice A1 l1.length c1] w fun e w' => e = .returned (.bool r) ∧ Below w.heap.size w w' := by
  have HR0 := Aside0.mk hr0
  have HC0 := Aside0.mk hc0
  clear hr0 hc0
  have HR1 := Aside0.mk hr1
  have HC1 := Aside0.mk hc1
  clear hr1 hc1
  have HB := Aside0.mk (Below.refl w.heap.size w)
  have H := h
  clear h
  unfold spec_l27Revoked.f at H
  have hu99 := Try.underlying99
  go_enter Try.func64, Try.ntmps64
  by_cases c1 : (l0.length : Int) = (l1.length : Int)
  · rw [if_pos c1] at H
    have c1_0 := decT c1; have c1_1 := eqT c1; have c1_2 := neT c1
    clear c1
    replace H := Aside0.mk H
    go_wp2
    go_loopg [5] k (fun kq v5 w' => ∃ (x5_2 : Int), v5 = .int .i64 x5_2 ∧ Aside0 (spec_l27Revoked.l0 kq l0 l1 x5_2 = some r) ∧ Aside0 (kq ≤ k) ∧ Aside0 (Below w.heap.size w w'))
    case atStart => exact ⟨(0), (by first | rfl | (simp; done) | (simp [*]; done)), H, ⟨Nat.le_refl _⟩, HB⟩
    case round =>
      clear H HB 
      try clear c1_0 c1_1 c1_2
      obtain ⟨x5_2, rfl, HA, Hk2, HB⟩ := hrel
      cases gk with
      | zero => exact absurd HA.out (by simp [spec_l27Revoked.l0])
      | succ k2 =>
        have H := HA.out
        clear HA
        simp only [spec_l27Revoked.l0] at H
        by_cases c3 : x5_2 < (l0.length : Int)
        · rw [if_pos c3] at H
          have c3_0 := decT c3
          replace c3 := Aside0.mk c3
          by_cases c4 : 0 ≤ x5_2
          · rw [if_pos c4] at H
            have c4_0 := decT c4
            replace c4 := Aside0.mk c4
            have p308 : 0 ≤ (x5_2 : Int) := (of_decide_eq_true (by assumption))
            have q308 : x5_2 < (l0.length : Int) := (of_decide_eq_true (by assumption))
            obtain ⟨ad308, e308, hx308_0, hx308_1⟩ := at_T99 HR0.out x5_2 p308 q308
            cases e308
            replace hx308_0 := Aside0.mk hx308_0
            have y308_0 := xC HB hx308_0
            replace hx308_1 := Aside0.mk hx308_1
            have y308_1 := xC HB hx308_1
            have r308 := eq_true p308; have s308 := eq_true q308
            replace p308 := Aside0.mk p308; replace q308 := Aside0.mk q308
            by_cases c5 : x5_2 < (l1.length : Int)
            · rw [if_pos c5] at H
              have c5_0 := decT c5
              replace c5 := Aside0.mk c5
              have p309 : 0 ≤ (x5_2 : Int) := (of_decide_eq_true (by assumption))
              have q309 : x5_2 < (l1.length : Int) := (of_decide_eq_true (by assumption))
              obtain ⟨ad309, e309, hx309_0, hx309_1⟩ := at_T99 HR1.out x5_2 p309 q309
              cases e309
              replace hx309_0 := Aside0.mk hx309_0
              have y309_0 := xC HB hx309_0
              replace hx309_1 := Aside0.mk hx309_1
              have y309_1 := xC HB hx309_1
              have r309 := eq_true p309; have s309 := eq_true q309
              replace p309 := Aside0.mk p309; replace q309 := Aside0.mk q309
              replace H := Aside0.mk H
              try go_wp2
              go_quiet (fail)
              try clear y308_0 y308_1 r308 s308 y309_0 y309_1 r309 s309
              replace HB := qH HB nq
              generalize wr.drewN nq = W6 at HB ⊢
              clear nq
              replace H := H.out
              by_cases c7 : (!(((rd_T99 l0 x5_2).f0) == ((rd_T99 l1 x5_2).f0)) || (!(((rd_T99 l0 x5_2).f1) == ((rd_T99 l1 x5_2).f1)))) = true
              · rw [if_pos c7] at H
                try rw [c7]
                obtain rfl := Option.some.inj H
                clear H
                go_wp2
                go_ret
                exact ⟨rfl, HB.out⟩
              · rw [if_neg c7] at H
                replace c7 := (Bool.not_eq_true _).mp c7
                try rw [c7]
                replace H := Aside0.mk H
                go_wp2
                go_roundg k2
                case measure => have := Hk2.out; omega
                case rel => exact ⟨(wrap64 (x5_2 + 1)), (by first | rfl | (simp; done) | (simp [*]; done)), H, ⟨by have := Hk2.out; omega⟩, HB⟩
            · rw [if_neg c5] at H
              cases H
          · rw [if_neg c4] at H
            cases H
        · rw [if_neg c3] at H
          have c3_0 := decF c3
          replace c3 := Aside0.mk c3
          obtain rfl := Option.some.inj H
          clear H
          go_wp2
          go_ret
          exact ⟨rfl, HB.out⟩
  · rw [if_neg c1] at H
    have c1_0 := decF c1; have c1_1 := eqF c1; have c1_2 := neF c1
    clear c1
    obtain rfl := Option.some.inj H
    clear H
    go_wp2
    go_ret
    exact ⟨rfl, HB.out⟩

/-! ### spec_l27Saved: function 65 -/
def spec_l27Saved.l0 : Nat → List (S103) → List (S103) → Int → Option (Bool)
  | 0, _, _, _ => none
  | k + 1, x0, x1, x5 => if x5 < (x0.length : Int) then (if 0 ≤ x5 then (if x5 < (x1.length : Int) then (if ((!(((rd_T103 x0 x5).f0.f0) == ((rd_T103 x1 x5).f0.f0)) || (!(((rd_T103 x0 x5).f0.f1) == ((rd_T103 x1 x5).f0.f1)) || (!(((rd_T103 x0 x5).f0.f2) == ((rd_T103 x1 x5).f0.f2)) || (!(((rd_T103 x0 x5).f0.f3) == ((rd_T103 x1 x5).f0.f3)) || (!(((rd_T103 x0 x5).f0.f4) == ((rd_T103 x1 x5).f0.f4)) || (!(((rd_T103 x0 x5).f0.f5) == ((rd_T103 x1 x5).f0.f5)))))))) || (!(((rd_T103 x0 x5).f1) == ((rd_T103 x1 x5).f1)) || (!(((rd_T103 x0 x5).f2) == ((rd_T103 x1 x5).f2))))) = true then (some false) else (spec_l27Saved.l0 k x0 x1 (wrap64 (x5 + 1)))) else (none)) else (none)) else (some true)
def spec_l27Saved.f (k : Nat) (l0 : List (S103)) (l1 : List (S103)) : Option (Bool) := if (l0.length : Int) = (l1.length : Int) then (spec_l27Saved.l0 k l0 l1 0) else (some false)
open Go.Proofs.YtineejdlpcgnkaaM in
set_option maxHeartbeats 8000000 in
set_option maxRecDepth 100000 in
theorem spec_l27Saved.calls (k : Nat) (A0 : Option Addr) (c0 : Nat) (l0 : List (S103)) (A1 : Option Addr) (c1 : Nat) (l1 : List (S103)) (r : Bool) (w : World) (hr0 : Kd.C k103 w A0 l0.length l0) (hc0 : l0.length ≤ c0) (hr1 : Kd.C k103 w A1 l1.length l1) (hc1 : l1.length ≤ c1) (h : spec_l27Saved.f k l0 l1 = some r) :
    Calls Try.prog 65 #[.slice A0 l0.length c0, .slice A1 l1.length c1] w fun e w' => e = .returned (.bool r) ∧ Below w.heap.size w w' := by
  have HR0 := Aside0.mk hr0
  have HC0 := Aside0.mk hc0
  clear hr0 hc0
  have HR1 := Aside0.mk hr1
  have HC1 := Aside0.mk hc1
  clear hr1 hc1
  have HB := Aside0.mk (Below.refl w.heap.size w)
  have H := h
  clear h
  unfold spec_l27Saved.f at H
  have hu103 := Try.underlying103
  go_enter Try.func65, Try.ntmps65
  by_cases c1 : (l0.length : Int) = (l1.length : Int)
  · rw [if_pos c1] at H
    have c1_0 := decT c1; have c1_1 := eqT c1; have c1_2 := neT c1
    clear c1
    replace H := Aside0.mk H
    go_wp2
    go_loopg [5] k (fun kq v5 w' => ∃ (x5_2 : Int), v5 = .int .i64 x5_2 ∧ Aside0 (spec_l27Saved.l0 kq l0 l1 x5_2 = some r) ∧ Aside0 (kq ≤ k) ∧ Aside0 (Below w.heap.size w w'))
    case atStart => exact ⟨(0), (by first | rfl | (simp; done) | (simp [*]; done)), H, ⟨Nat.le_refl _⟩, HB⟩
    case round =>
      clear H HB 
      try clear c1_0 c1_1 c1_2
      obtain ⟨x5_2, rfl, HA, Hk2, HB⟩ := hrel
      cases gk with
      | zero => exact absurd HA.out (by simp [spec_l27Saved.l0])
      | succ k2 =>
        have H := HA.out
        clear HA
        simp only [spec_l27Saved.l0] at H
        by_cases c3 : x5_2 < (l0.length : Int)
        · rw [if_pos c3] at H
          have c3_0 := decT c3
          replace c3 := Aside0.mk c3
          by_cases c4 : 0 ≤ x5_2
          · rw [if_pos c4] at H
            have c4_0 := decT c4
            replace c4 := Aside0.mk c4
            have p310 : 0 ≤ (x5_2 : Int) := (of_decide_eq_true (by assumption))
            have q310 : x5_2 < (l0.length : Int) := (of_decide_eq_true (by assumption))
            obtain ⟨ad310, e310, hx310_0, hx310_1, hx310_2, hx310_3, hx310_4, hx310_5, hx310_6, hx310_7⟩ := at_T103 HR0.out x5_2 p310 q310
            cases e310
            replace hx310_0 := Aside0.mk hx310_0
            have y310_0 := xC HB hx310_0
            replace hx310_1 := Aside0.mk hx310_1
            have y310_1 := xC HB hx310_1
            replace hx310_2 := Aside0.mk hx310_2
            have y310_2 := xC HB hx310_2
            replace hx310_3 := Aside0.mk hx310_3
            have y310_3 := xC HB hx310_3
            replace hx310_4 := Aside0.mk hx310_4
            have y310_4 := xC HB hx310_4
            replace hx310_5 := Aside0.mk hx310_5
            have y310_5 := xC HB hx310_5
            replace hx310_6 := Aside0.mk hx310_6
            have y310_6 := xC HB hx310_6
            replace hx310_7 := Aside0.mk hx310_7
            have y310_7 := xC HB hx310_7
            have r310 := eq_true p310; have s310 := eq_true q310
            replace p310 := Aside0.mk p310; replace q310 := Aside0.mk q310
            by_cases c5 : x5_2 < (l1.length : Int)
            · rw [if_pos c5] at H
              have c5_0 := decT c5
              replace c5 := Aside0.mk c5
              have p311 : 0 ≤ (x5_2 : Int) := (of_decide_eq_true (by assumption))
              have q311 : x5_2 < (l1.length : Int) := (of_decide_eq_true (by assumption))
              obtain ⟨ad311, e311, hx311_0, hx311_1, hx311_2, hx311_3, hx311_4, hx311_5, hx311_6, hx311_7⟩ := at_T103 HR1.out x5_2 p311 q311
              cases e311
              replace hx311_0 := Aside0.mk hx311_0
              have y311_0 := xC HB hx311_0
              replace hx311_1 := Aside0.mk hx311_1
              have y311_1 := xC HB hx311_1
              replace hx311_2 := Aside0.mk hx311_2
              have y311_2 := xC HB hx311_2
              replace hx311_3 := Aside0.mk hx311_3
              have y311_3 := xC HB hx311_3
              replace hx311_4 := Aside0.mk hx311_4
              have y311_4 := xC HB hx311_4
              replace hx311_5 := Aside0.mk hx311_5
              have y311_5 := xC HB hx311_5
              replace hx311_6 := Aside0.mk hx311_6
              have y311_6 := xC HB hx311_6
              replace hx311_7 := Aside0.mk hx311_7
              have y311_7 := xC HB hx311_7
              have r311 := eq_true p311; have s311 := eq_true q311
              replace p311 := Aside0.mk p311; replace q311 := Aside0.mk q311
              replace H := Aside0.mk H
              try go_wp2
              go_quiet (fail)
              try clear y310_0 y310_1 y310_2 y310_3 y310_4 y310_5 y310_6 y310_7 r310 s310 y311_0 y311_1
              try clear y311_2 y311_3 y311_4 y311_5 y311_6 y311_7 r311 s311
              replace HB := qH HB nq
              generalize wr.drewN nq = W6 at HB ⊢
              clear nq
              replace H := H.out
              by_cases c7 : ((!(((rd_T103 l0 x5_2).f0.f0) == ((rd_T103 l1 x5_2).f0.f0)) || (!(((rd_T103 l0 x5_2).f0.f1) == ((rd_T103 l1 x5_2).f0.f1)) || (!(((rd_T103 l0 x5_2).f0.f2) == ((rd_T103 l1 x5_2).f0.f2)) || (!(((rd_T103 l0 x5_2).f0.f3) == ((rd_T103 l1 x5_2).f0.f3)) || (!(((rd_T103 l0 x5_2).f0.f4) == ((rd_T103 l1 x5_2).f0.f4)) || (!(((rd_T103 l0 x5_2).f0.f5) == ((rd_T103 l1 x5_2).f0.f5)))))))) || (!(((rd_T103 l0 x5_2).f1) == ((rd_T103 l1 x5_2).f1)) || (!(((rd_T103 l0 x5_2).f2) == ((rd_T103 l1 x5_2).f2))))) = true
              · rw [if_pos c7] at H
                try rw [c7]
                obtain rfl := Option.some.inj H
                clear H
                go_wp2
                go_ret
                exact ⟨rfl, HB.out⟩
              · rw [if_neg c7] at H
                replace c7 := (Bool.not_eq_true _).mp c7
                try rw [c7]
                replace H := Aside0.mk H
                go_wp2
                go_roundg k2
                case measure => have := Hk2.out; omega
                case rel => exact ⟨(wrap64 (x5_2 + 1)), (by first | rfl | (simp; done) | (simp [*]; done)), H, ⟨by have := Hk2.out; omega⟩, HB⟩
            · rw [if_neg c5] at H
              cases H
          · rw [if_neg c4] at H
            cases H
        · rw [if_neg c3] at H
          have c3_0 := decF c3
          replace c3 := Aside0.mk c3
          obtain rfl := Option.some.inj H
          clear H
          go_wp2
          go_ret
          exact ⟨rfl, HB.out⟩
  · rw [if_neg c1] at H
    have c1_0 := decF c1; have c1_1 := eqF c1; have c1_2 := neF c1
    clear c1
    obtain rfl := Option.some.inj H
    clear H
    go_wp2
    go_ret
    exact ⟨rfl, HB.out⟩

end Go.Proofs.Ytineejdlpcgnkaa.QFnExactEqualPoints
