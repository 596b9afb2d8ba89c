/- The machine side of FnExactSaveDecision: what each function that it reaches computes, and that the machine's call gives just that. -/
import Derived.Test.YtmgfklmhelabcaaGreatQFnExactSaveDecisionx0
import Derived.Test.YtmgfklmhelabcaaGreatQFnExactSaveDecisionx10
namespace Go.Proofs.YtmgfklmhelabcaaGreat.QFnExactSaveDecision
open Go.RowKit Go.Proofs.YtmgfklmhelabcaaGreatW.PrintWords Go.Proofs.YtmgfklmhelabcaaGreatW.PrintLast Go.Proofs.YtmgfklmhelabcaaGreatW.PrintMore
attribute [local go_sem] max2_int min2_int max_two min_two max_three min_three max_four min_four
set_option maxHeartbeats 8000000
set_option maxRecDepth 100000
open Go.Proofs.YtmgfklmhelabcaaGreatM
set_option linter.unusedVariables false
set_option linter.unusedSimpArgs false
mutual
def impl_SizeOf.l0 : Nat → Int → List (S172) → Int → Int → Option (Int)
 | 0, _, _, _, _ => none
 | k + 1, x3, x7, x8, x9 => if x9 < x8 then (if 0 ≤ x9 then (if x9 < (x7.length : Int) then ((impl_SizeOf.f k ((rd_T172 x7 x9).f0) ((rd_T172 x7 x9).f1) ((rd_T172 x7 x9).f2) ((rd_T172 x7 x9).f3)).bind fun t487 => (impl_SizeOf.l0 k (wrap64 (x3 + t487)) x7 x8 (wrap64 (x9 + 1)))) else (none)) else (none)) else (some x3)
def impl_SizeOf.f : Nat → Int → Int → Int → List (S172) → Option (Int)
 | 0, _, _, _, _ => none
 | k + 1, a0_0, a0_1, a0_2, l0_3 => impl_SizeOf.l0 k 1 l0_3 (l0_3.length : Int) 0
end
theorem impl_SizeOf.calls (k : Nat) : ∀ (a0_0 : Int) (a0_1 : Int) (a0_2 : Int) (A0_3 : Option Addr) (c0_3 : Nat) (l0_3 : List (S172)) (r : Int) (w : World) (hr0_3 : Kd.C k172 w A0_3 l0_3.length l0_3) (hc0_3 : l0_3.length ≤ c0_3) (h : impl_SizeOf.f k a0_0 a0_1 a0_2 l0_3 = some r),
  Calls Tryz.prog 324 #[.agg #[.int .i64 a0_0, .int .i64 a0_1, .int .i64 a0_2, .slice A0_3 l0_3.length c0_3]] w fun e w' => e = .returned (.int .i64 r) ∧ Below w.heap.size w w' := by
 induction k using Nat.strongRecOn with
 | _ k ih =>
 intro a0_0 a0_1 a0_2 A0_3 c0_3 l0_3 r w hr0_3 hc0_3 h
 cases k with
 | zero => exact absurd h (by simp [impl_SizeOf.f])
 | succ k =>
 simp only [impl_SizeOf.f] at h
 have HR0_3 := Aside0.mk hr0_3
 have HC0_3 := Aside0.mk hc0_3
 clear hr0_3 hc0_3
 have HB := Aside0.mk (Below.refl w.heap.size w)
 have H := h
 clear h
 have hu172 := Tryz.underlying172
 go_enter Tryz.func324, Tryz.ntmps324
 replace H := Aside0.mk H
 go_upto_region 1 with (first | ((with_reducible refine gate_dst (N := 1) rfl ?_); refine box_event ?hg (N := 1) ?hd (cs := #[.int .i64 a0_0, .int .i64 a0_1, .int .i64 a0_2, .slice A0_3 l0_3.length c0_3]) (t := 172) ?hr ?_; (case hd => rfl); (case hg => rfl); (case hr => first | (go_simp; done) | (go_simp; rfl)); intro gb1 hg W1 hbox hb; replace HB := bH HB hb; clear hb; have BK1 := Aside0.mk hbox; have c_BK1 := blk_cell hbox; have z_BK1 := blk_frozen hbox; clear hg hbox))
 go_wp2
 go_loopg [3, 9] k (fun kq v3 v9 w' => ∃ (x3_2 : Int) (x9_2 : Int), v3 = .int .i64 x3_2 ∧ v9 = .int .i64 x9_2 ∧ Aside0 (impl_SizeOf.l0 kq x3_2 l0_3 (l0_3.length : Int) x9_2 = some r) ∧ Aside0 (kq ≤ k) ∧ Aside0 (w'.heap[gb1]? = some (.cells #[.int .i64 a0_0, .int .i64 a0_1, .int .i64 a0_2, .slice A0_3 l0_3.length c0_3] 172 (0, 0))) ∧ Aside0 (Below w.heap.size w w'))
 case atStart => exact ⟨(1), (0), zT, zT, H, ⟨Nat.le_refl _⟩, BK1, HB⟩
 case round =>
  clear H HB BK1 c_BK1 z_BK1
  obtain ⟨x3_2, x9_2, rfl, rfl, HA, Hk2, BK1, HB⟩ := hrel
  have c_BK1 := bcl BK1; have z_BK1 := bfr BK1
  cases gk with
  | zero => exact absurd HA.out (by simp [impl_SizeOf.l0])
  | succ k2 =>
   have H := HA.out; clear HA; simp only [impl_SizeOf.l0] at H; replace H := ifD H; rcases H with ⟨c3, H⟩ | ⟨c3, H⟩; rotate_left
   ·have c3_0 := decF c3; replace c3 := Aside0.mk c3; (try rw [c3_0]); cases H; go_wp2; go_ret; exact ⟨rfl, HB.out⟩
   have c3_0 := decT c3; replace c3 := Aside0.mk c3; (try rw [c3_0]); replace H := ifN H; obtain ⟨c4, H⟩ := H; have c4_0 := decT c4; replace c4 := Aside0.mk c4; (try rw [c4_0]); replace H := ifN H; obtain ⟨c5, H⟩ := H; have c5_0 := decT c5; replace c5 := Aside0.mk c5; (try rw [c5_0]); have p485 : 0 ≤ (x9_2 : Int) := (of_decide_eq_true (by assumption)); have q485 : x9_2 < (l0_3.length : Int) := (of_decide_eq_true (by assumption)); obtain ⟨ad485, A485_3, c485_3, e485, hx485_0, hx485_1, hx485_2, hx485_3, hl485_3, hi485_3⟩ := at_T172 HR0_3.out x9_2 p485 q485; cases e485; have HR485_3 := Aside0.mk hi485_3; have HC485_3 := Aside0.mk hl485_3; clear hi485_3 hl485_3; replace hx485_0 := Aside0.mk hx485_0; have y485_0 := xC HB hx485_0; replace hx485_1 := Aside0.mk hx485_1; have y485_1 := xC HB hx485_1; replace hx485_2 := Aside0.mk hx485_2; have y485_2 := xC HB hx485_2; replace hx485_3 := Aside0.mk hx485_3; have y485_3 := xC HB hx485_3; have r485 := eq_true p485; have s485 := eq_true q485; replace p485 := Aside0.mk p485; replace q485 := Aside0.mk q485; replace H := Aside0.mk H; go_upto_region 5 with (first | ((with_reducible refine gate_dst (N := 5) rfl ?_); refine box_event ?hg (N := 5) ?hd (cs := #[.int .i64 0, .int .i64 0, .int .i64 0, .slice none 0 0]) (t := 172) ?hr ?_; (case hd => rfl); (case hg => rfl); (case hr => first | (go_simp; done) | (go_simp; rfl)); intro gb6 hg W6 hbox hb; have G6 := Aside0.mk hg; have b0_ := Aside0.mk hb; have BK6 := Aside0.mk hbox; have c_BK6 := blk_cell hbox; have z_BK6 := blk_frozen hbox; clear hg hb hbox) | ((with_reducible refine gate_store (t := 172) (p := 5) rfl ?_); refine store_event (t := 172) (p := 5) (v := ?vo_s7) (w1 := ((((W6.setCell ⟨gb6, 0, none⟩ (.int .i64 ((rd_T172 l0_3 x9_2).f0))).setCell ⟨gb6, 1, none⟩ (.int .i64 ((rd_T172 l0_3 x9_2).f1))).setCell ⟨gb6, 2, none⟩ (.int .i64 ((rd_T172 l0_3 x9_2).f2))).setCell ⟨gb6, 3, none⟩ (.slice A485_3 ((rd_T172 l0_3 x9_2).f3).length c485_3))) ?hg ?ho ?hn ?hr ?_; (case ho => rfl); (case hg => rfl); (case hn => rfl); (case hr => first | (go_simp; done) | (go_simp; rfl)); intro W7 hw; have hb : Below wr.heap.size wr W7 := (by rw [hw]; exact bSet (bSet (bSet (bSet (b0_.out) (Nat.le_of_eq G6.out.symm)) (Nat.le_of_eq G6.out.symm)) (Nat.le_of_eq G6.out.symm)) (Nat.le_of_eq G6.out.symm)); clear b0_; have h_ := blk_set (blk_set (blk_set (blk_set (BK6.out) 0 (.int .i64 ((rd_T172 l0_3 x9_2).f0))) 1 (.int .i64 ((rd_T172 l0_3 x9_2).f1))) 2 (.int .i64 ((rd_T172 l0_3 x9_2).f2))) 3 (.slice A485_3 ((rd_T172 l0_3 x9_2).f3).length c485_3); rw [← hw] at h_; simp only [List.setIfInBounds_toArray, List.set_cons_zero, List.set_cons_succ] at h_; clear BK6 c_BK6 z_BK6 hw; replace BK1 := bK BK1 hb; replace c_BK1 := bcl BK1; replace z_BK1 := bfr BK1; replace HB := bH HB hb; clear hb; have BK6 := Aside0.mk h_; have c_BK6 := blk_cell h_; have z_BK6 := blk_frozen h_; clear h_ G6))
   (try clear y485_0 y485_1 y485_2 y485_3); replace H := H.out; replace H := obs H; obtain ⟨t487, hm, H⟩ := H; (try dsimp only at H); replace H := Aside0.mk H; have hcall := ih k2 (by have := Hk2.out; omega) _ _ _ _ _ _ _ W7 (Kd.C_below HR485_3.out HB.out) HC485_3.out hm; clear hm; (go_wp2_with fail)
   refine hcall.mono ?_; rintro e W8 ⟨rfl, hb⟩; clear hcall; replace BK1 := bK BK1 hb; replace c_BK1 := bcl BK1; replace z_BK1 := bfr BK1; replace BK6 := bK BK6 hb; replace c_BK6 := bcl BK6; replace z_BK6 := bfr BK6; replace HB := bH HB hb; clear hb; go_wp2; go_roundg k2
   case measure => have := Hk2.out; omega
   case rel => exact ⟨(wrap64 (x3_2 + t487)), (wrap64 (x9_2 + 1)), zT, zT, H, ⟨by have := Hk2.out; omega⟩, BK1, HB⟩
def impl_ArityOf.f (a0 : Int) : Option (Int) := if a0 = 7 then (some 1) else (if a0 = 8 then (some 2) else (if a0 = 9 then (some 2) else ((impl_InRange.f a0 1 6).bind fun t488 => (if t488 = true then (some 0) else (some (-1))))))
theorem impl_ArityOf.calls (a0 : Int) (r : Int) (w : World) (h : impl_ArityOf.f a0 = some r) :
  Calls Tryz.prog 388 #[.int .i64 a0] w fun e w' => e = .returned (.int .i64 r) ∧ Below w.heap.size w w' := by
 have HB := Aside0.mk (Below.refl w.heap.size w)
 have H := h
 clear h
 unfold impl_ArityOf.f at H
 go_enter Tryz.func388, Tryz.ntmps388
 replace H := ifD H; rcases H with ⟨c1, H⟩ | ⟨c1, H⟩
 ·obtain ⟨c1_0, c1_1, c1_2⟩ := d3T c1
  clear c1
  (first | rw [c1_1] | rw [c1_2] | skip)
  cases H
  go_wp2
  go_ret
  exact ⟨rfl, HB.out⟩
 obtain ⟨c1_0, c1_1, c1_2⟩ := d3F c1
 clear c1
 (first | rw [c1_1] | rw [c1_2] | skip)
 replace H := ifD H; rcases H with ⟨c2, H⟩ | ⟨c2, H⟩
 ·obtain ⟨c2_0, c2_1, c2_2⟩ := d3T c2
  clear c2
  (first | rw [c2_1] | rw [c2_2] | skip)
  cases H
  go_wp2
  go_ret
  exact ⟨rfl, HB.out⟩
 obtain ⟨c2_0, c2_1, c2_2⟩ := d3F c2
 clear c2
 (first | rw [c2_1] | rw [c2_2] | skip)
 replace H := ifD H; rcases H with ⟨c3, H⟩ | ⟨c3, H⟩
 ·obtain ⟨c3_0, c3_1, c3_2⟩ := d3T c3
  clear c3
  (first | rw [c3_1] | rw [c3_2] | skip)
  cases H
  go_wp2
  go_ret
  exact ⟨rfl, HB.out⟩
 obtain ⟨c3_0, c3_1, c3_2⟩ := d3F c3
 clear c3
 (first | rw [c3_1] | rw [c3_2] | skip)
 replace H := obs H
 obtain ⟨t488, hm, H⟩ := H
 (try dsimp only at H)
 replace H := Aside0.mk H
 have hcall := impl_InRange.calls _ _ _ _ w  hm
 clear hm
 (go_wp2_with fail)
 refine hcall.mono ?_
 rintro e W4 ⟨rfl, hb⟩
 clear hcall
 replace HB := bH HB hb; clear hb
 replace H := ifD H.out; rcases H with ⟨c5, H⟩ | ⟨c5, H⟩
 ·subst c5
  cases H
  go_wp2
  go_ret
  exact ⟨rfl, HB.out⟩
 replace c5 := nT c5
 subst c5
 cases H
 go_wp2
 go_ret
 exact ⟨rfl, HB.out⟩
end Go.Proofs.YtmgfklmhelabcaaGreat.QFnExactSaveDecision
