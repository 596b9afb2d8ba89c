/- The machine side of FnExactMayActFor: what each function that it reaches computes, and that the machine's call gives just that. -/
import Derived.Test.YtplfbjbbnjlnkaaQFnExactMayActForx0
import Derived.Test.YtplfbjbbnjlnkaaQFnExactMayActForx2
namespace Go.Proofs.Ytplfbjbbnjlnkaa.QFnExactMayActFor
open Go.RowKit Go.Proofs.YtplfbjbbnjlnkaaW.PrintWords Go.Proofs.YtplfbjbbnjlnkaaW.PrintLast Go.Proofs.YtplfbjbbnjlnkaaW.PrintMore
attribute [local go_sem] max2_int min2_int max_two min_two max_three min_three max_four min_four   -- for this text's walks alone
set_option linter.unusedVariables false
set_option linter.unusedSimpArgs false

/-! ### spec_AreGrants: function 95 -/
mutual
def spec_AreGrants.l0 : Nat → List (S51) → Int → Option (Bool)
  | 0, _, _ => none
  | k + 1, x0, x3 => if x3 < (x0.length : Int) then (if 0 ≤ x3 then (if ((rd_T51 x0 x3).f0) = (wrap64 (x3 + 1)) then ((spec_HasKind.f ((rd_T51 x0 x3).f1) 1).bind fun t141 => (if t141 = true then ((spec_HasKind.f ((rd_T51 x0 x3).f2) 1).bind fun t142 => (if t142 = true then (if ((rd_T51 x0 x3).f1) = ((rd_T51 x0 x3).f2) then (spec_AreGrants.j1 k x0 x3 true ((rd_T51 x0 x3).f0) ((rd_T51 x0 x3).f1) ((rd_T51 x0 x3).f2) ((rd_T51 x0 x3).f3) ((rd_T51 x0 x3).f4) ((rd_T51 x0 x3).f5) ((rd_T51 x0 x3).f6)) else ((spec_IsTime.f ((rd_T51 x0 x3).f4)).bind fun t143 => (if t143 = true then ((spec_l1In.f ((rd_T51 x0 x3).f5) 0 x3).bind fun t144 => (spec_AreGrants.j1 k x0 x3 (!t144) ((rd_T51 x0 x3).f0) ((rd_T51 x0 x3).f1) ((rd_T51 x0 x3).f2) ((rd_T51 x0 x3).f3) ((rd_T51 x0 x3).f4) ((rd_T51 x0 x3).f5) ((rd_T51 x0 x3).f6))) else (spec_AreGrants.j1 k x0 x3 true ((rd_T51 x0 x3).f0) ((rd_T51 x0 x3).f1) ((rd_T51 x0 x3).f2) ((rd_T51 x0 x3).f3) ((rd_T51 x0 x3).f4) ((rd_T51 x0 x3).f5) ((rd_T51 x0 x3).f6))))) else (spec_AreGrants.j1 k x0 x3 true ((rd_T51 x0 x3).f0) ((rd_T51 x0 x3).f1) ((rd_T51 x0 x3).f2) ((rd_T51 x0 x3).f3) ((rd_T51 x0 x3).f4) ((rd_T51 x0 x3).f5) ((rd_T51 x0 x3).f6)))) else (spec_AreGrants.j1 k x0 x3 true ((rd_T51 x0 x3).f0) ((rd_T51 x0 x3).f1) ((rd_T51 x0 x3).f2) ((rd_T51 x0 x3).f3) ((rd_T51 x0 x3).f4) ((rd_T51 x0 x3).f5) ((rd_T51 x0 x3).f6)))) else (spec_AreGrants.j1 k x0 x3 true ((rd_T51 x0 x3).f0) ((rd_T51 x0 x3).f1) ((rd_T51 x0 x3).f2) ((rd_T51 x0 x3).f3) ((rd_T51 x0 x3).f4) ((rd_T51 x0 x3).f5) ((rd_T51 x0 x3).f6))) else (none)) else (some (decide ((x0.length : Int) ≤ 12)))
def spec_AreGrants.j1 : Nat → List (S51) → Int → Bool → Int → Int → Int → List Int → Int → Int → Bool → Option (Bool)
  | 0, _, _, _, _, _, _, _, _, _, _ => none
  | k + 1, x0, x3, x52, x141000, x141001, x141002, x141003, x141004, x141005, x141006 => if x52 = true then (some false) else (spec_AreGrants.l1 k x0 x3 0 x141000 x141001 x141002 x141003 x141004 x141005 x141006)
def spec_AreGrants.l1 : Nat → List (S51) → Int → Int → Int → Int → Int → List Int → Int → Int → Bool → Option (Bool)
  | 0, _, _, _, _, _, _, _, _, _, _ => none
  | k + 1, x0, x3, x5, x141000, x141001, x141002, x141003, x141004, x141005, x141006 => if x5 < (x141003.length : Int) then (if 0 ≤ x5 then ((spec_l1In.f (rd x141003 x5) 0 5).bind fun t146 => (if t146 = true then (if x5 > 0 then (if 0 ≤ (wrap64 (x5 - 1)) then (if (wrap64 (x5 - 1)) < (x141003.length : Int) then (if (rd x141003 (wrap64 (x5 - 1))) ≥ (rd x141003 x5) then (some false) else (spec_AreGrants.l1 k x0 x3 (wrap64 (x5 + 1)) x141000 x141001 x141002 x141003 x141004 x141005 x141006)) else (none)) else (none)) else (spec_AreGrants.l1 k x0 x3 (wrap64 (x5 + 1)) x141000 x141001 x141002 x141003 x141004 x141005 x141006)) else (some false))) else (none)) else (spec_AreGrants.l0 k x0 (wrap64 (x3 + 1)))
end
def spec_AreGrants.f (k : Nat) (l0 : List (S51)) : Option (Bool) := spec_AreGrants.l0 k l0 0
theorem spec_AreGrants.mono_l : ∀ k, (∀ y0 y1, LeO (spec_AreGrants.l0 k y0 y1) (spec_AreGrants.l0 (k + 1) y0 y1)) ∧ (∀ y0 y1 y2 y3 y4 y5 y6 y7 y8 y9, LeO (spec_AreGrants.j1 k y0 y1 y2 y3 y4 y5 y6 y7 y8 y9) (spec_AreGrants.j1 (k + 1) y0 y1 y2 y3 y4 y5 y6 y7 y8 y9)) ∧ (∀ y0 y1 y2 y3 y4 y5 y6 y7 y8 y9, LeO (spec_AreGrants.l1 k y0 y1 y2 y3 y4 y5 y6 y7 y8 y9) (spec_AreGrants.l1 (k + 1) y0 y1 y2 y3 y4 y5 y6 y7 y8 y9))
  | 0 => ⟨fun _ _ r h => by simp [spec_AreGrants.l0] at h, fun _ _ _ _ _ _ _ _ _ _ r h => by simp [spec_AreGrants.j1] at h, fun _ _ _ _ _ _ _ _ _ _ r h => by simp [spec_AreGrants.l1] at h⟩
  | k + 1 => by
    obtain ⟨ih0, ih1, ih2⟩ := spec_AreGrants.mono_l k
    refine ⟨?_, ?_, ?_⟩
    · intro y0 y1
      unfold spec_AreGrants.l0
      repeat' first
      | (with_reducible exact ih0 _ _)
      | (with_reducible exact ih1 _ _ _ _ _ _ _ _ _ _)
      | (with_reducible exact ih2 _ _ _ _ _ _ _ _ _ _)
      | (with_reducible exact LeO.refl _)
      | (with_reducible exact LeO.none _)
      | (with_reducible refine LeO.ite ?_ ?_)
      | (with_reducible refine LeO.bind ?_ (fun _ => ?_))
      | exact ih0 _ _
      | exact ih1 _ _ _ _ _ _ _ _ _ _
      | exact ih2 _ _ _ _ _ _ _ _ _ _
      | exact LeO.none _
      | refine LeO.ite ?_ ?_
      | refine LeO.bind ?_ (fun _ => ?_)
    · intro y0 y1 y2 y3 y4 y5 y6 y7 y8 y9
      unfold spec_AreGrants.j1
      repeat' first
      | (with_reducible exact ih0 _ _)
      | (with_reducible exact ih1 _ _ _ _ _ _ _ _ _ _)
      | (with_reducible exact ih2 _ _ _ _ _ _ _ _ _ _)
      | (with_reducible exact LeO.refl _)
      | (with_reducible exact LeO.none _)
      | (with_reducible refine LeO.ite ?_ ?_)
      | (with_reducible refine LeO.bind ?_ (fun _ => ?_))
      | exact ih0 _ _
      | exact ih1 _ _ _ _ _ _ _ _ _ _
      | exact ih2 _ _ _ _ _ _ _ _ _ _
      | exact LeO.none _
      | refine LeO.ite ?_ ?_
      | refine LeO.bind ?_ (fun _ => ?_)
    · intro y0 y1 y2 y3 y4 y5 y6 y7 y8 y9
      unfold spec_AreGrants.l1
      repeat' first
      | (with_reducible exact ih0 _ _)
      | (with_reducible exact ih1 _ _ _ _ _ _ _ _ _ _)
      | (with_reducible exact ih2 _ _ _ _ _ _ _ _ _ _)
      | (with_reducible exact LeO.refl _)
      | (with_reducible exact LeO.none _)
      | (with_reducible refine LeO.ite ?_ ?_)
      | (with_reducible refine LeO.bind ?_ (fun _ => ?_))
      | exact ih0 _ _
      | exact ih1 _ _ _ _ _ _ _ _ _ _
      | exact ih2 _ _ _ _ _ _ _ _ _ _
      | exact LeO.none _
      | refine LeO.ite ?_ ?_
      | refine LeO.bind ?_ (fun _ => ?_)
theorem spec_AreGrants.mono : ∀ a0 k, LeO (spec_AreGrants.f k a0) (spec_AreGrants.f (k + 1) a0) := by
  intro a0 k
  obtain ⟨ih0, ih1, ih2⟩ := spec_AreGrants.mono_l k
  unfold spec_AreGrants.f
  repeat' first
      | (with_reducible exact ih0 _ _)
      | (with_reducible exact ih1 _ _ _ _ _ _ _ _ _ _)
      | (with_reducible exact ih2 _ _ _ _ _ _ _ _ _ _)
      | (with_reducible exact LeO.refl _)
      | (with_reducible exact LeO.none _)
      | (with_reducible refine LeO.ite ?_ ?_)
      | (with_reducible refine LeO.bind ?_ (fun _ => ?_))
      | exact ih0 _ _
      | exact ih1 _ _ _ _ _ _ _ _ _ _
      | exact ih2 _ _ _ _ _ _ _ _ _ _
      | exact LeO.none _
      | refine LeO.ite ?_ ?_
      | refine LeO.bind ?_ (fun _ => ?_)
set_option maxHeartbeats 8000000 in
set_option maxRecDepth 100000 in
theorem spec_AreGrants.calls (k : Nat) (A0 : Option Addr) (c0 : Nat) (l0 : List (S51)) (r : Bool) (w : World) (hr0 : Kd.C k51 w A0 l0.length l0) (hc0 : l0.length ≤ c0) (h : spec_AreGrants.f k l0 = some r) :
    Calls Try.prog 95 #[.slice A0 l0.length c0] w fun e w' => e = .returned (.bool r) ∧ Below w.heap.size w w' := by
  have hu51 := Try.underlying51
  have HR0 := Aside0.mk hr0
  have HC0 := Aside0.mk hc0
  clear hr0 hc0
  have HB := Aside0.mk (Below.refl w.heap.size w)
  have H : (spec_AreGrants.l0 k l0 0) = some r := h
  clear h
  have H' := Aside0.mk H
  clear H
  go_enter Try.func95, Try.ntmps95
  go_wp2
  repeat (go_quiet (fail); try go_wp2)
  go_loopg [3] k (fun kq v3 w' => ∃ (x3_1 : Int), v3 = .int .i64 x3_1 ∧ Aside0 (spec_AreGrants.l0 kq l0 x3_1 = some r) ∧ Aside0 (kq ≤ k) ∧ Aside0 (Below w.heap.size w w'))
  case atStart => exact ⟨(0), (by first | rfl | (simp; done) | (simp [*]; done)), H', ⟨Nat.le_refl _⟩, ⟨by repeat (first | (with_reducible first | exact HB.out | apply below_alloc | apply pw_below_drewN | apply below_drew1) | exact HB.out)⟩⟩
  case round =>
    clear H'
    obtain ⟨x3_1, rfl, HA, HK1, HB⟩ := hrel
    cases gk with
    | zero => exact absurd HA.out (by simp [spec_AreGrants.l0])
    | succ k1 =>
      have H := HA.out
      clear HA
      simp only [spec_AreGrants.l0] at H
      by_cases c2 : x3_1 < (l0.length : Int)
      · rw [if_pos c2] at H
        have c2b0 : decide (x3_1 < (l0.length : Int)) = true := decide_eq_true c2
        clear c2
        by_cases c3 : 0 ≤ x3_1
        · rw [if_pos c3] at H
          have c3b0 : decide (0 ≤ x3_1) = true := decide_eq_true c3
          clear c3
          have HC4 := Aside0.mk H
          clear H
          have p139 : 0 ≤ (x3_1 : Int) := of_decide_eq_true (by first | (with_reducible assumption) | assumption)
          have q139 : x3_1 < (l0.length : Int) := of_decide_eq_true (by first | (with_reducible assumption) | assumption)
          obtain ⟨ad139, A139_3, c139_3, e139, hx139_0, hx139_1, hx139_2, hx139_3, hx139_4, hx139_5, hx139_6, hl139_3, hi139_3⟩ := at_T51 HR0.out x3_1 p139 q139
          cases e139
          replace hx139_0 := (HB.out.cell (World.block_lt_of_cell? w _ hx139_0)).trans hx139_0
          replace hx139_1 := (HB.out.cell (World.block_lt_of_cell? w _ hx139_1)).trans hx139_1
          replace hx139_2 := (HB.out.cell (World.block_lt_of_cell? w _ hx139_2)).trans hx139_2
          replace hx139_3 := (HB.out.cell (World.block_lt_of_cell? w _ hx139_3)).trans hx139_3
          replace hx139_4 := (HB.out.cell (World.block_lt_of_cell? w _ hx139_4)).trans hx139_4
          replace hx139_5 := (HB.out.cell (World.block_lt_of_cell? w _ hx139_5)).trans hx139_5
          replace hx139_6 := (HB.out.cell (World.block_lt_of_cell? w _ hx139_6)).trans hx139_6
          have HR139_3 := Aside0.mk hi139_3
          have HC139_3 := Aside0.mk hl139_3
          clear hi139_3 hl139_3
          replace p139 := eq_true p139
          replace q139 := eq_true q139
          go_upto_region 5 with (first | ((with_reducible refine gate_dst (N := 4) rfl ?_); refine box_event ?hg (N := 4) ?hd (cs := #[.int .i64 0, .int .i64 0, .int .i64 0, .slice none 0 0, .int .i64 0, .int .i64 0, .bool false]) (t := 51) ?hr ?_; (case hd => rfl); (case hg => rfl); (case hr => first | (go_simp; done) | (go_simp; rfl)); intro gb140 hg w5 hbox hb; have n0_ := Aside0.mk (below_step (by repeat (first | (with_reducible first | exact HB.out | apply below_alloc | apply pw_below_drewN | apply below_drew1) | exact HB.out)) hb); have n1_ := Aside0.mk (hbox); have n2_ := Aside0.mk ((by rw [hg]; exact (below_size (by repeat (first | (with_reducible first | exact HB.out | apply below_alloc | apply pw_below_drewN | apply below_drew1) | exact HB.out))) : w.heap.size ≤ gb140)); have n3_ := Aside0.mk ((by rw [hg]; exact (below_size (by repeat (first | (with_reducible first | exact HB.out | apply below_alloc | apply pw_below_drewN | apply below_drew1) | exact HB.out))) : w.heap.size ≤ gb140)); clear HB; have HB := n0_; have BK140 := n1_; have GW140 := n2_; have GE140 := n3_; clear n0_ n1_ n2_ n3_; clear hb hbox hg; have hcz6_0 : w5.cell? ⟨gb140, 0, none⟩ = some (.int .i64 0) := (blk_cell BK140.out 0).trans rfl; have hcz6_1 : w5.cell? ⟨gb140, 1, none⟩ = some (.int .i64 0) := (blk_cell BK140.out 1).trans rfl; have hcz6_2 : w5.cell? ⟨gb140, 2, none⟩ = some (.int .i64 0) := (blk_cell BK140.out 2).trans rfl; have hcz6_3 : w5.cell? ⟨gb140, 3, none⟩ = some (.slice none 0 0) := (blk_cell BK140.out 3).trans rfl; have hcz6_4 : w5.cell? ⟨gb140, 4, none⟩ = some (.int .i64 0) := (blk_cell BK140.out 4).trans rfl; have hcz6_5 : w5.cell? ⟨gb140, 5, none⟩ = some (.int .i64 0) := (blk_cell BK140.out 5).trans rfl; have hcz6_6 : w5.cell? ⟨gb140, 6, none⟩ = some (.bool false) := (blk_cell BK140.out 6).trans rfl; have hfz6_0 := blk_frozen BK140.out 0; have hfz6_1 := blk_frozen BK140.out 1; have hfz6_2 := blk_frozen BK140.out 2; have hfz6_3 := blk_frozen BK140.out 3; have hfz6_4 := blk_frozen BK140.out 4; have hfz6_5 := blk_frozen BK140.out 5; have hfz6_6 := blk_frozen BK140.out 6))
          repeat (go_quiet (first | ((with_reducible refine gate_dst (N := 4) rfl ?_); refine box_event ?hg (N := 4) ?hd (cs := #[.int .i64 0, .int .i64 0, .int .i64 0, .slice none 0 0, .int .i64 0, .int .i64 0, .bool false]) (t := 51) ?hr ?_; (case hd => rfl); (case hg => rfl); (case hr => first | (go_simp; done) | (go_simp; rfl)); intro gb140 hg w5 hbox hb; have n0_ := Aside0.mk (below_step (by repeat (first | (with_reducible first | exact HB.out | apply below_alloc | apply pw_below_drewN | apply below_drew1) | exact HB.out)) hb); have n1_ := Aside0.mk (hbox); have n2_ := Aside0.mk ((by rw [hg]; exact (below_size (by repeat (first | (with_reducible first | exact HB.out | apply below_alloc | apply pw_below_drewN | apply below_drew1) | exact HB.out))) : w.heap.size ≤ gb140)); have n3_ := Aside0.mk ((by rw [hg]; exact (below_size (by repeat (first | (with_reducible first | exact HB.out | apply below_alloc | apply pw_below_drewN | apply below_drew1) | exact HB.out))) : w.heap.size ≤ gb140)); clear HB; have HB := n0_; have BK140 := n1_; have GW140 := n2_; have GE140 := n3_; clear n0_ n1_ n2_ n3_; clear hb hbox hg; have hcz6_0 : w5.cell? ⟨gb140, 0, none⟩ = some (.int .i64 0) := (blk_cell BK140.out 0).trans rfl; have hcz6_1 : w5.cell? ⟨gb140, 1, none⟩ = some (.int .i64 0) := (blk_cell BK140.out 1).trans rfl; have hcz6_2 : w5.cell? ⟨gb140, 2, none⟩ = some (.int .i64 0) := (blk_cell BK140.out 2).trans rfl; have hcz6_3 : w5.cell? ⟨gb140, 3, none⟩ = some (.slice none 0 0) := (blk_cell BK140.out 3).trans rfl; have hcz6_4 : w5.cell? ⟨gb140, 4, none⟩ = some (.int .i64 0) := (blk_cell BK140.out 4).trans rfl; have hcz6_5 : w5.cell? ⟨gb140, 5, none⟩ = some (.int .i64 0) := (blk_cell BK140.out 5).trans rfl; have hcz6_6 : w5.cell? ⟨gb140, 6, none⟩ = some (.bool false) := (blk_cell BK140.out 6).trans rfl; have hfz6_0 := blk_frozen BK140.out 0; have hfz6_1 := blk_frozen BK140.out 1; have hfz6_2 := blk_frozen BK140.out 2; have hfz6_3 := blk_frozen BK140.out 3; have hfz6_4 := blk_frozen BK140.out 4; have hfz6_5 := blk_frozen BK140.out 5; have hfz6_6 := blk_frozen BK140.out 6)); go_upto_region 5 with (first | ((with_reducible refine gate_dst (N := 4) rfl ?_); refine box_event ?hg (N := 4) ?hd (cs := #[.int .i64 0, .int .i64 0, .int .i64 0, .slice none 0 0, .int .i64 0, .int .i64 0, .bool false]) (t := 51) ?hr ?_; (case hd => rfl); (case hg => rfl); (case hr => first | (go_simp; done) | (go_simp; rfl)); intro gb140 hg w5 hbox hb; have n0_ := Aside0.mk (below_step (by repeat (first | (with_reducible first | exact HB.out | apply below_alloc | apply pw_below_drewN | apply below_drew1) | exact HB.out)) hb); have n1_ := Aside0.mk (hbox); have n2_ := Aside0.mk ((by rw [hg]; exact (below_size (by repeat (first | (with_reducible first | exact HB.out | apply below_alloc | apply pw_below_drewN | apply below_drew1) | exact HB.out))) : w.heap.size ≤ gb140)); have n3_ := Aside0.mk ((by rw [hg]; exact (below_size (by repeat (first | (with_reducible first | exact HB.out | apply below_alloc | apply pw_below_drewN | apply below_drew1) | exact HB.out))) : w.heap.size ≤ gb140)); clear HB; have HB := n0_; have BK140 := n1_; have GW140 := n2_; have GE140 := n3_; clear n0_ n1_ n2_ n3_; clear hb hbox hg; have hcz6_0 : w5.cell? ⟨gb140, 0, none⟩ = some (.int .i64 0) := (blk_cell BK140.out 0).trans rfl; have hcz6_1 : w5.cell? ⟨gb140, 1, none⟩ = some (.int .i64 0) := (blk_cell BK140.out 1).trans rfl; have hcz6_2 : w5.cell? ⟨gb140, 2, none⟩ = some (.int .i64 0) := (blk_cell BK140.out 2).trans rfl; have hcz6_3 : w5.cell? ⟨gb140, 3, none⟩ = some (.slice none 0 0) := (blk_cell BK140.out 3).trans rfl; have hcz6_4 : w5.cell? ⟨gb140, 4, none⟩ = some (.int .i64 0) := (blk_cell BK140.out 4).trans rfl; have hcz6_5 : w5.cell? ⟨gb140, 5, none⟩ = some (.int .i64 0) := (blk_cell BK140.out 5).trans rfl; have hcz6_6 : w5.cell? ⟨gb140, 6, none⟩ = some (.bool false) := (blk_cell BK140.out 6).trans rfl; have hfz6_0 := blk_frozen BK140.out 0; have hfz6_1 := blk_frozen BK140.out 1; have hfz6_2 := blk_frozen BK140.out 2; have hfz6_3 := blk_frozen BK140.out 3; have hfz6_4 := blk_frozen BK140.out 4; have hfz6_5 := blk_frozen BK140.out 5; have hfz6_6 := blk_frozen BK140.out 6)))
          (try simp only [Act.put, List.setIfInBounds_toArray, List.set_cons_zero, List.set_cons_succ])
          go_cut [52] (fun v52 wc => ∃ (kq : Nat) (x52_3 : Bool), v52 = .bool x52_3 ∧ Aside0 (spec_AreGrants.j1 kq l0 x3_1 x52_3 ((rd_T51 l0 x3_1).f0) ((rd_T51 l0 x3_1).f1) ((rd_T51 l0 x3_1).f2) ((rd_T51 l0 x3_1).f3) ((rd_T51 l0 x3_1).f4) ((rd_T51 l0 x3_1).f5) ((rd_T51 l0 x3_1).f6) = some r) ∧ Aside0 (kq ≤ k1) ∧ Aside0 (wc.heap[gb140]? = some (.cells #[.int .i64 ((rd_T51 l0 x3_1).f0), .int .i64 ((rd_T51 l0 x3_1).f1), .int .i64 ((rd_T51 l0 x3_1).f2), (.slice A139_3 ((rd_T51 l0 x3_1).f3).length c139_3), .int .i64 ((rd_T51 l0 x3_1).f4), .int .i64 ((rd_T51 l0 x3_1).f5), .bool ((rd_T51 l0 x3_1).f6)] 51 (0, 0))) ∧ Aside0 (Below w.heap.size w wc))
          case first =>
            have H := HC4.out
            clear HC4
            by_cases c7 : ((rd_T51 l0 x3_1).f0) = (wrap64 (x3_1 + 1))
            · rw [if_pos c7] at H
              have c7b0 : (((rd_T51 l0 x3_1).f0) == (wrap64 (x3_1 + 1))) = true := beq_iff_eq.mpr c7
              have c7b1 : (((rd_T51 l0 x3_1).f0) != (wrap64 (x3_1 + 1))) = false := bne_eq_false_iff_eq.mpr c7
              clear c7
              (first | rw [c7b0] | (simp only [i64_w, i32_w]; rw [c7b0]) | skip)
              replace H := Option.bind_eq_some_iff.mp H
              obtain ⟨t141, A80, H⟩ := H
              replace H : (if t141 = true then ((spec_HasKind.f ((rd_T51 l0 x3_1).f2) 1).bind fun t142 => (if t142 = true then (if ((rd_T51 l0 x3_1).f1) = ((rd_T51 l0 x3_1).f2) then (spec_AreGrants.j1 k1 l0 x3_1 true ((rd_T51 l0 x3_1).f0) ((rd_T51 l0 x3_1).f1) ((rd_T51 l0 x3_1).f2) ((rd_T51 l0 x3_1).f3) ((rd_T51 l0 x3_1).f4) ((rd_T51 l0 x3_1).f5) ((rd_T51 l0 x3_1).f6)) else ((spec_IsTime.f ((rd_T51 l0 x3_1).f4)).bind fun t143 => (if t143 = true then ((spec_l1In.f ((rd_T51 l0 x3_1).f5) 0 x3_1).bind fun t144 => (spec_AreGrants.j1 k1 l0 x3_1 (!t144) ((rd_T51 l0 x3_1).f0) ((rd_T51 l0 x3_1).f1) ((rd_T51 l0 x3_1).f2) ((rd_T51 l0 x3_1).f3) ((rd_T51 l0 x3_1).f4) ((rd_T51 l0 x3_1).f5) ((rd_T51 l0 x3_1).f6))) else (spec_AreGrants.j1 k1 l0 x3_1 true ((rd_T51 l0 x3_1).f0) ((rd_T51 l0 x3_1).f1) ((rd_T51 l0 x3_1).f2) ((rd_T51 l0 x3_1).f3) ((rd_T51 l0 x3_1).f4) ((rd_T51 l0 x3_1).f5) ((rd_T51 l0 x3_1).f6))))) else (spec_AreGrants.j1 k1 l0 x3_1 true ((rd_T51 l0 x3_1).f0) ((rd_T51 l0 x3_1).f1) ((rd_T51 l0 x3_1).f2) ((rd_T51 l0 x3_1).f3) ((rd_T51 l0 x3_1).f4) ((rd_T51 l0 x3_1).f5) ((rd_T51 l0 x3_1).f6)))) else (spec_AreGrants.j1 k1 l0 x3_1 true ((rd_T51 l0 x3_1).f0) ((rd_T51 l0 x3_1).f1) ((rd_T51 l0 x3_1).f2) ((rd_T51 l0 x3_1).f3) ((rd_T51 l0 x3_1).f4) ((rd_T51 l0 x3_1).f5) ((rd_T51 l0 x3_1).f6))) = some r := H
              have A8 := Aside0.mk A80
              clear A80
              by_cases c9 : t141 = true
              · subst c9
                have H1 : ((spec_HasKind.f ((rd_T51 l0 x3_1).f2) 1).bind fun t142 => (if t142 = true then (if ((rd_T51 l0 x3_1).f1) = ((rd_T51 l0 x3_1).f2) then (spec_AreGrants.j1 k1 l0 x3_1 true ((rd_T51 l0 x3_1).f0) ((rd_T51 l0 x3_1).f1) ((rd_T51 l0 x3_1).f2) ((rd_T51 l0 x3_1).f3) ((rd_T51 l0 x3_1).f4) ((rd_T51 l0 x3_1).f5) ((rd_T51 l0 x3_1).f6)) else ((spec_IsTime.f ((rd_T51 l0 x3_1).f4)).bind fun t143 => (if t143 = true then ((spec_l1In.f ((rd_T51 l0 x3_1).f5) 0 x3_1).bind fun t144 => (spec_AreGrants.j1 k1 l0 x3_1 (!t144) ((rd_T51 l0 x3_1).f0) ((rd_T51 l0 x3_1).f1) ((rd_T51 l0 x3_1).f2) ((rd_T51 l0 x3_1).f3) ((rd_T51 l0 x3_1).f4) ((rd_T51 l0 x3_1).f5) ((rd_T51 l0 x3_1).f6))) else (spec_AreGrants.j1 k1 l0 x3_1 true ((rd_T51 l0 x3_1).f0) ((rd_T51 l0 x3_1).f1) ((rd_T51 l0 x3_1).f2) ((rd_T51 l0 x3_1).f3) ((rd_T51 l0 x3_1).f4) ((rd_T51 l0 x3_1).f5) ((rd_T51 l0 x3_1).f6))))) else (spec_AreGrants.j1 k1 l0 x3_1 true ((rd_T51 l0 x3_1).f0) ((rd_T51 l0 x3_1).f1) ((rd_T51 l0 x3_1).f2) ((rd_T51 l0 x3_1).f3) ((rd_T51 l0 x3_1).f4) ((rd_T51 l0 x3_1).f5) ((rd_T51 l0 x3_1).f6)))) = some r := by rw [if_pos rfl] at H; exact H
                clear H
                have H := H1
                clear H1
                replace H := Option.bind_eq_some_iff.mp H
                obtain ⟨t142, A100, H⟩ := H
                replace H : (if t142 = true then (if ((rd_T51 l0 x3_1).f1) = ((rd_T51 l0 x3_1).f2) then (spec_AreGrants.j1 k1 l0 x3_1 true ((rd_T51 l0 x3_1).f0) ((rd_T51 l0 x3_1).f1) ((rd_T51 l0 x3_1).f2) ((rd_T51 l0 x3_1).f3) ((rd_T51 l0 x3_1).f4) ((rd_T51 l0 x3_1).f5) ((rd_T51 l0 x3_1).f6)) else ((spec_IsTime.f ((rd_T51 l0 x3_1).f4)).bind fun t143 => (if t143 = true then ((spec_l1In.f ((rd_T51 l0 x3_1).f5) 0 x3_1).bind fun t144 => (spec_AreGrants.j1 k1 l0 x3_1 (!t144) ((rd_T51 l0 x3_1).f0) ((rd_T51 l0 x3_1).f1) ((rd_T51 l0 x3_1).f2) ((rd_T51 l0 x3_1).f3) ((rd_T51 l0 x3_1).f4) ((rd_T51 l0 x3_1).f5) ((rd_T51 l0 x3_1).f6))) else (spec_AreGrants.j1 k1 l0 x3_1 true ((rd_T51 l0 x3_1).f0) ((rd_T51 l0 x3_1).f1) ((rd_T51 l0 x3_1).f2) ((rd_T51 l0 x3_1).f3) ((rd_T51 l0 x3_1).f4) ((rd_T51 l0 x3_1).f5) ((rd_T51 l0 x3_1).f6))))) else (spec_AreGrants.j1 k1 l0 x3_1 true ((rd_T51 l0 x3_1).f0) ((rd_T51 l0 x3_1).f1) ((rd_T51 l0 x3_1).f2) ((rd_T51 l0 x3_1).f3) ((rd_T51 l0 x3_1).f4) ((rd_T51 l0 x3_1).f5) ((rd_T51 l0 x3_1).f6))) = some r := H
                have A10 := Aside0.mk A100
                clear A100
                by_cases c11 : t142 = true
                · subst c11
                  have H1 : (if ((rd_T51 l0 x3_1).f1) = ((rd_T51 l0 x3_1).f2) then (spec_AreGrants.j1 k1 l0 x3_1 true ((rd_T51 l0 x3_1).f0) ((rd_T51 l0 x3_1).f1) ((rd_T51 l0 x3_1).f2) ((rd_T51 l0 x3_1).f3) ((rd_T51 l0 x3_1).f4) ((rd_T51 l0 x3_1).f5) ((rd_T51 l0 x3_1).f6)) else ((spec_IsTime.f ((rd_T51 l0 x3_1).f4)).bind fun t143 => (if t143 = true then ((spec_l1In.f ((rd_T51 l0 x3_1).f5) 0 x3_1).bind fun t144 => (spec_AreGrants.j1 k1 l0 x3_1 (!t144) ((rd_T51 l0 x3_1).f0) ((rd_T51 l0 x3_1).f1) ((rd_T51 l0 x3_1).f2) ((rd_T51 l0 x3_1).f3) ((rd_T51 l0 x3_1).f4) ((rd_T51 l0 x3_1).f5) ((rd_T51 l0 x3_1).f6))) else (spec_AreGrants.j1 k1 l0 x3_1 true ((rd_T51 l0 x3_1).f0) ((rd_T51 l0 x3_1).f1) ((rd_T51 l0 x3_1).f2) ((rd_T51 l0 x3_1).f3) ((rd_T51 l0 x3_1).f4) ((rd_T51 l0 x3_1).f5) ((rd_T51 l0 x3_1).f6))))) = some r := by rw [if_pos rfl] at H; exact H
                  clear H
                  have H := H1
                  clear H1
                  by_cases c12 : ((rd_T51 l0 x3_1).f1) = ((rd_T51 l0 x3_1).f2)
                  · rw [if_pos c12] at H
                    have c12b0 : (((rd_T51 l0 x3_1).f1) == ((rd_T51 l0 x3_1).f2)) = true := beq_iff_eq.mpr c12
                    have c12b1 : (((rd_T51 l0 x3_1).f1) != ((rd_T51 l0 x3_1).f2)) = false := bne_eq_false_iff_eq.mpr c12
                    clear c12
                    have H' := Aside0.mk H
                    clear H
                    have hcz13_0 : w5.cell? ⟨gb140, 0, none⟩ = some (.int .i64 0) := (blk_cell BK140.out 0).trans rfl
                    have hcz13_1 : w5.cell? ⟨gb140, 1, none⟩ = some (.int .i64 0) := (blk_cell BK140.out 1).trans rfl
                    have hcz13_2 : w5.cell? ⟨gb140, 2, none⟩ = some (.int .i64 0) := (blk_cell BK140.out 2).trans rfl
                    have hcz13_3 : w5.cell? ⟨gb140, 3, none⟩ = some (.slice none 0 0) := (blk_cell BK140.out 3).trans rfl
                    have hcz13_4 : w5.cell? ⟨gb140, 4, none⟩ = some (.int .i64 0) := (blk_cell BK140.out 4).trans rfl
                    have hcz13_5 : w5.cell? ⟨gb140, 5, none⟩ = some (.int .i64 0) := (blk_cell BK140.out 5).trans rfl
                    have hcz13_6 : w5.cell? ⟨gb140, 6, none⟩ = some (.bool false) := (blk_cell BK140.out 6).trans rfl
                    have hfz13_0 := blk_frozen BK140.out 0
                    have hfz13_1 := blk_frozen BK140.out 1
                    have hfz13_2 := blk_frozen BK140.out 2
                    have hfz13_3 := blk_frozen BK140.out 3
                    have hfz13_4 := blk_frozen BK140.out 4
                    have hfz13_5 := blk_frozen BK140.out 5
                    have hfz13_6 := blk_frozen BK140.out 6
                    go_wp2_with (first | (go_at_call 154; (with_reducible refine (spec_HasKind.calls ((rd_T51 l0 x3_1).f1) 1 true _ A8.out).mono ?_); rintro e w' ⟨rfl, ⟨nd, rfl⟩⟩; (try first | exact ⟨rfl, _, World.drewN_drewN _ _ _⟩ | exact ⟨rfl, _, Eq.trans (World.drewN_drewN _ _ _) (congrArg (World.drewN _) (Nat.add_assoc _ _ _))⟩)) | (go_at_call 154; (with_reducible refine (spec_HasKind.calls ((rd_T51 l0 x3_1).f2) 1 true _ A10.out).mono ?_); rintro e w' ⟨rfl, ⟨nd, rfl⟩⟩; (try first | exact ⟨rfl, _, World.drewN_drewN _ _ _⟩ | exact ⟨rfl, _, Eq.trans (World.drewN_drewN _ _ _) (congrArg (World.drewN _) (Nat.add_assoc _ _ _))⟩)))
                    repeat (go_quiet (first | (go_at_call 154; (with_reducible refine (spec_HasKind.calls ((rd_T51 l0 x3_1).f1) 1 true _ A8.out).mono ?_); rintro e w' ⟨rfl, ⟨nd, rfl⟩⟩; (try first | exact ⟨rfl, _, World.drewN_drewN _ _ _⟩ | exact ⟨rfl, _, Eq.trans (World.drewN_drewN _ _ _) (congrArg (World.drewN _) (Nat.add_assoc _ _ _))⟩)) | (go_at_call 154; (with_reducible refine (spec_HasKind.calls ((rd_T51 l0 x3_1).f2) 1 true _ A10.out).mono ?_); rintro e w' ⟨rfl, ⟨nd, rfl⟩⟩; (try first | exact ⟨rfl, _, World.drewN_drewN _ _ _⟩ | exact ⟨rfl, _, Eq.trans (World.drewN_drewN _ _ _) (congrArg (World.drewN _) (Nat.add_assoc _ _ _))⟩))); try go_wp2_with (first | (go_at_call 154; (with_reducible refine (spec_HasKind.calls ((rd_T51 l0 x3_1).f1) 1 true _ A8.out).mono ?_); rintro e w' ⟨rfl, ⟨nd, rfl⟩⟩; (try first | exact ⟨rfl, _, World.drewN_drewN _ _ _⟩ | exact ⟨rfl, _, Eq.trans (World.drewN_drewN _ _ _) (congrArg (World.drewN _) (Nat.add_assoc _ _ _))⟩)) | (go_at_call 154; (with_reducible refine (spec_HasKind.calls ((rd_T51 l0 x3_1).f2) 1 true _ A10.out).mono ?_); rintro e w' ⟨rfl, ⟨nd, rfl⟩⟩; (try first | exact ⟨rfl, _, World.drewN_drewN _ _ _⟩ | exact ⟨rfl, _, Eq.trans (World.drewN_drewN _ _ _) (congrArg (World.drewN _) (Nat.add_assoc _ _ _))⟩))))
                    go_meet
                    case rel => exact ⟨_, (true), (by first | rfl | (simp; done) | (simp [*]; done)), H', ⟨by have := HK1.out; first | omega | exact Nat.le_refl _⟩, ⟨by (with_reducible repeat (first | refine blk_drewN ?_ _ | refine blk_drew ?_ | refine blk_alloc ?_ _)); refine blk_put (cs := #[.int .i64 ((rd_T51 l0 x3_1).f0), .int .i64 ((rd_T51 l0 x3_1).f1), .int .i64 ((rd_T51 l0 x3_1).f2), .slice A139_3 ((rd_T51 l0 x3_1).f3).length c139_3, .int .i64 ((rd_T51 l0 x3_1).f4), .int .i64 ((rd_T51 l0 x3_1).f5), .bool false]) ?_ 6 _ rfl; (with_reducible repeat (first | refine blk_drewN ?_ _ | refine blk_drew ?_ | refine blk_alloc ?_ _)); refine blk_put (cs := #[.int .i64 ((rd_T51 l0 x3_1).f0), .int .i64 ((rd_T51 l0 x3_1).f1), .int .i64 ((rd_T51 l0 x3_1).f2), .slice A139_3 ((rd_T51 l0 x3_1).f3).length c139_3, .int .i64 ((rd_T51 l0 x3_1).f4), .int .i64 0, .bool false]) ?_ 5 _ rfl; (with_reducible repeat (first | refine blk_drewN ?_ _ | refine blk_drew ?_ | refine blk_alloc ?_ _)); refine blk_put (cs := #[.int .i64 ((rd_T51 l0 x3_1).f0), .int .i64 ((rd_T51 l0 x3_1).f1), .int .i64 ((rd_T51 l0 x3_1).f2), .slice A139_3 ((rd_T51 l0 x3_1).f3).length c139_3, .int .i64 0, .int .i64 0, .bool false]) ?_ 4 _ rfl; (with_reducible repeat (first | refine blk_drewN ?_ _ | refine blk_drew ?_ | refine blk_alloc ?_ _)); refine blk_put (cs := #[.int .i64 ((rd_T51 l0 x3_1).f0), .int .i64 ((rd_T51 l0 x3_1).f1), .int .i64 ((rd_T51 l0 x3_1).f2), .slice none 0 0, .int .i64 0, .int .i64 0, .bool false]) ?_ 3 _ rfl; (with_reducible repeat (first | refine blk_drewN ?_ _ | refine blk_drew ?_ | refine blk_alloc ?_ _)); refine blk_put (cs := #[.int .i64 ((rd_T51 l0 x3_1).f0), .int .i64 ((rd_T51 l0 x3_1).f1), .int .i64 0, .slice none 0 0, .int .i64 0, .int .i64 0, .bool false]) ?_ 2 _ rfl; (with_reducible repeat (first | refine blk_drewN ?_ _ | refine blk_drew ?_ | refine blk_alloc ?_ _)); refine blk_put (cs := #[.int .i64 ((rd_T51 l0 x3_1).f0), .int .i64 0, .int .i64 0, .slice none 0 0, .int .i64 0, .int .i64 0, .bool false]) ?_ 1 _ rfl; (with_reducible repeat (first | refine blk_drewN ?_ _ | refine blk_drew ?_ | refine blk_alloc ?_ _)); refine blk_put (cs := #[.int .i64 0, .int .i64 0, .int .i64 0, .slice none 0 0, .int .i64 0, .int .i64 0, .bool false]) ?_ 0 _ rfl; (with_reducible repeat (first | refine blk_drewN ?_ _ | refine blk_drew ?_ | refine blk_alloc ?_ _)); exact BK140.out⟩, ⟨by repeat (first | (with_reducible first | exact HB.out | apply below_alloc | apply pw_below_drewN | apply below_drew1 | refine below_set ?_ GE140.out) | exact HB.out)⟩⟩
                  · rw [if_neg c12] at H
                    have c12b0 : (((rd_T51 l0 x3_1).f1) == ((rd_T51 l0 x3_1).f2)) = false := beq_eq_false_iff_ne.mpr c12
                    have c12b1 : (((rd_T51 l0 x3_1).f1) != ((rd_T51 l0 x3_1).f2)) = true := bne_iff_ne.mpr c12
                    replace H := Option.bind_eq_some_iff.mp H
                    obtain ⟨t143, A140, H⟩ := H
                    replace H : (if t143 = true then ((spec_l1In.f ((rd_T51 l0 x3_1).f5) 0 x3_1).bind fun t144 => (spec_AreGrants.j1 k1 l0 x3_1 (!t144) ((rd_T51 l0 x3_1).f0) ((rd_T51 l0 x3_1).f1) ((rd_T51 l0 x3_1).f2) ((rd_T51 l0 x3_1).f3) ((rd_T51 l0 x3_1).f4) ((rd_T51 l0 x3_1).f5) ((rd_T51 l0 x3_1).f6))) else (spec_AreGrants.j1 k1 l0 x3_1 true ((rd_T51 l0 x3_1).f0) ((rd_T51 l0 x3_1).f1) ((rd_T51 l0 x3_1).f2) ((rd_T51 l0 x3_1).f3) ((rd_T51 l0 x3_1).f4) ((rd_T51 l0 x3_1).f5) ((rd_T51 l0 x3_1).f6))) = some r := H
                    have A14 := Aside0.mk A140
                    clear A140
                    by_cases c15 : t143 = true
                    · subst c15
                      have H1 : ((spec_l1In.f ((rd_T51 l0 x3_1).f5) 0 x3_1).bind fun t144 => (spec_AreGrants.j1 k1 l0 x3_1 (!t144) ((rd_T51 l0 x3_1).f0) ((rd_T51 l0 x3_1).f1) ((rd_T51 l0 x3_1).f2) ((rd_T51 l0 x3_1).f3) ((rd_T51 l0 x3_1).f4) ((rd_T51 l0 x3_1).f5) ((rd_T51 l0 x3_1).f6))) = some r := by rw [if_pos rfl] at H; exact H
                      clear H
                      have H := H1
                      clear H1
                      replace H := Option.bind_eq_some_iff.mp H
                      obtain ⟨t144, A160, H⟩ := H
                      replace H : (spec_AreGrants.j1 k1 l0 x3_1 (!t144) ((rd_T51 l0 x3_1).f0) ((rd_T51 l0 x3_1).f1) ((rd_T51 l0 x3_1).f2) ((rd_T51 l0 x3_1).f3) ((rd_T51 l0 x3_1).f4) ((rd_T51 l0 x3_1).f5) ((rd_T51 l0 x3_1).f6)) = some r := H
                      have A16 := Aside0.mk A160
                      clear A160
                      have H' := Aside0.mk H
                      clear H
                      have hcz17_0 : w5.cell? ⟨gb140, 0, none⟩ = some (.int .i64 0) := (blk_cell BK140.out 0).trans rfl
                      have hcz17_1 : w5.cell? ⟨gb140, 1, none⟩ = some (.int .i64 0) := (blk_cell BK140.out 1).trans rfl
                      have hcz17_2 : w5.cell? ⟨gb140, 2, none⟩ = some (.int .i64 0) := (blk_cell BK140.out 2).trans rfl
                      have hcz17_3 : w5.cell? ⟨gb140, 3, none⟩ = some (.slice none 0 0) := (blk_cell BK140.out 3).trans rfl
                      have hcz17_4 : w5.cell? ⟨gb140, 4, none⟩ = some (.int .i64 0) := (blk_cell BK140.out 4).trans rfl
                      have hcz17_5 : w5.cell? ⟨gb140, 5, none⟩ = some (.int .i64 0) := (blk_cell BK140.out 5).trans rfl
                      have hcz17_6 : w5.cell? ⟨gb140, 6, none⟩ = some (.bool false) := (blk_cell BK140.out 6).trans rfl
                      have hfz17_0 := blk_frozen BK140.out 0
                      have hfz17_1 := blk_frozen BK140.out 1
                      have hfz17_2 := blk_frozen BK140.out 2
                      have hfz17_3 := blk_frozen BK140.out 3
                      have hfz17_4 := blk_frozen BK140.out 4
                      have hfz17_5 := blk_frozen BK140.out 5
                      have hfz17_6 := blk_frozen BK140.out 6
                      go_wp2_with (first | (go_at_call 154; (with_reducible refine (spec_HasKind.calls ((rd_T51 l0 x3_1).f1) 1 true _ A8.out).mono ?_); rintro e w' ⟨rfl, ⟨nd, rfl⟩⟩; (try first | exact ⟨rfl, _, World.drewN_drewN _ _ _⟩ | exact ⟨rfl, _, Eq.trans (World.drewN_drewN _ _ _) (congrArg (World.drewN _) (Nat.add_assoc _ _ _))⟩)) | (go_at_call 154; (with_reducible refine (spec_HasKind.calls ((rd_T51 l0 x3_1).f2) 1 true _ A10.out).mono ?_); rintro e w' ⟨rfl, ⟨nd, rfl⟩⟩; (try first | exact ⟨rfl, _, World.drewN_drewN _ _ _⟩ | exact ⟨rfl, _, Eq.trans (World.drewN_drewN _ _ _) (congrArg (World.drewN _) (Nat.add_assoc _ _ _))⟩)) | (go_at_call 104; (with_reducible refine (spec_IsTime.calls ((rd_T51 l0 x3_1).f4) true _ A14.out).mono ?_); rintro e w' ⟨rfl, ⟨nd, rfl⟩⟩; (try first | exact ⟨rfl, _, World.drewN_drewN _ _ _⟩ | exact ⟨rfl, _, Eq.trans (World.drewN_drewN _ _ _) (congrArg (World.drewN _) (Nat.add_assoc _ _ _))⟩)) | (go_at_call 96; (with_reducible refine (spec_l1In.calls ((rd_T51 l0 x3_1).f5) 0 x3_1 t144 _ A16.out).mono ?_); rintro e w' ⟨rfl, ⟨nd, rfl⟩⟩; (try first | exact ⟨rfl, _, World.drewN_drewN _ _ _⟩ | exact ⟨rfl, _, Eq.trans (World.drewN_drewN _ _ _) (congrArg (World.drewN _) (Nat.add_assoc _ _ _))⟩)))
                      repeat (go_quiet (first | (go_at_call 154; (with_reducible refine (spec_HasKind.calls ((rd_T51 l0 x3_1).f1) 1 true _ A8.out).mono ?_); rintro e w' ⟨rfl, ⟨nd, rfl⟩⟩; (try first | exact ⟨rfl, _, World.drewN_drewN _ _ _⟩ | exact ⟨rfl, _, Eq.trans (World.drewN_drewN _ _ _) (congrArg (World.drewN _) (Nat.add_assoc _ _ _))⟩)) | (go_at_call 154; (with_reducible refine (spec_HasKind.calls ((rd_T51 l0 x3_1).f2) 1 true _ A10.out).mono ?_); rintro e w' ⟨rfl, ⟨nd, rfl⟩⟩; (try first | exact ⟨rfl, _, World.drewN_drewN _ _ _⟩ | exact ⟨rfl, _, Eq.trans (World.drewN_drewN _ _ _) (congrArg (World.drewN _) (Nat.add_assoc _ _ _))⟩)) | (go_at_call 104; (with_reducible refine (spec_IsTime.calls ((rd_T51 l0 x3_1).f4) true _ A14.out).mono ?_); rintro e w' ⟨rfl, ⟨nd, rfl⟩⟩; (try first | exact ⟨rfl, _, World.drewN_drewN _ _ _⟩ | exact ⟨rfl, _, Eq.trans (World.drewN_drewN _ _ _) (congrArg (World.drewN _) (Nat.add_assoc _ _ _))⟩)) | (go_at_call 96; (with_reducible refine (spec_l1In.calls ((rd_T51 l0 x3_1).f5) 0 x3_1 t144 _ A16.out).mono ?_); rintro e w' ⟨rfl, ⟨nd, rfl⟩⟩; (try first | exact ⟨rfl, _, World.drewN_drewN _ _ _⟩ | exact ⟨rfl, _, Eq.trans (World.drewN_drewN _ _ _) (congrArg (World.drewN _) (Nat.add_assoc _ _ _))⟩))); try go_wp2_with (first | (go_at_call 154; (with_reducible refine (spec_HasKind.calls ((rd_T51 l0 x3_1).f1) 1 true _ A8.out).mono ?_); rintro e w' ⟨rfl, ⟨nd, rfl⟩⟩; (try first | exact ⟨rfl, _, World.drewN_drewN _ _ _⟩ | exact ⟨rfl, _, Eq.trans (World.drewN_drewN _ _ _) (congrArg (World.drewN _) (Nat.add_assoc _ _ _))⟩)) | (go_at_call 154; (with_reducible refine (spec_HasKind.calls ((rd_T51 l0 x3_1).f2) 1 true _ A10.out).mono ?_); rintro e w' ⟨rfl, ⟨nd, rfl⟩⟩; (try first | exact ⟨rfl, _, World.drewN_drewN _ _ _⟩ | exact ⟨rfl, _, Eq.trans (World.drewN_drewN _ _ _) (congrArg (World.drewN _) (Nat.add_assoc _ _ _))⟩)) | (go_at_call 104; (with_reducible refine (spec_IsTime.calls ((rd_T51 l0 x3_1).f4) true _ A14.out).mono ?_); rintro e w' ⟨rfl, ⟨nd, rfl⟩⟩; (try first | exact ⟨rfl, _, World.drewN_drewN _ _ _⟩ | exact ⟨rfl, _, Eq.trans (World.drewN_drewN _ _ _) (congrArg (World.drewN _) (Nat.add_assoc _ _ _))⟩)) | (go_at_call 96; (with_reducible refine (spec_l1In.calls ((rd_T51 l0 x3_1).f5) 0 x3_1 t144 _ A16.out).mono ?_); rintro e w' ⟨rfl, ⟨nd, rfl⟩⟩; (try first | exact ⟨rfl, _, World.drewN_drewN _ _ _⟩ | exact ⟨rfl, _, Eq.trans (World.drewN_drewN _ _ _) (congrArg (World.drewN _) (Nat.add_assoc _ _ _))⟩))))
                      go_meet
                      case rel => exact ⟨_, (!t144), (by first | rfl | (simp; done) | (simp [*]; done)), H', ⟨by have := HK1.out; first | omega | exact Nat.le_refl _⟩, ⟨by (with_reducible repeat (first | refine blk_drewN ?_ _ | refine blk_drew ?_ | refine blk_alloc ?_ _)); refine blk_put (cs := #[.int .i64 ((rd_T51 l0 x3_1).f0), .int .i64 ((rd_T51 l0 x3_1).f1), .int .i64 ((rd_T51 l0 x3_1).f2), .slice A139_3 ((rd_T51 l0 x3_1).f3).length c139_3, .int .i64 ((rd_T51 l0 x3_1).f4), .int .i64 ((rd_T51 l0 x3_1).f5), .bool false]) ?_ 6 _ rfl; (with_reducible repeat (first | refine blk_drewN ?_ _ | refine blk_drew ?_ | refine blk_alloc ?_ _)); refine blk_put (cs := #[.int .i64 ((rd_T51 l0 x3_1).f0), .int .i64 ((rd_T51 l0 x3_1).f1), .int .i64 ((rd_T51 l0 x3_1).f2), .slice A139_3 ((rd_T51 l0 x3_1).f3).length c139_3, .int .i64 ((rd_T51 l0 x3_1).f4), .int .i64 0, .bool false]) ?_ 5 _ rfl; (with_reducible repeat (first | refine blk_drewN ?_ _ | refine blk_drew ?_ | refine blk_alloc ?_ _)); refine blk_put (cs := #[.int .i64 ((rd_T51 l0 x3_1).f0), .int .i64 ((rd_T51 l0 x3_1).f1), .int .i64 ((rd_T51 l0 x3_1).f2), .slice A139_3 ((rd_T51 l0 x3_1).f3).length c139_3, .int .i64 0, .int .i64 0, .bool false]) ?_ 4 _ rfl; (with_reducible repeat (first | refine blk_drewN ?_ _ | refine blk_drew ?_ | refine blk_alloc ?_ _)); refine blk_put (cs := #[.int .i64 ((rd_T51 l0 x3_1).f0), .int .i64 ((rd_T51 l0 x3_1).f1), .int .i64 ((rd_T51 l0 x3_1).f2), .slice none 0 0, .int .i64 0, .int .i64 0, .bool false]) ?_ 3 _ rfl; (with_reducible repeat (first | refine blk_drewN ?_ _ | refine blk_drew ?_ | refine blk_alloc ?_ _)); refine blk_put (cs := #[.int .i64 ((rd_T51 l0 x3_1).f0), .int .i64 ((rd_T51 l0 x3_1).f1), .int .i64 0, .slice none 0 0, .int .i64 0, .int .i64 0, .bool false]) ?_ 2 _ rfl; (with_reducible repeat (first | refine blk_drewN ?_ _ | refine blk_drew ?_ | refine blk_alloc ?_ _)); refine blk_put (cs := #[.int .i64 ((rd_T51 l0 x3_1).f0), .int .i64 0, .int .i64 0, .slice none 0 0, .int .i64 0, .int .i64 0, .bool false]) ?_ 1 _ rfl; (with_reducible repeat (first | refine blk_drewN ?_ _ | refine blk_drew ?_ | refine blk_alloc ?_ _)); refine blk_put (cs := #[.int .i64 0, .int .i64 0, .int .i64 0, .slice none 0 0, .int .i64 0, .int .i64 0, .bool false]) ?_ 0 _ rfl; (with_reducible repeat (first | refine blk_drewN ?_ _ | refine blk_drew ?_ | refine blk_alloc ?_ _)); exact BK140.out⟩, ⟨by repeat (first | (with_reducible first | exact HB.out | apply below_alloc | apply pw_below_drewN | apply below_drew1 | refine below_set ?_ GE140.out) | exact HB.out)⟩⟩
                    · replace c15 := Bool.eq_false_iff.mpr c15
                      subst c15
                      have H1 : (spec_AreGrants.j1 k1 l0 x3_1 true ((rd_T51 l0 x3_1).f0) ((rd_T51 l0 x3_1).f1) ((rd_T51 l0 x3_1).f2) ((rd_T51 l0 x3_1).f3) ((rd_T51 l0 x3_1).f4) ((rd_T51 l0 x3_1).f5) ((rd_T51 l0 x3_1).f6)) = some r := by rw [if_neg (show ¬ (false = true) by decide)] at H; exact H
                      clear H
                      have H := H1
                      clear H1
                      have H' := Aside0.mk H
                      clear H
                      have hcz18_0 : w5.cell? ⟨gb140, 0, none⟩ = some (.int .i64 0) := (blk_cell BK140.out 0).trans rfl
                      have hcz18_1 : w5.cell? ⟨gb140, 1, none⟩ = some (.int .i64 0) := (blk_cell BK140.out 1).trans rfl
                      have hcz18_2 : w5.cell? ⟨gb140, 2, none⟩ = some (.int .i64 0) := (blk_cell BK140.out 2).trans rfl
                      have hcz18_3 : w5.cell? ⟨gb140, 3, none⟩ = some (.slice none 0 0) := (blk_cell BK140.out 3).trans rfl
                      have hcz18_4 : w5.cell? ⟨gb140, 4, none⟩ = some (.int .i64 0) := (blk_cell BK140.out 4).trans rfl
                      have hcz18_5 : w5.cell? ⟨gb140, 5, none⟩ = some (.int .i64 0) := (blk_cell BK140.out 5).trans rfl
                      have hcz18_6 : w5.cell? ⟨gb140, 6, none⟩ = some (.bool false) := (blk_cell BK140.out 6).trans rfl
                      have hfz18_0 := blk_frozen BK140.out 0
                      have hfz18_1 := blk_frozen BK140.out 1
                      have hfz18_2 := blk_frozen BK140.out 2
                      have hfz18_3 := blk_frozen BK140.out 3
                      have hfz18_4 := blk_frozen BK140.out 4
                      have hfz18_5 := blk_frozen BK140.out 5
                      have hfz18_6 := blk_frozen BK140.out 6
                      go_wp2_with (first | (go_at_call 154; (with_reducible refine (spec_HasKind.calls ((rd_T51 l0 x3_1).f1) 1 true _ A8.out).mono ?_); rintro e w' ⟨rfl, ⟨nd, rfl⟩⟩; (try first | exact ⟨rfl, _, World.drewN_drewN _ _ _⟩ | exact ⟨rfl, _, Eq.trans (World.drewN_drewN _ _ _) (congrArg (World.drewN _) (Nat.add_assoc _ _ _))⟩)) | (go_at_call 154; (with_reducible refine (spec_HasKind.calls ((rd_T51 l0 x3_1).f2) 1 true _ A10.out).mono ?_); rintro e w' ⟨rfl, ⟨nd, rfl⟩⟩; (try first | exact ⟨rfl, _, World.drewN_drewN _ _ _⟩ | exact ⟨rfl, _, Eq.trans (World.drewN_drewN _ _ _) (congrArg (World.drewN _) (Nat.add_assoc _ _ _))⟩)) | (go_at_call 104; (with_reducible refine (spec_IsTime.calls ((rd_T51 l0 x3_1).f4) false _ A14.out).mono ?_); rintro e w' ⟨rfl, ⟨nd, rfl⟩⟩; (try first | exact ⟨rfl, _, World.drewN_drewN _ _ _⟩ | exact ⟨rfl, _, Eq.trans (World.drewN_drewN _ _ _) (congrArg (World.drewN _) (Nat.add_assoc _ _ _))⟩)))
                      repeat (go_quiet (first | (go_at_call 154; (with_reducible refine (spec_HasKind.calls ((rd_T51 l0 x3_1).f1) 1 true _ A8.out).mono ?_); rintro e w' ⟨rfl, ⟨nd, rfl⟩⟩; (try first | exact ⟨rfl, _, World.drewN_drewN _ _ _⟩ | exact ⟨rfl, _, Eq.trans (World.drewN_drewN _ _ _) (congrArg (World.drewN _) (Nat.add_assoc _ _ _))⟩)) | (go_at_call 154; (with_reducible refine (spec_HasKind.calls ((rd_T51 l0 x3_1).f2) 1 true _ A10.out).mono ?_); rintro e w' ⟨rfl, ⟨nd, rfl⟩⟩; (try first | exact ⟨rfl, _, World.drewN_drewN _ _ _⟩ | exact ⟨rfl, _, Eq.trans (World.drewN_drewN _ _ _) (congrArg (World.drewN _) (Nat.add_assoc _ _ _))⟩)) | (go_at_call 104; (with_reducible refine (spec_IsTime.calls ((rd_T51 l0 x3_1).f4) false _ A14.out).mono ?_); rintro e w' ⟨rfl, ⟨nd, rfl⟩⟩; (try first | exact ⟨rfl, _, World.drewN_drewN _ _ _⟩ | exact ⟨rfl, _, Eq.trans (World.drewN_drewN _ _ _) (congrArg (World.drewN _) (Nat.add_assoc _ _ _))⟩))); try go_wp2_with (first | (go_at_call 154; (with_reducible refine (spec_HasKind.calls ((rd_T51 l0 x3_1).f1) 1 true _ A8.out).mono ?_); rintro e w' ⟨rfl, ⟨nd, rfl⟩⟩; (try first | exact ⟨rfl, _, World.drewN_drewN _ _ _⟩ | exact ⟨rfl, _, Eq.trans (World.drewN_drewN _ _ _) (congrArg (World.drewN _) (Nat.add_assoc _ _ _))⟩)) | (go_at_call 154; (with_reducible refine (spec_HasKind.calls ((rd_T51 l0 x3_1).f2) 1 true _ A10.out).mono ?_); rintro e w' ⟨rfl, ⟨nd, rfl⟩⟩; (try first | exact ⟨rfl, _, World.drewN_drewN _ _ _⟩ | exact ⟨rfl, _, Eq.trans (World.drewN_drewN _ _ _) (congrArg (World.drewN _) (Nat.add_assoc _ _ _))⟩)) | (go_at_call 104; (with_reducible refine (spec_IsTime.calls ((rd_T51 l0 x3_1).f4) false _ A14.out).mono ?_); rintro e w' ⟨rfl, ⟨nd, rfl⟩⟩; (try first | exact ⟨rfl, _, World.drewN_drewN _ _ _⟩ | exact ⟨rfl, _, Eq.trans (World.drewN_drewN _ _ _) (congrArg (World.drewN _) (Nat.add_assoc _ _ _))⟩))))
                      go_meet
                      case rel => exact ⟨_, (true), (by first | rfl | (simp; done) | (simp [*]; done)), H', ⟨by have := HK1.out; first | omega | exact Nat.le_refl _⟩, ⟨by (with_reducible repeat (first | refine blk_drewN ?_ _ | refine blk_drew ?_ | refine blk_alloc ?_ _)); refine blk_put (cs := #[.int .i64 ((rd_T51 l0 x3_1).f0), .int .i64 ((rd_T51 l0 x3_1).f1), .int .i64 ((rd_T51 l0 x3_1).f2), .slice A139_3 ((rd_T51 l0 x3_1).f3).length c139_3, .int .i64 ((rd_T51 l0 x3_1).f4), .int .i64 ((rd_T51 l0 x3_1).f5), .bool false]) ?_ 6 _ rfl; (with_reducible repeat (first | refine blk_drewN ?_ _ | refine blk_drew ?_ | refine blk_alloc ?_ _)); refine blk_put (cs := #[.int .i64 ((rd_T51 l0 x3_1).f0), .int .i64 ((rd_T51 l0 x3_1).f1), .int .i64 ((rd_T51 l0 x3_1).f2), .slice A139_3 ((rd_T51 l0 x3_1).f3).length c139_3, .int .i64 ((rd_T51 l0 x3_1).f4), .int .i64 0, .bool false]) ?_ 5 _ rfl; (with_reducible repeat (first | refine blk_drewN ?_ _ | refine blk_drew ?_ | refine blk_alloc ?_ _)); refine blk_put (cs := #[.int .i64 ((rd_T51 l0 x3_1).f0), .int .i64 ((rd_T51 l0 x3_1).f1), .int .i64 ((rd_T51 l0 x3_1).f2), .slice A139_3 ((rd_T51 l0 x3_1).f3).length c139_3, .int .i64 0, .int .i64 0, .bool false]) ?_ 4 _ rfl; (with_reducible repeat (first | refine blk_drewN ?_ _ | refine blk_drew ?_ | refine blk_alloc ?_ _)); refine blk_put (cs := #[.int .i64 ((rd_T51 l0 x3_1).f0), .int .i64 ((rd_T51 l0 x3_1).f1), .int .i64 ((rd_T51 l0 x3_1).f2), .slice none 0 0, .int .i64 0, .int .i64 0, .bool false]) ?_ 3 _ rfl; (with_reducible repeat (first | refine blk_drewN ?_ _ | refine blk_drew ?_ | refine blk_alloc ?_ _)); refine blk_put (cs := #[.int .i64 ((rd_T51 l0 x3_1).f0), .int .i64 ((rd_T51 l0 x3_1).f1), .int .i64 0, .slice none 0 0, .int .i64 0, .int .i64 0, .bool false]) ?_ 2 _ rfl; (with_reducible repeat (first | refine blk_drewN ?_ _ | refine blk_drew ?_ | refine blk_alloc ?_ _)); refine blk_put (cs := #[.int .i64 ((rd_T51 l0 x3_1).f0), .int .i64 0, .int .i64 0, .slice none 0 0, .int .i64 0, .int .i64 0, .bool false]) ?_ 1 _ rfl; (with_reducible repeat (first | refine blk_drewN ?_ _ | refine blk_drew ?_ | refine blk_alloc ?_ _)); refine blk_put (cs := #[.int .i64 0, .int .i64 0, .int .i64 0, .slice none 0 0, .int .i64 0, .int .i64 0, .bool false]) ?_ 0 _ rfl; (with_reducible repeat (first | refine blk_drewN ?_ _ | refine blk_drew ?_ | refine blk_alloc ?_ _)); exact BK140.out⟩, ⟨by repeat (first | (with_reducible first | exact HB.out | apply below_alloc | apply pw_below_drewN | apply below_drew1 | refine below_set ?_ GE140.out) | exact HB.out)⟩⟩
                · replace c11 := Bool.eq_false_iff.mpr c11
                  subst c11
                  have H1 : (spec_AreGrants.j1 k1 l0 x3_1 true ((rd_T51 l0 x3_1).f0) ((rd_T51 l0 x3_1).f1) ((rd_T51 l0 x3_1).f2) ((rd_T51 l0 x3_1).f3) ((rd_T51 l0 x3_1).f4) ((rd_T51 l0 x3_1).f5) ((rd_T51 l0 x3_1).f6)) = some r := by rw [if_neg (show ¬ (false = true) by decide)] at H; exact H
                  clear H
                  have H := H1
                  clear H1
                  have H' := Aside0.mk H
                  clear H
                  have hcz19_0 : w5.cell? ⟨gb140, 0, none⟩ = some (.int .i64 0) := (blk_cell BK140.out 0).trans rfl
                  have hcz19_1 : w5.cell? ⟨gb140, 1, none⟩ = some (.int .i64 0) := (blk_cell BK140.out 1).trans rfl
                  have hcz19_2 : w5.cell? ⟨gb140, 2, none⟩ = some (.int .i64 0) := (blk_cell BK140.out 2).trans rfl
                  have hcz19_3 : w5.cell? ⟨gb140, 3, none⟩ = some (.slice none 0 0) := (blk_cell BK140.out 3).trans rfl
                  have hcz19_4 : w5.cell? ⟨gb140, 4, none⟩ = some (.int .i64 0) := (blk_cell BK140.out 4).trans rfl
                  have hcz19_5 : w5.cell? ⟨gb140, 5, none⟩ = some (.int .i64 0) := (blk_cell BK140.out 5).trans rfl
                  have hcz19_6 : w5.cell? ⟨gb140, 6, none⟩ = some (.bool false) := (blk_cell BK140.out 6).trans rfl
                  have hfz19_0 := blk_frozen BK140.out 0
                  have hfz19_1 := blk_frozen BK140.out 1
                  have hfz19_2 := blk_frozen BK140.out 2
                  have hfz19_3 := blk_frozen BK140.out 3
                  have hfz19_4 := blk_frozen BK140.out 4
                  have hfz19_5 := blk_frozen BK140.out 5
                  have hfz19_6 := blk_frozen BK140.out 6
                  go_wp2_with (first | (go_at_call 154; (with_reducible refine (spec_HasKind.calls ((rd_T51 l0 x3_1).f1) 1 true _ A8.out).mono ?_); rintro e w' ⟨rfl, ⟨nd, rfl⟩⟩; (try first | exact ⟨rfl, _, World.drewN_drewN _ _ _⟩ | exact ⟨rfl, _, Eq.trans (World.drewN_drewN _ _ _) (congrArg (World.drewN _) (Nat.add_assoc _ _ _))⟩)) | (go_at_call 154; (with_reducible refine (spec_HasKind.calls ((rd_T51 l0 x3_1).f2) 1 false _ A10.out).mono ?_); rintro e w' ⟨rfl, ⟨nd, rfl⟩⟩; (try first | exact ⟨rfl, _, World.drewN_drewN _ _ _⟩ | exact ⟨rfl, _, Eq.trans (World.drewN_drewN _ _ _) (congrArg (World.drewN _) (Nat.add_assoc _ _ _))⟩)))
                  repeat (go_quiet (first | (go_at_call 154; (with_reducible refine (spec_HasKind.calls ((rd_T51 l0 x3_1).f1) 1 true _ A8.out).mono ?_); rintro e w' ⟨rfl, ⟨nd, rfl⟩⟩; (try first | exact ⟨rfl, _, World.drewN_drewN _ _ _⟩ | exact ⟨rfl, _, Eq.trans (World.drewN_drewN _ _ _) (congrArg (World.drewN _) (Nat.add_assoc _ _ _))⟩)) | (go_at_call 154; (with_reducible refine (spec_HasKind.calls ((rd_T51 l0 x3_1).f2) 1 false _ A10.out).mono ?_); rintro e w' ⟨rfl, ⟨nd, rfl⟩⟩; (try first | exact ⟨rfl, _, World.drewN_drewN _ _ _⟩ | exact ⟨rfl, _, Eq.trans (World.drewN_drewN _ _ _) (congrArg (World.drewN _) (Nat.add_assoc _ _ _))⟩))); try go_wp2_with (first | (go_at_call 154; (with_reducible refine (spec_HasKind.calls ((rd_T51 l0 x3_1).f1) 1 true _ A8.out).mono ?_); rintro e w' ⟨rfl, ⟨nd, rfl⟩⟩; (try first | exact ⟨rfl, _, World.drewN_drewN _ _ _⟩ | exact ⟨rfl, _, Eq.trans (World.drewN_drewN _ _ _) (congrArg (World.drewN _) (Nat.add_assoc _ _ _))⟩)) | (go_at_call 154; (with_reducible refine (spec_HasKind.calls ((rd_T51 l0 x3_1).f2) 1 false _ A10.out).mono ?_); rintro e w' ⟨rfl, ⟨nd, rfl⟩⟩; (try first | exact ⟨rfl, _, World.drewN_drewN _ _ _⟩ | exact ⟨rfl, _, Eq.trans (World.drewN_drewN _ _ _) (congrArg (World.drewN _) (Nat.add_assoc _ _ _))⟩))))
                  go_meet
                  case rel => exact ⟨_, (true), (by first | rfl | (simp; done) | (simp [*]; done)), H', ⟨by have := HK1.out; first | omega | exact Nat.le_refl _⟩, ⟨by (with_reducible repeat (first | refine blk_drewN ?_ _ | refine blk_drew ?_ | refine blk_alloc ?_ _)); refine blk_put (cs := #[.int .i64 ((rd_T51 l0 x3_1).f0), .int .i64 ((rd_T51 l0 x3_1).f1), .int .i64 ((rd_T51 l0 x3_1).f2), .slice A139_3 ((rd_T51 l0 x3_1).f3).length c139_3, .int .i64 ((rd_T51 l0 x3_1).f4), .int .i64 ((rd_T51 l0 x3_1).f5), .bool false]) ?_ 6 _ rfl; (with_reducible repeat (first | refine blk_drewN ?_ _ | refine blk_drew ?_ | refine blk_alloc ?_ _)); refine blk_put (cs := #[.int .i64 ((rd_T51 l0 x3_1).f0), .int .i64 ((rd_T51 l0 x3_1).f1), .int .i64 ((rd_T51 l0 x3_1).f2), .slice A139_3 ((rd_T51 l0 x3_1).f3).length c139_3, .int .i64 ((rd_T51 l0 x3_1).f4), .int .i64 0, .bool false]) ?_ 5 _ rfl; (with_reducible repeat (first | refine blk_drewN ?_ _ | refine blk_drew ?_ | refine blk_alloc ?_ _)); refine blk_put (cs := #[.int .i64 ((rd_T51 l0 x3_1).f0), .int .i64 ((rd_T51 l0 x3_1).f1), .int .i64 ((rd_T51 l0 x3_1).f2), .slice A139_3 ((rd_T51 l0 x3_1).f3).length c139_3, .int .i64 0, .int .i64 0, .bool false]) ?_ 4 _ rfl; (with_reducible repeat (first | refine blk_drewN ?_ _ | refine blk_drew ?_ | refine blk_alloc ?_ _)); refine blk_put (cs := #[.int .i64 ((rd_T51 l0 x3_1).f0), .int .i64 ((rd_T51 l0 x3_1).f1), .int .i64 ((rd_T51 l0 x3_1).f2), .slice none 0 0, .int .i64 0, .int .i64 0, .bool false]) ?_ 3 _ rfl; (with_reducible repeat (first | refine blk_drewN ?_ _ | refine blk_drew ?_ | refine blk_alloc ?_ _)); refine blk_put (cs := #[.int .i64 ((rd_T51 l0 x3_1).f0), .int .i64 ((rd_T51 l0 x3_1).f1), .int .i64 0, .slice none 0 0, .int .i64 0, .int .i64 0, .bool false]) ?_ 2 _ rfl; (with_reducible repeat (first | refine blk_drewN ?_ _ | refine blk_drew ?_ | refine blk_alloc ?_ _)); refine blk_put (cs := #[.int .i64 ((rd_T51 l0 x3_1).f0), .int .i64 0, .int .i64 0, .slice none 0 0, .int .i64 0, .int .i64 0, .bool false]) ?_ 1 _ rfl; (with_reducible repeat (first | refine blk_drewN ?_ _ | refine blk_drew ?_ | refine blk_alloc ?_ _)); refine blk_put (cs := #[.int .i64 0, .int .i64 0, .int .i64 0, .slice none 0 0, .int .i64 0, .int .i64 0, .bool false]) ?_ 0 _ rfl; (with_reducible repeat (first | refine blk_drewN ?_ _ | refine blk_drew ?_ | refine blk_alloc ?_ _)); exact BK140.out⟩, ⟨by repeat (first | (with_reducible first | exact HB.out | apply below_alloc | apply pw_below_drewN | apply below_drew1 | refine below_set ?_ GE140.out) | exact HB.out)⟩⟩
              · replace c9 := Bool.eq_false_iff.mpr c9
                subst c9
                have H1 : (spec_AreGrants.j1 k1 l0 x3_1 true ((rd_T51 l0 x3_1).f0) ((rd_T51 l0 x3_1).f1) ((rd_T51 l0 x3_1).f2) ((rd_T51 l0 x3_1).f3) ((rd_T51 l0 x3_1).f4) ((rd_T51 l0 x3_1).f5) ((rd_T51 l0 x3_1).f6)) = some r := by rw [if_neg (show ¬ (false = true) by decide)] at H; exact H
                clear H
                have H := H1
                clear H1
                have H' := Aside0.mk H
                clear H
                have hcz20_0 : w5.cell? ⟨gb140, 0, none⟩ = some (.int .i64 0) := (blk_cell BK140.out 0).trans rfl
                have hcz20_1 : w5.cell? ⟨gb140, 1, none⟩ = some (.int .i64 0) := (blk_cell BK140.out 1).trans rfl
                have hcz20_2 : w5.cell? ⟨gb140, 2, none⟩ = some (.int .i64 0) := (blk_cell BK140.out 2).trans rfl
                have hcz20_3 : w5.cell? ⟨gb140, 3, none⟩ = some (.slice none 0 0) := (blk_cell BK140.out 3).trans rfl
                have hcz20_4 : w5.cell? ⟨gb140, 4, none⟩ = some (.int .i64 0) := (blk_cell BK140.out 4).trans rfl
                have hcz20_5 : w5.cell? ⟨gb140, 5, none⟩ = some (.int .i64 0) := (blk_cell BK140.out 5).trans rfl
                have hcz20_6 : w5.cell? ⟨gb140, 6, none⟩ = some (.bool false) := (blk_cell BK140.out 6).trans rfl
                have hfz20_0 := blk_frozen BK140.out 0
                have hfz20_1 := blk_frozen BK140.out 1
                have hfz20_2 := blk_frozen BK140.out 2
                have hfz20_3 := blk_frozen BK140.out 3
                have hfz20_4 := blk_frozen BK140.out 4
                have hfz20_5 := blk_frozen BK140.out 5
                have hfz20_6 := blk_frozen BK140.out 6
                go_wp2_with (first | (go_at_call 154; (with_reducible refine (spec_HasKind.calls ((rd_T51 l0 x3_1).f1) 1 false _ A8.out).mono ?_); rintro e w' ⟨rfl, ⟨nd, rfl⟩⟩; (try first | exact ⟨rfl, _, World.drewN_drewN _ _ _⟩ | exact ⟨rfl, _, Eq.trans (World.drewN_drewN _ _ _) (congrArg (World.drewN _) (Nat.add_assoc _ _ _))⟩)))
                repeat (go_quiet (first | (go_at_call 154; (with_reducible refine (spec_HasKind.calls ((rd_T51 l0 x3_1).f1) 1 false _ A8.out).mono ?_); rintro e w' ⟨rfl, ⟨nd, rfl⟩⟩; (try first | exact ⟨rfl, _, World.drewN_drewN _ _ _⟩ | exact ⟨rfl, _, Eq.trans (World.drewN_drewN _ _ _) (congrArg (World.drewN _) (Nat.add_assoc _ _ _))⟩))); try go_wp2_with (first | (go_at_call 154; (with_reducible refine (spec_HasKind.calls ((rd_T51 l0 x3_1).f1) 1 false _ A8.out).mono ?_); rintro e w' ⟨rfl, ⟨nd, rfl⟩⟩; (try first | exact ⟨rfl, _, World.drewN_drewN _ _ _⟩ | exact ⟨rfl, _, Eq.trans (World.drewN_drewN _ _ _) (congrArg (World.drewN _) (Nat.add_assoc _ _ _))⟩))))
                go_meet
                case rel => exact ⟨_, (true), (by first | rfl | (simp; done) | (simp [*]; done)), H', ⟨by have := HK1.out; first | omega | exact Nat.le_refl _⟩, ⟨by (with_reducible repeat (first | refine blk_drewN ?_ _ | refine blk_drew ?_ | refine blk_alloc ?_ _)); refine blk_put (cs := #[.int .i64 ((rd_T51 l0 x3_1).f0), .int .i64 ((rd_T51 l0 x3_1).f1), .int .i64 ((rd_T51 l0 x3_1).f2), .slice A139_3 ((rd_T51 l0 x3_1).f3).length c139_3, .int .i64 ((rd_T51 l0 x3_1).f4), .int .i64 ((rd_T51 l0 x3_1).f5), .bool false]) ?_ 6 _ rfl; (with_reducible repeat (first | refine blk_drewN ?_ _ | refine blk_drew ?_ | refine blk_alloc ?_ _)); refine blk_put (cs := #[.int .i64 ((rd_T51 l0 x3_1).f0), .int .i64 ((rd_T51 l0 x3_1).f1), .int .i64 ((rd_T51 l0 x3_1).f2), .slice A139_3 ((rd_T51 l0 x3_1).f3).length c139_3, .int .i64 ((rd_T51 l0 x3_1).f4), .int .i64 0, .bool false]) ?_ 5 _ rfl; (with_reducible repeat (first | refine blk_drewN ?_ _ | refine blk_drew ?_ | refine blk_alloc ?_ _)); refine blk_put (cs := #[.int .i64 ((rd_T51 l0 x3_1).f0), .int .i64 ((rd_T51 l0 x3_1).f1), .int .i64 ((rd_T51 l0 x3_1).f2), .slice A139_3 ((rd_T51 l0 x3_1).f3).length c139_3, .int .i64 0, .int .i64 0, .bool false]) ?_ 4 _ rfl; (with_reducible repeat (first | refine blk_drewN ?_ _ | refine blk_drew ?_ | refine blk_alloc ?_ _)); refine blk_put (cs := #[.int .i64 ((rd_T51 l0 x3_1).f0), .int .i64 ((rd_T51 l0 x3_1).f1), .int .i64 ((rd_T51 l0 x3_1).f2), .slice none 0 0, .int .i64 0, .int .i64 0, .bool false]) ?_ 3 _ rfl; (with_reducible repeat (first | refine blk_drewN ?_ _ | refine blk_drew ?_ | refine blk_alloc ?_ _)); refine blk_put (cs := #[.int .i64 ((rd_T51 l0 x3_1).f0), .int .i64 ((rd_T51 l0 x3_1).f1), .int .i64 0, .slice none 0 0, .int .i64 0, .int .i64 0, .bool false]) ?_ 2 _ rfl; (with_reducible repeat (first | refine blk_drewN ?_ _ | refine blk_drew ?_ | refine blk_alloc ?_ _)); refine blk_put (cs := #[.int .i64 ((rd_T51 l0 x3_1).f0), .int .i64 0, .int .i64 0, .slice none 0 0, .int .i64 0, .int .i64 0, .bool false]) ?_ 1 _ rfl; (with_reducible repeat (first | refine blk_drewN ?_ _ | refine blk_drew ?_ | refine blk_alloc ?_ _)); refine blk_put (cs := #[.int .i64 0, .int .i64 0, .int .i64 0, .slice none 0 0, .int .i64 0, .int .i64 0, .bool false]) ?_ 0 _ rfl; (with_reducible repeat (first | refine blk_drewN ?_ _ | refine blk_drew ?_ | refine blk_alloc ?_ _)); exact BK140.out⟩, ⟨by repeat (first | (with_reducible first | exact HB.out | apply below_alloc | apply pw_below_drewN | apply below_drew1 | refine below_set ?_ GE140.out) | exact HB.out)⟩⟩
            · rw [if_neg c7] at H
              have c7b0 : (((rd_T51 l0 x3_1).f0) == (wrap64 (x3_1 + 1))) = false := beq_eq_false_iff_ne.mpr c7
              have c7b1 : (((rd_T51 l0 x3_1).f0) != (wrap64 (x3_1 + 1))) = true := bne_iff_ne.mpr c7
              (first | rw [c7b0] | (simp only [i64_w, i32_w]; rw [c7b0]) | skip)
              have H' := Aside0.mk H
              clear H
              have hcz21_0 : w5.cell? ⟨gb140, 0, none⟩ = some (.int .i64 0) := (blk_cell BK140.out 0).trans rfl
              have hcz21_1 : w5.cell? ⟨gb140, 1, none⟩ = some (.int .i64 0) := (blk_cell BK140.out 1).trans rfl
              have hcz21_2 : w5.cell? ⟨gb140, 2, none⟩ = some (.int .i64 0) := (blk_cell BK140.out 2).trans rfl
              have hcz21_3 : w5.cell? ⟨gb140, 3, none⟩ = some (.slice none 0 0) := (blk_cell BK140.out 3).trans rfl
              have hcz21_4 : w5.cell? ⟨gb140, 4, none⟩ = some (.int .i64 0) := (blk_cell BK140.out 4).trans rfl
              have hcz21_5 : w5.cell? ⟨gb140, 5, none⟩ = some (.int .i64 0) := (blk_cell BK140.out 5).trans rfl
              have hcz21_6 : w5.cell? ⟨gb140, 6, none⟩ = some (.bool false) := (blk_cell BK140.out 6).trans rfl
              have hfz21_0 := blk_frozen BK140.out 0
              have hfz21_1 := blk_frozen BK140.out 1
              have hfz21_2 := blk_frozen BK140.out 2
              have hfz21_3 := blk_frozen BK140.out 3
              have hfz21_4 := blk_frozen BK140.out 4
              have hfz21_5 := blk_frozen BK140.out 5
              have hfz21_6 := blk_frozen BK140.out 6
              go_wp2
              repeat (go_quiet (fail); try go_wp2)
              go_meet
              case rel => exact ⟨_, (true), (by first | rfl | (simp; done) | (simp [*]; done)), H', ⟨by have := HK1.out; first | omega | exact Nat.le_refl _⟩, ⟨by (with_reducible repeat (first | refine blk_drewN ?_ _ | refine blk_drew ?_ | refine blk_alloc ?_ _)); refine blk_put (cs := #[.int .i64 ((rd_T51 l0 x3_1).f0), .int .i64 ((rd_T51 l0 x3_1).f1), .int .i64 ((rd_T51 l0 x3_1).f2), .slice A139_3 ((rd_T51 l0 x3_1).f3).length c139_3, .int .i64 ((rd_T51 l0 x3_1).f4), .int .i64 ((rd_T51 l0 x3_1).f5), .bool false]) ?_ 6 _ rfl; (with_reducible repeat (first | refine blk_drewN ?_ _ | refine blk_drew ?_ | refine blk_alloc ?_ _)); refine blk_put (cs := #[.int .i64 ((rd_T51 l0 x3_1).f0), .int .i64 ((rd_T51 l0 x3_1).f1), .int .i64 ((rd_T51 l0 x3_1).f2), .slice A139_3 ((rd_T51 l0 x3_1).f3).length c139_3, .int .i64 ((rd_T51 l0 x3_1).f4), .int .i64 0, .bool false]) ?_ 5 _ rfl; (with_reducible repeat (first | refine blk_drewN ?_ _ | refine blk_drew ?_ | refine blk_alloc ?_ _)); refine blk_put (cs := #[.int .i64 ((rd_T51 l0 x3_1).f0), .int .i64 ((rd_T51 l0 x3_1).f1), .int .i64 ((rd_T51 l0 x3_1).f2), .slice A139_3 ((rd_T51 l0 x3_1).f3).length c139_3, .int .i64 0, .int .i64 0, .bool false]) ?_ 4 _ rfl; (with_reducible repeat (first | refine blk_drewN ?_ _ | refine blk_drew ?_ | refine blk_alloc ?_ _)); refine blk_put (cs := #[.int .i64 ((rd_T51 l0 x3_1).f0), .int .i64 ((rd_T51 l0 x3_1).f1), .int .i64 ((rd_T51 l0 x3_1).f2), .slice none 0 0, .int .i64 0, .int .i64 0, .bool false]) ?_ 3 _ rfl; (with_reducible repeat (first | refine blk_drewN ?_ _ | refine blk_drew ?_ | refine blk_alloc ?_ _)); refine blk_put (cs := #[.int .i64 ((rd_T51 l0 x3_1).f0), .int .i64 ((rd_T51 l0 x3_1).f1), .int .i64 0, .slice none 0 0, .int .i64 0, .int .i64 0, .bool false]) ?_ 2 _ rfl; (with_reducible repeat (first | refine blk_drewN ?_ _ | refine blk_drew ?_ | refine blk_alloc ?_ _)); refine blk_put (cs := #[.int .i64 ((rd_T51 l0 x3_1).f0), .int .i64 0, .int .i64 0, .slice none 0 0, .int .i64 0, .int .i64 0, .bool false]) ?_ 1 _ rfl; (with_reducible repeat (first | refine blk_drewN ?_ _ | refine blk_drew ?_ | refine blk_alloc ?_ _)); refine blk_put (cs := #[.int .i64 0, .int .i64 0, .int .i64 0, .slice none 0 0, .int .i64 0, .int .i64 0, .bool false]) ?_ 0 _ rfl; (with_reducible repeat (first | refine blk_drewN ?_ _ | refine blk_drew ?_ | refine blk_alloc ?_ _)); exact BK140.out⟩, ⟨by repeat (first | (with_reducible first | exact HB.out | apply below_alloc | apply pw_below_drewN | apply below_drew1 | refine below_set ?_ GE140.out) | exact HB.out)⟩⟩
          case rest =>
            clear HC4
            try clear c1
            try clear p1
            try clear q1
            try clear hx1
            try clear c2
            try clear c2b0
            try clear p2
            try clear c3
            try clear c3b0
            try clear p6
            try clear c7
            try clear c7b0
            try clear c7b1
            try clear c9
            try clear c11
            try clear c12
            try clear c12b0
            try clear c12b1
            try clear c13
            try clear p13
            try clear q13
            try clear hx13
            try clear c15
            try clear hcz13_0
            try clear hcz13_1
            try clear hcz13_2
            try clear hcz13_3
            try clear hcz13_4
            try clear hcz13_5
            try clear hcz13_6
            try clear hcz17_0
            try clear hcz17_1
            try clear hcz17_2
            try clear hcz17_3
            try clear hcz17_4
            try clear hcz17_5
            try clear hcz17_6
            try clear hcz18_0
            try clear hcz18_1
            try clear hcz18_2
            try clear hcz18_3
            try clear hcz18_4
            try clear hcz18_5
            try clear hcz18_6
            try clear hcz19_0
            try clear hcz19_1
            try clear hcz19_2
            try clear hcz19_3
            try clear hcz19_4
            try clear hcz19_5
            try clear hcz19_6
            try clear hcz20_0
            try clear hcz20_1
            try clear hcz20_2
            try clear hcz20_3
            try clear hcz20_4
            try clear hcz20_5
            try clear hcz20_6
            try clear hcz21_0
            try clear hcz21_1
            try clear hcz21_2
            try clear hcz21_3
            try clear hcz21_4
            try clear hcz21_5
            try clear hcz21_6
            try clear hcz6_0
            try clear hcz6_1
            try clear hcz6_2
            try clear hcz6_3
            try clear hcz6_4
            try clear hcz6_5
            try clear hcz6_6
            try clear hfz13_0
            try clear hfz13_1
            try clear hfz13_2
            try clear hfz13_3
            try clear hfz13_4
            try clear hfz13_5
            try clear hfz13_6
            try clear hfz17_0
            try clear hfz17_1
            try clear hfz17_2
            try clear hfz17_3
            try clear hfz17_4
            try clear hfz17_5
            try clear hfz17_6
            try clear hfz18_0
            try clear hfz18_1
            try clear hfz18_2
            try clear hfz18_3
            try clear hfz18_4
            try clear hfz18_5
            try clear hfz18_6
            try clear hfz19_0
            try clear hfz19_1
            try clear hfz19_2
            try clear hfz19_3
            try clear hfz19_4
            try clear hfz19_5
            try clear hfz19_6
            try clear hfz20_0
            try clear hfz20_1
            try clear hfz20_2
            try clear hfz20_3
            try clear hfz20_4
            try clear hfz20_5
            try clear hfz20_6
            try clear hfz21_0
            try clear hfz21_1
            try clear hfz21_2
            try clear hfz21_3
            try clear hfz21_4
            try clear hfz21_5
            try clear hfz21_6
            try clear hfz6_0
            try clear hfz6_1
            try clear hfz6_2
            try clear hfz6_3
            try clear hfz6_4
            try clear hfz6_5
            try clear hfz6_6
            try clear hx139_0
            try clear hx139_1
            try clear hx139_2
            try clear hx139_3
            try clear hx139_4
            try clear hx139_5
            try clear hx139_6
            try clear p139
            try clear q139
            obtain ⟨kq, x52_3, rfl, HA, HJ3, BK140, HB⟩ := hcut
            cases kq with
            | zero => exact absurd HA.out (by simp [spec_AreGrants.j1])
            | succ kj3 =>
              have H := HA.out
              clear HA
              simp only [spec_AreGrants.j1] at H
              by_cases c22 : x52_3 = true
              · subst c22
                have H1 : (some false) = some r := by rw [if_pos rfl] at H; exact H
                clear H
                have H := H1
                clear H1
                obtain rfl := Option.some.inj H
                go_wp2
                repeat (go_quiet (fail); try go_wp2)
                go_ret
                exact ⟨by first | rfl | (simp [errW_none, errW_some] <;> rfl) | (simp [*, errW_none, errW_some] <;> rfl), by repeat (first | (with_reducible first | exact HB.out | apply below_alloc | apply pw_below_drewN | apply below_drew1 | refine below_set ?_ GE140.out) | exact HB.out)⟩
              · replace c22 := Bool.eq_false_iff.mpr c22
                subst c22
                have H1 : (spec_AreGrants.l1 kj3 l0 x3_1 0 ((rd_T51 l0 x3_1).f0) ((rd_T51 l0 x3_1).f1) ((rd_T51 l0 x3_1).f2) ((rd_T51 l0 x3_1).f3) ((rd_T51 l0 x3_1).f4) ((rd_T51 l0 x3_1).f5) ((rd_T51 l0 x3_1).f6)) = some r := by rw [if_neg (show ¬ (false = true) by decide)] at H; exact H
                clear H
                have H := H1
                clear H1
                have H' := Aside0.mk H
                clear H
                go_wp2
                repeat (go_quiet (fail); try go_wp2)
                go_loopg [5] kj3 (fun kq v5 w' => ∃ (x5_3 : Int), v5 = .int .i64 x5_3 ∧ Aside0 (spec_AreGrants.l1 kq l0 x3_1 x5_3 ((rd_T51 l0 x3_1).f0) ((rd_T51 l0 x3_1).f1) ((rd_T51 l0 x3_1).f2) ((rd_T51 l0 x3_1).f3) ((rd_T51 l0 x3_1).f4) ((rd_T51 l0 x3_1).f5) ((rd_T51 l0 x3_1).f6) = some r) ∧ Aside0 (kq ≤ kj3) ∧ Aside0 (w'.heap[gb140]? = some (.cells #[.int .i64 ((rd_T51 l0 x3_1).f0), .int .i64 ((rd_T51 l0 x3_1).f1), .int .i64 ((rd_T51 l0 x3_1).f2), (.slice A139_3 ((rd_T51 l0 x3_1).f3).length c139_3), .int .i64 ((rd_T51 l0 x3_1).f4), .int .i64 ((rd_T51 l0 x3_1).f5), .bool ((rd_T51 l0 x3_1).f6)] 51 (0, 0))) ∧ Aside0 (Below w.heap.size w w'))
                case atStart => exact ⟨(0), (by first | rfl | (simp; done) | (simp [*]; done)), H', ⟨Nat.le_refl _⟩, ⟨by (with_reducible repeat (first | refine blk_drewN ?_ _ | refine blk_drew ?_ | refine blk_alloc ?_ _)); exact BK140.out⟩, ⟨by repeat (first | (with_reducible first | exact HB.out | apply below_alloc | apply pw_below_drewN | apply below_drew1 | refine below_set ?_ GE140.out) | exact HB.out)⟩⟩
                case round =>
                  clear H'
                  try clear c1
                  try clear p1
                  try clear q1
                  try clear hx1
                  try clear c2
                  try clear c2b0
                  try clear p2
                  try clear c3
                  try clear c3b0
                  try clear p6
                  try clear c7
                  try clear c7b0
                  try clear c7b1
                  try clear c9
                  try clear c11
                  try clear c12
                  try clear c12b0
                  try clear c12b1
                  try clear c13
                  try clear p13
                  try clear q13
                  try clear hx13
                  try clear c15
                  try clear c22
                  try clear hcz13_0
                  try clear hcz13_1
                  try clear hcz13_2
                  try clear hcz13_3
                  try clear hcz13_4
                  try clear hcz13_5
                  try clear hcz13_6
                  try clear hcz17_0
                  try clear hcz17_1
                  try clear hcz17_2
                  try clear hcz17_3
                  try clear hcz17_4
                  try clear hcz17_5
                  try clear hcz17_6
                  try clear hcz18_0
                  try clear hcz18_1
                  try clear hcz18_2
                  try clear hcz18_3
                  try clear hcz18_4
                  try clear hcz18_5
                  try clear hcz18_6
                  try clear hcz19_0
                  try clear hcz19_1
                  try clear hcz19_2
                  try clear hcz19_3
                  try clear hcz19_4
                  try clear hcz19_5
                  try clear hcz19_6
                  try clear hcz20_0
                  try clear hcz20_1
                  try clear hcz20_2
                  try clear hcz20_3
                  try clear hcz20_4
                  try clear hcz20_5
                  try clear hcz20_6
                  try clear hcz21_0
                  try clear hcz21_1
                  try clear hcz21_2
                  try clear hcz21_3
                  try clear hcz21_4
                  try clear hcz21_5
                  try clear hcz21_6
                  try clear hcz6_0
                  try clear hcz6_1
                  try clear hcz6_2
                  try clear hcz6_3
                  try clear hcz6_4
                  try clear hcz6_5
                  try clear hcz6_6
                  try clear hfz13_0
                  try clear hfz13_1
                  try clear hfz13_2
                  try clear hfz13_3
                  try clear hfz13_4
                  try clear hfz13_5
                  try clear hfz13_6
                  try clear hfz17_0
                  try clear hfz17_1
                  try clear hfz17_2
                  try clear hfz17_3
                  try clear hfz17_4
                  try clear hfz17_5
                  try clear hfz17_6
                  try clear hfz18_0
                  try clear hfz18_1
                  try clear hfz18_2
                  try clear hfz18_3
                  try clear hfz18_4
                  try clear hfz18_5
                  try clear hfz18_6
                  try clear hfz19_0
                  try clear hfz19_1
                  try clear hfz19_2
                  try clear hfz19_3
                  try clear hfz19_4
                  try clear hfz19_5
                  try clear hfz19_6
                  try clear hfz20_0
                  try clear hfz20_1
                  try clear hfz20_2
                  try clear hfz20_3
                  try clear hfz20_4
                  try clear hfz20_5
                  try clear hfz20_6
                  try clear hfz21_0
                  try clear hfz21_1
                  try clear hfz21_2
                  try clear hfz21_3
                  try clear hfz21_4
                  try clear hfz21_5
                  try clear hfz21_6
                  try clear hfz6_0
                  try clear hfz6_1
                  try clear hfz6_2
                  try clear hfz6_3
                  try clear hfz6_4
                  try clear hfz6_5
                  try clear hfz6_6
                  try clear hx139_0
                  try clear hx139_1
                  try clear hx139_2
                  try clear hx139_3
                  try clear hx139_4
                  try clear hx139_5
                  try clear hx139_6
                  try clear p1
                  try clear p13
                  try clear p139
                  try clear p2
                  try clear p6
                  try clear q1
                  try clear q13
                  try clear q139
                  obtain ⟨x5_3, rfl, HA, HK3, BK140, HB⟩ := hrel
                  cases gk with
                  | zero => exact absurd HA.out (by simp [spec_AreGrants.l1])
                  | succ k3 =>
                    have H := HA.out
                    clear HA
                    simp only [spec_AreGrants.l1] at H
                    by_cases c23 : x5_3 < (((rd_T51 l0 x3_1).f3).length : Int)
                    · rw [if_pos c23] at H
                      have c23b0 : decide (x5_3 < (((rd_T51 l0 x3_1).f3).length : Int)) = true := decide_eq_true c23
                      clear c23
                      by_cases c24 : 0 ≤ x5_3
                      · rw [if_pos c24] at H
                        have c24b0 : decide (0 ≤ x5_3) = true := decide_eq_true c24
                        clear c24
                        replace H := Option.bind_eq_some_iff.mp H
                        obtain ⟨t146, A250, H⟩ := H
                        replace H : (if t146 = true then (if x5_3 > 0 then (if 0 ≤ (wrap64 (x5_3 - 1)) then (if (wrap64 (x5_3 - 1)) < (((rd_T51 l0 x3_1).f3).length : Int) then (if (rd ((rd_T51 l0 x3_1).f3) (wrap64 (x5_3 - 1))) ≥ (rd ((rd_T51 l0 x3_1).f3) x5_3) then (some false) else (spec_AreGrants.l1 k3 l0 x3_1 (wrap64 (x5_3 + 1)) ((rd_T51 l0 x3_1).f0) ((rd_T51 l0 x3_1).f1) ((rd_T51 l0 x3_1).f2) ((rd_T51 l0 x3_1).f3) ((rd_T51 l0 x3_1).f4) ((rd_T51 l0 x3_1).f5) ((rd_T51 l0 x3_1).f6))) else (none)) else (none)) else (spec_AreGrants.l1 k3 l0 x3_1 (wrap64 (x5_3 + 1)) ((rd_T51 l0 x3_1).f0) ((rd_T51 l0 x3_1).f1) ((rd_T51 l0 x3_1).f2) ((rd_T51 l0 x3_1).f3) ((rd_T51 l0 x3_1).f4) ((rd_T51 l0 x3_1).f5) ((rd_T51 l0 x3_1).f6))) else (some false)) = some r := H
                        have A25 := Aside0.mk A250
                        clear A250
                        by_cases c26 : t146 = true
                        · subst c26
                          have H1 : (if x5_3 > 0 then (if 0 ≤ (wrap64 (x5_3 - 1)) then (if (wrap64 (x5_3 - 1)) < (((rd_T51 l0 x3_1).f3).length : Int) then (if (rd ((rd_T51 l0 x3_1).f3) (wrap64 (x5_3 - 1))) ≥ (rd ((rd_T51 l0 x3_1).f3) x5_3) then (some false) else (spec_AreGrants.l1 k3 l0 x3_1 (wrap64 (x5_3 + 1)) ((rd_T51 l0 x3_1).f0) ((rd_T51 l0 x3_1).f1) ((rd_T51 l0 x3_1).f2) ((rd_T51 l0 x3_1).f3) ((rd_T51 l0 x3_1).f4) ((rd_T51 l0 x3_1).f5) ((rd_T51 l0 x3_1).f6))) else (none)) else (none)) else (spec_AreGrants.l1 k3 l0 x3_1 (wrap64 (x5_3 + 1)) ((rd_T51 l0 x3_1).f0) ((rd_T51 l0 x3_1).f1) ((rd_T51 l0 x3_1).f2) ((rd_T51 l0 x3_1).f3) ((rd_T51 l0 x3_1).f4) ((rd_T51 l0 x3_1).f5) ((rd_T51 l0 x3_1).f6))) = some r := by rw [if_pos rfl] at H; exact H
                          clear H
                          have H := H1
                          clear H1
                          by_cases c27 : x5_3 > 0
                          · rw [if_pos c27] at H
                            have c27b0 : decide (0 < x5_3) = true := decide_eq_true c27
                            clear c27
                            obtain ⟨ji28, hji28⟩ : ∃ j_ : Int, (wrap64 (x5_3 - 1)) = j_ := ⟨_, rfl⟩
                            replace H : (if 0 ≤ (ji28) then (if (ji28) < (((rd_T51 l0 x3_1).f3).length : Int) then (if (rd ((rd_T51 l0 x3_1).f3) (ji28)) ≥ (rd ((rd_T51 l0 x3_1).f3) x5_3) then (some false) else (spec_AreGrants.l1 k3 l0 x3_1 (wrap64 (x5_3 + 1)) ((rd_T51 l0 x3_1).f0) ((rd_T51 l0 x3_1).f1) ((rd_T51 l0 x3_1).f2) ((rd_T51 l0 x3_1).f3) ((rd_T51 l0 x3_1).f4) ((rd_T51 l0 x3_1).f5) ((rd_T51 l0 x3_1).f6))) else (none)) else (none)) = some r := by first | (rw [hji28] at H; exact H) | (simp only [hji28] at H ⊢; exact H)
                            (try rw [hji28] at A25)
                            have hji28w : (IntKind.i64.wrap (x5_3 - 1)) = ji28 := (i64_w _).trans hji28
                            by_cases c29 : 0 ≤ (ji28)
                            · rw [if_pos c29] at H
                              have c29b0 : decide (0 ≤ (ji28)) = true := decide_eq_true c29
                              clear c29
                              by_cases c30 : (ji28) < (((rd_T51 l0 x3_1).f3).length : Int)
                              · rw [if_pos c30] at H
                                have c30b0 : decide ((ji28) < (((rd_T51 l0 x3_1).f3).length : Int)) = true := decide_eq_true c30
                                clear c30
                                by_cases c31 : (rd ((rd_T51 l0 x3_1).f3) (ji28)) ≥ (rd ((rd_T51 l0 x3_1).f3) x5_3)
                                · rw [if_pos c31] at H
                                  have c31b0 : decide ((rd ((rd_T51 l0 x3_1).f3) x5_3) ≤ (rd ((rd_T51 l0 x3_1).f3) (ji28))) = true := decide_eq_true c31
                                  clear c31
                                  obtain rfl := Option.some.inj H
                                  have hcz32_0 : wr.cell? ⟨gb140, 0, none⟩ = some (.int .i64 ((rd_T51 l0 x3_1).f0)) := (blk_cell BK140.out 0).trans rfl
                                  have hcz32_1 : wr.cell? ⟨gb140, 1, none⟩ = some (.int .i64 ((rd_T51 l0 x3_1).f1)) := (blk_cell BK140.out 1).trans rfl
                                  have hcz32_2 : wr.cell? ⟨gb140, 2, none⟩ = some (.int .i64 ((rd_T51 l0 x3_1).f2)) := (blk_cell BK140.out 2).trans rfl
                                  have hcz32_3 : wr.cell? ⟨gb140, 3, none⟩ = some (.slice A139_3 ((rd_T51 l0 x3_1).f3).length c139_3) := (blk_cell BK140.out 3).trans rfl
                                  have hcz32_4 : wr.cell? ⟨gb140, 4, none⟩ = some (.int .i64 ((rd_T51 l0 x3_1).f4)) := (blk_cell BK140.out 4).trans rfl
                                  have hcz32_5 : wr.cell? ⟨gb140, 5, none⟩ = some (.int .i64 ((rd_T51 l0 x3_1).f5)) := (blk_cell BK140.out 5).trans rfl
                                  have hcz32_6 : wr.cell? ⟨gb140, 6, none⟩ = some (.bool ((rd_T51 l0 x3_1).f6)) := (blk_cell BK140.out 6).trans rfl
                                  have hfz32_0 := blk_frozen BK140.out 0
                                  have hfz32_1 := blk_frozen BK140.out 1
                                  have hfz32_2 := blk_frozen BK140.out 2
                                  have hfz32_3 := blk_frozen BK140.out 3
                                  have hfz32_4 := blk_frozen BK140.out 4
                                  have hfz32_5 := blk_frozen BK140.out 5
                                  have hfz32_6 := blk_frozen BK140.out 6
                                  have p145 : 0 ≤ (x5_3 : Int) := of_decide_eq_true (by first | (with_reducible assumption) | assumption)
                                  have q145 : x5_3 < (((rd_T51 l0 x3_1).f3).length : Int) := of_decide_eq_true (by first | (with_reducible assumption) | assumption)
                                  obtain ⟨ad145, e145, hx145_0⟩ := Kd.at_int HR139_3.out x5_3 p145 q145
                                  cases e145
                                  replace hx145_0 := (HB.out.cell (World.block_lt_of_cell? w _ hx145_0)).trans hx145_0
                                  replace p145 := eq_true p145
                                  replace q145 := eq_true q145
                                  go_wp2_with (first | (go_at_call 96; (with_reducible refine (spec_l1In.calls (rd ((rd_T51 l0 x3_1).f3) x5_3) 0 5 true _ A25.out).mono ?_); rintro e w' ⟨rfl, ⟨nd, rfl⟩⟩; (try first | exact ⟨rfl, _, World.drewN_drewN _ _ _⟩ | exact ⟨rfl, _, Eq.trans (World.drewN_drewN _ _ _) (congrArg (World.drewN _) (Nat.add_assoc _ _ _))⟩); have p147 : 0 ≤ ((ji28) : Int) := of_decide_eq_true (by first | (with_reducible assumption) | assumption); have q147 : (ji28) < (((rd_T51 l0 x3_1).f3).length : Int) := of_decide_eq_true (by first | (with_reducible assumption) | assumption); obtain ⟨ad147, e147, hx147_0⟩ := Kd.at_int HR139_3.out (ji28) p147 q147; obtain rfl : ad145 = ad147 := (by injection e147); replace hx147_0 := (HB.out.cell (World.block_lt_of_cell? w _ hx147_0)).trans hx147_0; replace p147 := eq_true p147; replace q147 := eq_true q147; have p148 : 0 ≤ (x5_3 : Int) := of_decide_eq_true (by first | (with_reducible assumption) | assumption); have q148 : x5_3 < (((rd_T51 l0 x3_1).f3).length : Int) := of_decide_eq_true (by first | (with_reducible assumption) | assumption); obtain ⟨ad148, e148, hx148_0⟩ := Kd.at_int HR139_3.out x5_3 p148 q148; obtain rfl : ad145 = ad148 := (by injection e148); replace hx148_0 := (HB.out.cell (World.block_lt_of_cell? w _ hx148_0)).trans hx148_0; replace p148 := eq_true p148; replace q148 := eq_true q148))
                                  repeat (go_quiet (first | (go_at_call 96; (with_reducible refine (spec_l1In.calls (rd ((rd_T51 l0 x3_1).f3) x5_3) 0 5 true _ A25.out).mono ?_); rintro e w' ⟨rfl, ⟨nd, rfl⟩⟩; (try first | exact ⟨rfl, _, World.drewN_drewN _ _ _⟩ | exact ⟨rfl, _, Eq.trans (World.drewN_drewN _ _ _) (congrArg (World.drewN _) (Nat.add_assoc _ _ _))⟩); have p147 : 0 ≤ ((ji28) : Int) := of_decide_eq_true (by first | (with_reducible assumption) | assumption); have q147 : (ji28) < (((rd_T51 l0 x3_1).f3).length : Int) := of_decide_eq_true (by first | (with_reducible assumption) | assumption); obtain ⟨ad147, e147, hx147_0⟩ := Kd.at_int HR139_3.out (ji28) p147 q147; obtain rfl : ad145 = ad147 := (by injection e147); replace hx147_0 := (HB.out.cell (World.block_lt_of_cell? w _ hx147_0)).trans hx147_0; replace p147 := eq_true p147; replace q147 := eq_true q147; have p148 : 0 ≤ (x5_3 : Int) := of_decide_eq_true (by first | (with_reducible assumption) | assumption); have q148 : x5_3 < (((rd_T51 l0 x3_1).f3).length : Int) := of_decide_eq_true (by first | (with_reducible assumption) | assumption); obtain ⟨ad148, e148, hx148_0⟩ := Kd.at_int HR139_3.out x5_3 p148 q148; obtain rfl : ad145 = ad148 := (by injection e148); replace hx148_0 := (HB.out.cell (World.block_lt_of_cell? w _ hx148_0)).trans hx148_0; replace p148 := eq_true p148; replace q148 := eq_true q148)); try go_wp2_with (first | (go_at_call 96; (with_reducible refine (spec_l1In.calls (rd ((rd_T51 l0 x3_1).f3) x5_3) 0 5 true _ A25.out).mono ?_); rintro e w' ⟨rfl, ⟨nd, rfl⟩⟩; (try first | exact ⟨rfl, _, World.drewN_drewN _ _ _⟩ | exact ⟨rfl, _, Eq.trans (World.drewN_drewN _ _ _) (congrArg (World.drewN _) (Nat.add_assoc _ _ _))⟩); have p147 : 0 ≤ ((ji28) : Int) := of_decide_eq_true (by first | (with_reducible assumption) | assumption); have q147 : (ji28) < (((rd_T51 l0 x3_1).f3).length : Int) := of_decide_eq_true (by first | (with_reducible assumption) | assumption); obtain ⟨ad147, e147, hx147_0⟩ := Kd.at_int HR139_3.out (ji28) p147 q147; obtain rfl : ad145 = ad147 := (by injection e147); replace hx147_0 := (HB.out.cell (World.block_lt_of_cell? w _ hx147_0)).trans hx147_0; replace p147 := eq_true p147; replace q147 := eq_true q147; have p148 : 0 ≤ (x5_3 : Int) := of_decide_eq_true (by first | (with_reducible assumption) | assumption); have q148 : x5_3 < (((rd_T51 l0 x3_1).f3).length : Int) := of_decide_eq_true (by first | (with_reducible assumption) | assumption); obtain ⟨ad148, e148, hx148_0⟩ := Kd.at_int HR139_3.out x5_3 p148 q148; obtain rfl : ad145 = ad148 := (by injection e148); replace hx148_0 := (HB.out.cell (World.block_lt_of_cell? w _ hx148_0)).trans hx148_0; replace p148 := eq_true p148; replace q148 := eq_true q148)))
                                  go_ret
                                  exact ⟨by first | rfl | (simp [errW_none, errW_some] <;> rfl) | (simp only [← hji28]; first | rfl | (simp [errW_none, errW_some] <;> rfl)) | (simp [*, errW_none, errW_some] <;> rfl), by repeat (first | (with_reducible first | exact HB.out | apply below_alloc | apply pw_below_drewN | apply below_drew1 | refine below_set ?_ GE140.out) | exact HB.out)⟩
                                · rw [if_neg c31] at H
                                  have c31b0 : decide ((rd ((rd_T51 l0 x3_1).f3) x5_3) ≤ (rd ((rd_T51 l0 x3_1).f3) (ji28))) = false := decide_eq_false c31
                                  clear c31
                                  have H' := Aside0.mk H
                                  clear H
                                  have hcz33_0 : wr.cell? ⟨gb140, 0, none⟩ = some (.int .i64 ((rd_T51 l0 x3_1).f0)) := (blk_cell BK140.out 0).trans rfl
                                  have hcz33_1 : wr.cell? ⟨gb140, 1, none⟩ = some (.int .i64 ((rd_T51 l0 x3_1).f1)) := (blk_cell BK140.out 1).trans rfl
                                  have hcz33_2 : wr.cell? ⟨gb140, 2, none⟩ = some (.int .i64 ((rd_T51 l0 x3_1).f2)) := (blk_cell BK140.out 2).trans rfl
                                  have hcz33_3 : wr.cell? ⟨gb140, 3, none⟩ = some (.slice A139_3 ((rd_T51 l0 x3_1).f3).length c139_3) := (blk_cell BK140.out 3).trans rfl
                                  have hcz33_4 : wr.cell? ⟨gb140, 4, none⟩ = some (.int .i64 ((rd_T51 l0 x3_1).f4)) := (blk_cell BK140.out 4).trans rfl
                                  have hcz33_5 : wr.cell? ⟨gb140, 5, none⟩ = some (.int .i64 ((rd_T51 l0 x3_1).f5)) := (blk_cell BK140.out 5).trans rfl
                                  have hcz33_6 : wr.cell? ⟨gb140, 6, none⟩ = some (.bool ((rd_T51 l0 x3_1).f6)) := (blk_cell BK140.out 6).trans rfl
                                  have hfz33_0 := blk_frozen BK140.out 0
                                  have hfz33_1 := blk_frozen BK140.out 1
                                  have hfz33_2 := blk_frozen BK140.out 2
                                  have hfz33_3 := blk_frozen BK140.out 3
                                  have hfz33_4 := blk_frozen BK140.out 4
                                  have hfz33_5 := blk_frozen BK140.out 5
                                  have hfz33_6 := blk_frozen BK140.out 6
                                  have p145 : 0 ≤ (x5_3 : Int) := of_decide_eq_true (by first | (with_reducible assumption) | assumption)
                                  have q145 : x5_3 < (((rd_T51 l0 x3_1).f3).length : Int) := of_decide_eq_true (by first | (with_reducible assumption) | assumption)
                                  obtain ⟨ad145, e145, hx145_0⟩ := Kd.at_int HR139_3.out x5_3 p145 q145
                                  cases e145
                                  replace hx145_0 := (HB.out.cell (World.block_lt_of_cell? w _ hx145_0)).trans hx145_0
                                  replace p145 := eq_true p145
                                  replace q145 := eq_true q145
                                  go_wp2_with (first | (go_at_call 96; (with_reducible refine (spec_l1In.calls (rd ((rd_T51 l0 x3_1).f3) x5_3) 0 5 true _ A25.out).mono ?_); rintro e w' ⟨rfl, ⟨nd, rfl⟩⟩; (try first | exact ⟨rfl, _, World.drewN_drewN _ _ _⟩ | exact ⟨rfl, _, Eq.trans (World.drewN_drewN _ _ _) (congrArg (World.drewN _) (Nat.add_assoc _ _ _))⟩); have p147 : 0 ≤ ((ji28) : Int) := of_decide_eq_true (by first | (with_reducible assumption) | assumption); have q147 : (ji28) < (((rd_T51 l0 x3_1).f3).length : Int) := of_decide_eq_true (by first | (with_reducible assumption) | assumption); obtain ⟨ad147, e147, hx147_0⟩ := Kd.at_int HR139_3.out (ji28) p147 q147; obtain rfl : ad145 = ad147 := (by injection e147); replace hx147_0 := (HB.out.cell (World.block_lt_of_cell? w _ hx147_0)).trans hx147_0; replace p147 := eq_true p147; replace q147 := eq_true q147; have p148 : 0 ≤ (x5_3 : Int) := of_decide_eq_true (by first | (with_reducible assumption) | assumption); have q148 : x5_3 < (((rd_T51 l0 x3_1).f3).length : Int) := of_decide_eq_true (by first | (with_reducible assumption) | assumption); obtain ⟨ad148, e148, hx148_0⟩ := Kd.at_int HR139_3.out x5_3 p148 q148; obtain rfl : ad145 = ad148 := (by injection e148); replace hx148_0 := (HB.out.cell (World.block_lt_of_cell? w _ hx148_0)).trans hx148_0; replace p148 := eq_true p148; replace q148 := eq_true q148))
                                  repeat (go_quiet (first | (go_at_call 96; (with_reducible refine (spec_l1In.calls (rd ((rd_T51 l0 x3_1).f3) x5_3) 0 5 true _ A25.out).mono ?_); rintro e w' ⟨rfl, ⟨nd, rfl⟩⟩; (try first | exact ⟨rfl, _, World.drewN_drewN _ _ _⟩ | exact ⟨rfl, _, Eq.trans (World.drewN_drewN _ _ _) (congrArg (World.drewN _) (Nat.add_assoc _ _ _))⟩); have p147 : 0 ≤ ((ji28) : Int) := of_decide_eq_true (by first | (with_reducible assumption) | assumption); have q147 : (ji28) < (((rd_T51 l0 x3_1).f3).length : Int) := of_decide_eq_true (by first | (with_reducible assumption) | assumption); obtain ⟨ad147, e147, hx147_0⟩ := Kd.at_int HR139_3.out (ji28) p147 q147; obtain rfl : ad145 = ad147 := (by injection e147); replace hx147_0 := (HB.out.cell (World.block_lt_of_cell? w _ hx147_0)).trans hx147_0; replace p147 := eq_true p147; replace q147 := eq_true q147; have p148 : 0 ≤ (x5_3 : Int) := of_decide_eq_true (by first | (with_reducible assumption) | assumption); have q148 : x5_3 < (((rd_T51 l0 x3_1).f3).length : Int) := of_decide_eq_true (by first | (with_reducible assumption) | assumption); obtain ⟨ad148, e148, hx148_0⟩ := Kd.at_int HR139_3.out x5_3 p148 q148; obtain rfl : ad145 = ad148 := (by injection e148); replace hx148_0 := (HB.out.cell (World.block_lt_of_cell? w _ hx148_0)).trans hx148_0; replace p148 := eq_true p148; replace q148 := eq_true q148)); try go_wp2_with (first | (go_at_call 96; (with_reducible refine (spec_l1In.calls (rd ((rd_T51 l0 x3_1).f3) x5_3) 0 5 true _ A25.out).mono ?_); rintro e w' ⟨rfl, ⟨nd, rfl⟩⟩; (try first | exact ⟨rfl, _, World.drewN_drewN _ _ _⟩ | exact ⟨rfl, _, Eq.trans (World.drewN_drewN _ _ _) (congrArg (World.drewN _) (Nat.add_assoc _ _ _))⟩); have p147 : 0 ≤ ((ji28) : Int) := of_decide_eq_true (by first | (with_reducible assumption) | assumption); have q147 : (ji28) < (((rd_T51 l0 x3_1).f3).length : Int) := of_decide_eq_true (by first | (with_reducible assumption) | assumption); obtain ⟨ad147, e147, hx147_0⟩ := Kd.at_int HR139_3.out (ji28) p147 q147; obtain rfl : ad145 = ad147 := (by injection e147); replace hx147_0 := (HB.out.cell (World.block_lt_of_cell? w _ hx147_0)).trans hx147_0; replace p147 := eq_true p147; replace q147 := eq_true q147; have p148 : 0 ≤ (x5_3 : Int) := of_decide_eq_true (by first | (with_reducible assumption) | assumption); have q148 : x5_3 < (((rd_T51 l0 x3_1).f3).length : Int) := of_decide_eq_true (by first | (with_reducible assumption) | assumption); obtain ⟨ad148, e148, hx148_0⟩ := Kd.at_int HR139_3.out x5_3 p148 q148; obtain rfl : ad145 = ad148 := (by injection e148); replace hx148_0 := (HB.out.cell (World.block_lt_of_cell? w _ hx148_0)).trans hx148_0; replace p148 := eq_true p148; replace q148 := eq_true q148)))
                                  go_roundg k3
                                  case measure => have := HK1.out; have := HJ3.out; have := HK3.out; omega
                                  case rel => exact ⟨(wrap64 (x5_3 + 1)), (by first | rfl | (simp; done) | (simp [*]; done)), H', ⟨by have := HK1.out; have := HJ3.out; have := HK3.out; omega⟩, ⟨by (with_reducible repeat (first | refine blk_drewN ?_ _ | refine blk_drew ?_ | refine blk_alloc ?_ _)); exact BK140.out⟩, ⟨by repeat (first | (with_reducible first | exact HB.out | apply below_alloc | apply pw_below_drewN | apply below_drew1 | refine below_set ?_ GE140.out) | exact HB.out)⟩⟩
                              · rw [if_neg c30] at H
                                exact absurd H (by simp)
                            · rw [if_neg c29] at H
                              exact absurd H (by simp)
                          · rw [if_neg c27] at H
                            have c27b0 : decide (0 < x5_3) = false := decide_eq_false c27
                            clear c27
                            have H' := Aside0.mk H
                            clear H
                            have hcz34_0 : wr.cell? ⟨gb140, 0, none⟩ = some (.int .i64 ((rd_T51 l0 x3_1).f0)) := (blk_cell BK140.out 0).trans rfl
                            have hcz34_1 : wr.cell? ⟨gb140, 1, none⟩ = some (.int .i64 ((rd_T51 l0 x3_1).f1)) := (blk_cell BK140.out 1).trans rfl
                            have hcz34_2 : wr.cell? ⟨gb140, 2, none⟩ = some (.int .i64 ((rd_T51 l0 x3_1).f2)) := (blk_cell BK140.out 2).trans rfl
                            have hcz34_3 : wr.cell? ⟨gb140, 3, none⟩ = some (.slice A139_3 ((rd_T51 l0 x3_1).f3).length c139_3) := (blk_cell BK140.out 3).trans rfl
                            have hcz34_4 : wr.cell? ⟨gb140, 4, none⟩ = some (.int .i64 ((rd_T51 l0 x3_1).f4)) := (blk_cell BK140.out 4).trans rfl
                            have hcz34_5 : wr.cell? ⟨gb140, 5, none⟩ = some (.int .i64 ((rd_T51 l0 x3_1).f5)) := (blk_cell BK140.out 5).trans rfl
                            have hcz34_6 : wr.cell? ⟨gb140, 6, none⟩ = some (.bool ((rd_T51 l0 x3_1).f6)) := (blk_cell BK140.out 6).trans rfl
                            have hfz34_0 := blk_frozen BK140.out 0
                            have hfz34_1 := blk_frozen BK140.out 1
                            have hfz34_2 := blk_frozen BK140.out 2
                            have hfz34_3 := blk_frozen BK140.out 3
                            have hfz34_4 := blk_frozen BK140.out 4
                            have hfz34_5 := blk_frozen BK140.out 5
                            have hfz34_6 := blk_frozen BK140.out 6
                            have p145 : 0 ≤ (x5_3 : Int) := of_decide_eq_true (by first | (with_reducible assumption) | assumption)
                            have q145 : x5_3 < (((rd_T51 l0 x3_1).f3).length : Int) := of_decide_eq_true (by first | (with_reducible assumption) | assumption)
                            obtain ⟨ad145, e145, hx145_0⟩ := Kd.at_int HR139_3.out x5_3 p145 q145
                            cases e145
                            replace hx145_0 := (HB.out.cell (World.block_lt_of_cell? w _ hx145_0)).trans hx145_0
                            replace p145 := eq_true p145
                            replace q145 := eq_true q145
                            go_wp2_with (first | (go_at_call 96; (with_reducible refine (spec_l1In.calls (rd ((rd_T51 l0 x3_1).f3) x5_3) 0 5 true _ A25.out).mono ?_); rintro e w' ⟨rfl, ⟨nd, rfl⟩⟩; (try first | exact ⟨rfl, _, World.drewN_drewN _ _ _⟩ | exact ⟨rfl, _, Eq.trans (World.drewN_drewN _ _ _) (congrArg (World.drewN _) (Nat.add_assoc _ _ _))⟩)))
                            repeat (go_quiet (first | (go_at_call 96; (with_reducible refine (spec_l1In.calls (rd ((rd_T51 l0 x3_1).f3) x5_3) 0 5 true _ A25.out).mono ?_); rintro e w' ⟨rfl, ⟨nd, rfl⟩⟩; (try first | exact ⟨rfl, _, World.drewN_drewN _ _ _⟩ | exact ⟨rfl, _, Eq.trans (World.drewN_drewN _ _ _) (congrArg (World.drewN _) (Nat.add_assoc _ _ _))⟩))); try go_wp2_with (first | (go_at_call 96; (with_reducible refine (spec_l1In.calls (rd ((rd_T51 l0 x3_1).f3) x5_3) 0 5 true _ A25.out).mono ?_); rintro e w' ⟨rfl, ⟨nd, rfl⟩⟩; (try first | exact ⟨rfl, _, World.drewN_drewN _ _ _⟩ | exact ⟨rfl, _, Eq.trans (World.drewN_drewN _ _ _) (congrArg (World.drewN _) (Nat.add_assoc _ _ _))⟩))))
                            go_roundg k3
                            case measure => have := HK1.out; have := HJ3.out; have := HK3.out; omega
                            case rel => exact ⟨(wrap64 (x5_3 + 1)), (by first | rfl | (simp; done) | (simp [*]; done)), H', ⟨by have := HK1.out; have := HJ3.out; have := HK3.out; omega⟩, ⟨by (with_reducible repeat (first | refine blk_drewN ?_ _ | refine blk_drew ?_ | refine blk_alloc ?_ _)); exact BK140.out⟩, ⟨by repeat (first | (with_reducible first | exact HB.out | apply below_alloc | apply pw_below_drewN | apply below_drew1 | refine below_set ?_ GE140.out) | exact HB.out)⟩⟩
                        · replace c26 := Bool.eq_false_iff.mpr c26
                          subst c26
                          have H1 : (some false) = some r := by rw [if_neg (show ¬ (false = true) by decide)] at H; exact H
                          clear H
                          have H := H1
                          clear H1
                          obtain rfl := Option.some.inj H
                          have hcz35_0 : wr.cell? ⟨gb140, 0, none⟩ = some (.int .i64 ((rd_T51 l0 x3_1).f0)) := (blk_cell BK140.out 0).trans rfl
                          have hcz35_1 : wr.cell? ⟨gb140, 1, none⟩ = some (.int .i64 ((rd_T51 l0 x3_1).f1)) := (blk_cell BK140.out 1).trans rfl
                          have hcz35_2 : wr.cell? ⟨gb140, 2, none⟩ = some (.int .i64 ((rd_T51 l0 x3_1).f2)) := (blk_cell BK140.out 2).trans rfl
                          have hcz35_3 : wr.cell? ⟨gb140, 3, none⟩ = some (.slice A139_3 ((rd_T51 l0 x3_1).f3).length c139_3) := (blk_cell BK140.out 3).trans rfl
                          have hcz35_4 : wr.cell? ⟨gb140, 4, none⟩ = some (.int .i64 ((rd_T51 l0 x3_1).f4)) := (blk_cell BK140.out 4).trans rfl
                          have hcz35_5 : wr.cell? ⟨gb140, 5, none⟩ = some (.int .i64 ((rd_T51 l0 x3_1).f5)) := (blk_cell BK140.out 5).trans rfl
                          have hcz35_6 : wr.cell? ⟨gb140, 6, none⟩ = some (.bool ((rd_T51 l0 x3_1).f6)) := (blk_cell BK140.out 6).trans rfl
                          have hfz35_0 := blk_frozen BK140.out 0
                          have hfz35_1 := blk_frozen BK140.out 1
                          have hfz35_2 := blk_frozen BK140.out 2
                          have hfz35_3 := blk_frozen BK140.out 3
                          have hfz35_4 := blk_frozen BK140.out 4
                          have hfz35_5 := blk_frozen BK140.out 5
                          have hfz35_6 := blk_frozen BK140.out 6
                          have p145 : 0 ≤ (x5_3 : Int) := of_decide_eq_true (by first | (with_reducible assumption) | assumption)
                          have q145 : x5_3 < (((rd_T51 l0 x3_1).f3).length : Int) := of_decide_eq_true (by first | (with_reducible assumption) | assumption)
                          obtain ⟨ad145, e145, hx145_0⟩ := Kd.at_int HR139_3.out x5_3 p145 q145
                          cases e145
                          replace hx145_0 := (HB.out.cell (World.block_lt_of_cell? w _ hx145_0)).trans hx145_0
                          replace p145 := eq_true p145
                          replace q145 := eq_true q145
                          go_wp2_with (first | (go_at_call 96; (with_reducible refine (spec_l1In.calls (rd ((rd_T51 l0 x3_1).f3) x5_3) 0 5 false _ A25.out).mono ?_); rintro e w' ⟨rfl, ⟨nd, rfl⟩⟩; (try first | exact ⟨rfl, _, World.drewN_drewN _ _ _⟩ | exact ⟨rfl, _, Eq.trans (World.drewN_drewN _ _ _) (congrArg (World.drewN _) (Nat.add_assoc _ _ _))⟩)))
                          repeat (go_quiet (first | (go_at_call 96; (with_reducible refine (spec_l1In.calls (rd ((rd_T51 l0 x3_1).f3) x5_3) 0 5 false _ A25.out).mono ?_); rintro e w' ⟨rfl, ⟨nd, rfl⟩⟩; (try first | exact ⟨rfl, _, World.drewN_drewN _ _ _⟩ | exact ⟨rfl, _, Eq.trans (World.drewN_drewN _ _ _) (congrArg (World.drewN _) (Nat.add_assoc _ _ _))⟩))); try go_wp2_with (first | (go_at_call 96; (with_reducible refine (spec_l1In.calls (rd ((rd_T51 l0 x3_1).f3) x5_3) 0 5 false _ A25.out).mono ?_); rintro e w' ⟨rfl, ⟨nd, rfl⟩⟩; (try first | exact ⟨rfl, _, World.drewN_drewN _ _ _⟩ | exact ⟨rfl, _, Eq.trans (World.drewN_drewN _ _ _) (congrArg (World.drewN _) (Nat.add_assoc _ _ _))⟩))))
                          go_ret
                          exact ⟨by first | rfl | (simp [errW_none, errW_some] <;> rfl) | (simp [*, errW_none, errW_some] <;> rfl), by repeat (first | (with_reducible first | exact HB.out | apply below_alloc | apply pw_below_drewN | apply below_drew1 | refine below_set ?_ GE140.out) | exact HB.out)⟩
                      · rw [if_neg c24] at H
                        exact absurd H (by simp)
                    · rw [if_neg c23] at H
                      have c23b0 : decide (x5_3 < (((rd_T51 l0 x3_1).f3).length : Int)) = false := decide_eq_false c23
                      clear c23
                      have H' := Aside0.mk H
                      clear H
                      have hcz36_0 : wr.cell? ⟨gb140, 0, none⟩ = some (.int .i64 ((rd_T51 l0 x3_1).f0)) := (blk_cell BK140.out 0).trans rfl
                      have hcz36_1 : wr.cell? ⟨gb140, 1, none⟩ = some (.int .i64 ((rd_T51 l0 x3_1).f1)) := (blk_cell BK140.out 1).trans rfl
                      have hcz36_2 : wr.cell? ⟨gb140, 2, none⟩ = some (.int .i64 ((rd_T51 l0 x3_1).f2)) := (blk_cell BK140.out 2).trans rfl
                      have hcz36_3 : wr.cell? ⟨gb140, 3, none⟩ = some (.slice A139_3 ((rd_T51 l0 x3_1).f3).length c139_3) := (blk_cell BK140.out 3).trans rfl
                      have hcz36_4 : wr.cell? ⟨gb140, 4, none⟩ = some (.int .i64 ((rd_T51 l0 x3_1).f4)) := (blk_cell BK140.out 4).trans rfl
                      have hcz36_5 : wr.cell? ⟨gb140, 5, none⟩ = some (.int .i64 ((rd_T51 l0 x3_1).f5)) := (blk_cell BK140.out 5).trans rfl
                      have hcz36_6 : wr.cell? ⟨gb140, 6, none⟩ = some (.bool ((rd_T51 l0 x3_1).f6)) := (blk_cell BK140.out 6).trans rfl
                      have hfz36_0 := blk_frozen BK140.out 0
                      have hfz36_1 := blk_frozen BK140.out 1
                      have hfz36_2 := blk_frozen BK140.out 2
                      have hfz36_3 := blk_frozen BK140.out 3
                      have hfz36_4 := blk_frozen BK140.out 4
                      have hfz36_5 := blk_frozen BK140.out 5
                      have hfz36_6 := blk_frozen BK140.out 6
                      go_wp2
                      repeat (go_quiet (fail); try go_wp2)
                      go_roundg k3
                      case measure => have := HK1.out; have := HJ3.out; have := HK3.out; omega
                      case rel => exact ⟨(wrap64 (x3_1 + 1)), (by first | rfl | (simp; done) | (simp [*]; done)), H', ⟨by have := HK1.out; have := HJ3.out; have := HK3.out; omega⟩, ⟨by repeat (first | (with_reducible first | exact HB.out | apply below_alloc | apply pw_below_drewN | apply below_drew1 | refine below_set ?_ GE140.out) | exact HB.out)⟩⟩
        · rw [if_neg c3] at H
          exact absurd H (by simp)
      · rw [if_neg c2] at H
        have c2b0 : decide (x3_1 < (l0.length : Int)) = false := decide_eq_false c2
        clear c2
        obtain rfl := Option.some.inj H
        go_wp2
        repeat (go_quiet (fail); try go_wp2)
        go_ret
        exact ⟨by first | rfl | (simp [errW_none, errW_some] <;> rfl) | (simp [*, errW_none, errW_some] <;> rfl), by repeat (first | (with_reducible first | exact HB.out | apply below_alloc | apply pw_below_drewN | apply below_drew1) | exact HB.out)⟩

end Go.Proofs.Ytplfbjbbnjlnkaa.QFnExactMayActFor
