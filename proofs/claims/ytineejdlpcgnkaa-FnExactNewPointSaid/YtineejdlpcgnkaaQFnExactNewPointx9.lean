/- The machine side of FnExactNewPoint: what each function that it reaches computes, and that the machine's call gives just that. -/
import Derived.Test.YtineejdlpcgnkaaQFnExactNewPointx0
import Derived.Test.YtineejdlpcgnkaaQFnExactNewPointx4
import Derived.Test.YtineejdlpcgnkaaQFnExactNewPointx5
import Derived.Test.YtineejdlpcgnkaaQFnExactNewPointx7
import Derived.Test.YtineejdlpcgnkaaQFnExactNewPointx8
namespace Go.Proofs.Ytineejdlpcgnkaa.QFnExactNewPoint
open Go.RowKit Go.Proofs.YtineejdlpcgnkaaW.PrintWords Go.Proofs.YtineejdlpcgnkaaW.PrintLast Go.Proofs.YtineejdlpcgnkaaW.PrintMore
attribute [local go_sem] max2_int min2_int max_two min_two max_three min_three max_four min_four   -- for this text's walks alone
set_option linter.unusedVariables false
set_option linter.unusedSimpArgs false

/-! ### laws_heldPoint: function 24 -/
def laws_heldPoint.f (k : Nat) (a0_0 : Int) (a0_1 : Int) (a0_2 : Int) (l0_3 : List (S149)) (a0_4 : Int) (l0_5 : List (S174)) (l0_6 : List (S132)) (l0_7 : List (S99)) (a0_8 : Int) (l0_9 : List (S103)) (a1 : Int) : Option (Int) := (laws_heldEpoch.f k a0_1 a0_2 l0_3 a0_4 l0_5 a1).bind fun t206 => (if t206 < 0 then (some (-1)) else ((laws_heldFactS.f k l0_6 t206).bind fun t207 => (if t207 < 0 then (some (-1)) else ((laws_heldRevokedS.f k l0_7 t207).bind fun t208 => (if t208 < 0 then (some (-1)) else ((laws_heldSavedS.f k l0_9 t208).bind fun t209 => (if t209 < 0 then (some (-1)) else (some t209))))))))
set_option maxHeartbeats 8000000 in
set_option maxRecDepth 100000 in
theorem laws_heldPoint.calls (k : Nat) (a0_0 : Int) (a0_1 : Int) (a0_2 : Int) (A0_3 : Option Addr) (c0_3 : Nat) (l0_3 : List (S149)) (a0_4 : Int) (A0_5 : Option Addr) (c0_5 : Nat) (l0_5 : List (S174)) (A0_6 : Option Addr) (c0_6 : Nat) (l0_6 : List (S132)) (A0_7 : Option Addr) (c0_7 : Nat) (l0_7 : List (S99)) (a0_8 : Int) (A0_9 : Option Addr) (c0_9 : Nat) (l0_9 : List (S103)) (a1 : Int) (r : Int) (w : World) (hr0_3 : Kd.C k149 w A0_3 l0_3.length l0_3) (hc0_3 : l0_3.length ≤ c0_3) (hr0_5 : Kd.C k174 w A0_5 l0_5.length l0_5) (hc0_5 : l0_5.length ≤ c0_5) (hr0_6 : Kd.C k132 w A0_6 l0_6.length l0_6) (hc0_6 : l0_6.length ≤ c0_6) (hr0_7 : Kd.C k99 w A0_7 l0_7.length l0_7) (hc0_7 : l0_7.length ≤ c0_7) (hr0_9 : Kd.C k103 w A0_9 l0_9.length l0_9) (hc0_9 : l0_9.length ≤ c0_9) (h : laws_heldPoint.f k a0_0 a0_1 a0_2 l0_3 a0_4 l0_5 l0_6 l0_7 a0_8 l0_9 a1 = some r) :
    Calls Try.prog 24 #[.agg #[.int .i64 a0_0, .int .i64 a0_1, .int .i64 a0_2, .slice A0_3 l0_3.length c0_3, .int .i64 a0_4, .slice A0_5 l0_5.length c0_5, .slice A0_6 l0_6.length c0_6, .slice A0_7 l0_7.length c0_7, .int .i64 a0_8, .slice A0_9 l0_9.length c0_9], .int .i64 a1] w fun e w' => e = .returned (.int .i64 r) ∧ Below w.heap.size w w' := by
  have hu45 := Try.underlying45
  have hu40 := Try.underlying40
  have HR0_3 := Aside0.mk hr0_3
  have HC0_3 := Aside0.mk hc0_3
  clear hr0_3 hc0_3
  have HR0_5 := Aside0.mk hr0_5
  have HC0_5 := Aside0.mk hc0_5
  clear hr0_5 hc0_5
  have HR0_6 := Aside0.mk hr0_6
  have HC0_6 := Aside0.mk hc0_6
  clear hr0_6 hc0_6
  have HR0_7 := Aside0.mk hr0_7
  have HC0_7 := Aside0.mk hc0_7
  clear hr0_7 hc0_7
  have HR0_9 := Aside0.mk hr0_9
  have HC0_9 := Aside0.mk hc0_9
  clear hr0_9 hc0_9
  have HB := Aside0.mk (Below.refl w.heap.size w)
  have H : ((laws_heldEpoch.f k a0_1 a0_2 l0_3 a0_4 l0_5 a1).bind fun t206 => (if t206 < 0 then (some (-1)) else ((laws_heldFactS.f k l0_6 t206).bind fun t207 => (if t207 < 0 then (some (-1)) else ((laws_heldRevokedS.f k l0_7 t207).bind fun t208 => (if t208 < 0 then (some (-1)) else ((laws_heldSavedS.f k l0_9 t208).bind fun t209 => (if t209 < 0 then (some (-1)) else (some t209))))))))) = some r := h
  clear h
  replace H := Option.bind_eq_some_iff.mp H
  obtain ⟨t206, A30, H⟩ := H
  replace H : (if t206 < 0 then (some (-1)) else ((laws_heldFactS.f k l0_6 t206).bind fun t207 => (if t207 < 0 then (some (-1)) else ((laws_heldRevokedS.f k l0_7 t207).bind fun t208 => (if t208 < 0 then (some (-1)) else ((laws_heldSavedS.f k l0_9 t208).bind fun t209 => (if t209 < 0 then (some (-1)) else (some t209)))))))) = some r := H
  have A3 := Aside0.mk A30
  clear A30
  by_cases c4 : t206 < 0
  · rw [if_pos c4] at H
    have c4b0 : decide (t206 < 0) = true := decide_eq_true c4
    clear c4
    obtain rfl := Option.some.inj H
    go_enter Try.func24, Try.ntmps24
    go_wp2_with (first | ((with_reducible refine gate_dst (N := 2) rfl ?_); refine box_event ?hg (N := 2) ?hd (cs := #[.int .i64 a0_0, .int .i64 a0_1, .int .i64 a0_2, .slice A0_3 l0_3.length c0_3, .int .i64 a0_4, .slice A0_5 l0_5.length c0_5, .slice A0_6 l0_6.length c0_6, .slice A0_7 l0_7.length c0_7, .int .i64 a0_8, .slice A0_9 l0_9.length c0_9]) (t := 45) ?hr ?_; (case hd => rfl); (case hg => rfl); (case hr => first | (go_simp; done) | (go_simp; rfl)); intro gb205 hg w5 hbox hb; have n0_ := Aside0.mk (below_step (by repeat (first | (with_reducible first | exact HB.out | apply below_alloc | apply pw_below_drewN | apply below_drew1) | exact HB.out)) hb); have n1_ := Aside0.mk (hbox); have n2_ := Aside0.mk ((by rw [hg]; exact (below_size (by repeat (first | (with_reducible first | exact HB.out | apply below_alloc | apply pw_below_drewN | apply below_drew1) | exact HB.out))) : w.heap.size ≤ gb205)); have n3_ := Aside0.mk ((by rw [hg]; exact (below_size (by repeat (first | (with_reducible first | exact HB.out | apply below_alloc | apply pw_below_drewN | apply below_drew1) | exact HB.out))) : w.heap.size ≤ gb205)); clear HB; have HB := n0_; have BK205 := n1_; have GW205 := n2_; have GE205 := n3_; clear n0_ n1_ n2_ n3_; clear hb hbox hg; have hcz6_0 : w5.cell? ⟨gb205, 0, none⟩ = some (.int .i64 a0_0) := (blk_cell BK205.out 0).trans rfl; have hcz6_1 : w5.cell? ⟨gb205, 1, none⟩ = some (.int .i64 a0_1) := (blk_cell BK205.out 1).trans rfl; have hcz6_2 : w5.cell? ⟨gb205, 2, none⟩ = some (.int .i64 a0_2) := (blk_cell BK205.out 2).trans rfl; have hcz6_3 : w5.cell? ⟨gb205, 3, none⟩ = some (.slice A0_3 l0_3.length c0_3) := (blk_cell BK205.out 3).trans rfl; have hcz6_4 : w5.cell? ⟨gb205, 4, none⟩ = some (.int .i64 a0_4) := (blk_cell BK205.out 4).trans rfl; have hcz6_5 : w5.cell? ⟨gb205, 5, none⟩ = some (.slice A0_5 l0_5.length c0_5) := (blk_cell BK205.out 5).trans rfl; have hcz6_6 : w5.cell? ⟨gb205, 6, none⟩ = some (.slice A0_6 l0_6.length c0_6) := (blk_cell BK205.out 6).trans rfl; have hcz6_7 : w5.cell? ⟨gb205, 7, none⟩ = some (.slice A0_7 l0_7.length c0_7) := (blk_cell BK205.out 7).trans rfl; have hcz6_8 : w5.cell? ⟨gb205, 8, none⟩ = some (.int .i64 a0_8) := (blk_cell BK205.out 8).trans rfl; have hcz6_9 : w5.cell? ⟨gb205, 9, none⟩ = some (.slice A0_9 l0_9.length c0_9) := (blk_cell BK205.out 9).trans rfl; have hfz6_0 := blk_frozen BK205.out 0; have hfz6_1 := blk_frozen BK205.out 1; have hfz6_2 := blk_frozen BK205.out 2; have hfz6_3 := blk_frozen BK205.out 3; have hfz6_4 := blk_frozen BK205.out 4; have hfz6_5 := blk_frozen BK205.out 5; have hfz6_6 := blk_frozen BK205.out 6; have hfz6_7 := blk_frozen BK205.out 7; have hfz6_8 := blk_frozen BK205.out 8; have hfz6_9 := blk_frozen BK205.out 9) | ((with_reducible refine gate_callee (f := 58) rfl ?_); refine goesL_ (some 8) rfl rfl Try.func58 (by kernel_rfl) rfl #[.agg #[.int .i64 a0_1, .int .i64 a0_2, .slice A0_3 l0_3.length c0_3, .int .i64 a0_4, .slice A0_5 l0_5.length c0_5], .int .i64 a1] rfl (by (try simp only [List.map_toArray, List.map_cons, List.map_nil]); first | done | rfl | (simp only [List.length_drop, List.length_take]; rfl)) ?_; (with_reducible refine (laws_heldEpoch.calls k a0_1 a0_2 _ _ l0_3 a0_4 _ _ l0_5 a1 t206 _ ?side1 ?side2 ?side3 ?side4 A3.out).mono ?_); (case side1 => repeat (first | exact (Kd.C_below HR0_3.out HB.out) | (with_reducible refine Kd.C_alloc ?_ _) | (with_reducible refine Kd.C_drewN ?_ _) | (with_reducible refine Kd.C_drew ?_))); (case side2 => exact HC0_3.out); (case side3 => repeat (first | exact (Kd.C_below HR0_5.out HB.out) | (with_reducible refine Kd.C_alloc ?_ _) | (with_reducible refine Kd.C_drewN ?_ _) | (with_reducible refine Kd.C_drew ?_))); (case side4 => exact HC0_5.out); rintro e w7 ⟨rfl, hb⟩; refine ⟨_, rfl, ?_⟩; have n0_ := Aside0.mk (blk_below (g := gb205) (o := .cells #[.int .i64 a0_0, .int .i64 a0_1, .int .i64 a0_2, .slice A0_3 l0_3.length c0_3, .int .i64 a0_4, .slice A0_5 l0_5.length c0_5, .slice A0_6 l0_6.length c0_6, .slice A0_7 l0_7.length c0_7, .int .i64 a0_8, .slice A0_9 l0_9.length c0_9] 45 (0, 0)) (by (with_reducible repeat (first | refine blk_drewN ?_ _ | refine blk_drew ?_ | refine blk_alloc ?_ _)); exact BK205.out) hb); have n1_ := Aside0.mk (below_step (by repeat (first | (with_reducible first | exact HB.out | apply below_alloc | apply pw_below_drewN | apply below_drew1 | refine below_set ?_ GE205.out) | exact HB.out)) hb); clear BK205; clear HB; have BK205 := n0_; have HB := n1_; clear n0_ n1_; (try clear hb); (try clear hb2); (try clear hk); (try clear hi)))
    go_ret
    exact ⟨by first | rfl | (simp [errW_none, errW_some] <;> rfl) | (simp [*, errW_none, errW_some] <;> rfl), by repeat (first | (with_reducible first | exact HB.out | apply below_alloc | apply pw_below_drewN | apply below_drew1 | refine below_set ?_ GE205.out) | exact HB.out)⟩
  · rw [if_neg c4] at H
    have c4b0 : decide (t206 < 0) = false := decide_eq_false c4
    clear c4
    replace H := Option.bind_eq_some_iff.mp H
    obtain ⟨t207, A80, H⟩ := H
    replace H : (if t207 < 0 then (some (-1)) else ((laws_heldRevokedS.f k l0_7 t207).bind fun t208 => (if t208 < 0 then (some (-1)) else ((laws_heldSavedS.f k l0_9 t208).bind fun t209 => (if t209 < 0 then (some (-1)) else (some t209)))))) = some r := H
    have A8 := Aside0.mk A80
    clear A80
    by_cases c9 : t207 < 0
    · rw [if_pos c9] at H
      have c9b0 : decide (t207 < 0) = true := decide_eq_true c9
      clear c9
      obtain rfl := Option.some.inj H
      go_enter Try.func24, Try.ntmps24
      go_wp2_with (first | ((with_reducible refine gate_dst (N := 2) rfl ?_); refine box_event ?hg (N := 2) ?hd (cs := #[.int .i64 a0_0, .int .i64 a0_1, .int .i64 a0_2, .slice A0_3 l0_3.length c0_3, .int .i64 a0_4, .slice A0_5 l0_5.length c0_5, .slice A0_6 l0_6.length c0_6, .slice A0_7 l0_7.length c0_7, .int .i64 a0_8, .slice A0_9 l0_9.length c0_9]) (t := 45) ?hr ?_; (case hd => rfl); (case hg => rfl); (case hr => first | (go_simp; done) | (go_simp; rfl)); intro gb205 hg w10 hbox hb; have n0_ := Aside0.mk (below_step (by repeat (first | (with_reducible first | exact HB.out | apply below_alloc | apply pw_below_drewN | apply below_drew1) | exact HB.out)) hb); have n1_ := Aside0.mk (hbox); have n2_ := Aside0.mk ((by rw [hg]; exact (below_size (by repeat (first | (with_reducible first | exact HB.out | apply below_alloc | apply pw_below_drewN | apply below_drew1) | exact HB.out))) : w.heap.size ≤ gb205)); have n3_ := Aside0.mk ((by rw [hg]; exact (below_size (by repeat (first | (with_reducible first | exact HB.out | apply below_alloc | apply pw_below_drewN | apply below_drew1) | exact HB.out))) : w.heap.size ≤ gb205)); clear HB; have HB := n0_; have BK205 := n1_; have GW205 := n2_; have GE205 := n3_; clear n0_ n1_ n2_ n3_; clear hb hbox hg; have hcz11_0 : w10.cell? ⟨gb205, 0, none⟩ = some (.int .i64 a0_0) := (blk_cell BK205.out 0).trans rfl; have hcz11_1 : w10.cell? ⟨gb205, 1, none⟩ = some (.int .i64 a0_1) := (blk_cell BK205.out 1).trans rfl; have hcz11_2 : w10.cell? ⟨gb205, 2, none⟩ = some (.int .i64 a0_2) := (blk_cell BK205.out 2).trans rfl; have hcz11_3 : w10.cell? ⟨gb205, 3, none⟩ = some (.slice A0_3 l0_3.length c0_3) := (blk_cell BK205.out 3).trans rfl; have hcz11_4 : w10.cell? ⟨gb205, 4, none⟩ = some (.int .i64 a0_4) := (blk_cell BK205.out 4).trans rfl; have hcz11_5 : w10.cell? ⟨gb205, 5, none⟩ = some (.slice A0_5 l0_5.length c0_5) := (blk_cell BK205.out 5).trans rfl; have hcz11_6 : w10.cell? ⟨gb205, 6, none⟩ = some (.slice A0_6 l0_6.length c0_6) := (blk_cell BK205.out 6).trans rfl; have hcz11_7 : w10.cell? ⟨gb205, 7, none⟩ = some (.slice A0_7 l0_7.length c0_7) := (blk_cell BK205.out 7).trans rfl; have hcz11_8 : w10.cell? ⟨gb205, 8, none⟩ = some (.int .i64 a0_8) := (blk_cell BK205.out 8).trans rfl; have hcz11_9 : w10.cell? ⟨gb205, 9, none⟩ = some (.slice A0_9 l0_9.length c0_9) := (blk_cell BK205.out 9).trans rfl; have hfz11_0 := blk_frozen BK205.out 0; have hfz11_1 := blk_frozen BK205.out 1; have hfz11_2 := blk_frozen BK205.out 2; have hfz11_3 := blk_frozen BK205.out 3; have hfz11_4 := blk_frozen BK205.out 4; have hfz11_5 := blk_frozen BK205.out 5; have hfz11_6 := blk_frozen BK205.out 6; have hfz11_7 := blk_frozen BK205.out 7; have hfz11_8 := blk_frozen BK205.out 8; have hfz11_9 := blk_frozen BK205.out 9) | ((with_reducible refine gate_callee (f := 58) rfl ?_); refine goesL_ (some 8) rfl rfl Try.func58 (by kernel_rfl) rfl #[.agg #[.int .i64 a0_1, .int .i64 a0_2, .slice A0_3 l0_3.length c0_3, .int .i64 a0_4, .slice A0_5 l0_5.length c0_5], .int .i64 a1] rfl (by (try simp only [List.map_toArray, List.map_cons, List.map_nil]); first | done | rfl | (simp only [List.length_drop, List.length_take]; rfl)) ?_; (with_reducible refine (laws_heldEpoch.calls k a0_1 a0_2 _ _ l0_3 a0_4 _ _ l0_5 a1 t206 _ ?side1 ?side2 ?side3 ?side4 A3.out).mono ?_); (case side1 => repeat (first | exact (Kd.C_below HR0_3.out HB.out) | (with_reducible refine Kd.C_alloc ?_ _) | (with_reducible refine Kd.C_drewN ?_ _) | (with_reducible refine Kd.C_drew ?_))); (case side2 => exact HC0_3.out); (case side3 => repeat (first | exact (Kd.C_below HR0_5.out HB.out) | (with_reducible refine Kd.C_alloc ?_ _) | (with_reducible refine Kd.C_drewN ?_ _) | (with_reducible refine Kd.C_drew ?_))); (case side4 => exact HC0_5.out); rintro e w12 ⟨rfl, hb⟩; refine ⟨_, rfl, ?_⟩; have n0_ := Aside0.mk (blk_below (g := gb205) (o := .cells #[.int .i64 a0_0, .int .i64 a0_1, .int .i64 a0_2, .slice A0_3 l0_3.length c0_3, .int .i64 a0_4, .slice A0_5 l0_5.length c0_5, .slice A0_6 l0_6.length c0_6, .slice A0_7 l0_7.length c0_7, .int .i64 a0_8, .slice A0_9 l0_9.length c0_9] 45 (0, 0)) (by (with_reducible repeat (first | refine blk_drewN ?_ _ | refine blk_drew ?_ | refine blk_alloc ?_ _)); exact BK205.out) hb); have n1_ := Aside0.mk (below_step (by repeat (first | (with_reducible first | exact HB.out | apply below_alloc | apply pw_below_drewN | apply below_drew1 | refine below_set ?_ GE205.out) | exact HB.out)) hb); clear BK205; clear HB; have BK205 := n0_; have HB := n1_; clear n0_ n1_; (try clear hb); (try clear hb2); (try clear hk); (try clear hi); have hcz13_0 : w12.cell? ⟨gb205, 0, none⟩ = some (.int .i64 a0_0) := (blk_cell BK205.out 0).trans rfl; have hcz13_1 : w12.cell? ⟨gb205, 1, none⟩ = some (.int .i64 a0_1) := (blk_cell BK205.out 1).trans rfl; have hcz13_2 : w12.cell? ⟨gb205, 2, none⟩ = some (.int .i64 a0_2) := (blk_cell BK205.out 2).trans rfl; have hcz13_3 : w12.cell? ⟨gb205, 3, none⟩ = some (.slice A0_3 l0_3.length c0_3) := (blk_cell BK205.out 3).trans rfl; have hcz13_4 : w12.cell? ⟨gb205, 4, none⟩ = some (.int .i64 a0_4) := (blk_cell BK205.out 4).trans rfl; have hcz13_5 : w12.cell? ⟨gb205, 5, none⟩ = some (.slice A0_5 l0_5.length c0_5) := (blk_cell BK205.out 5).trans rfl; have hcz13_6 : w12.cell? ⟨gb205, 6, none⟩ = some (.slice A0_6 l0_6.length c0_6) := (blk_cell BK205.out 6).trans rfl; have hcz13_7 : w12.cell? ⟨gb205, 7, none⟩ = some (.slice A0_7 l0_7.length c0_7) := (blk_cell BK205.out 7).trans rfl; have hcz13_8 : w12.cell? ⟨gb205, 8, none⟩ = some (.int .i64 a0_8) := (blk_cell BK205.out 8).trans rfl; have hcz13_9 : w12.cell? ⟨gb205, 9, none⟩ = some (.slice A0_9 l0_9.length c0_9) := (blk_cell BK205.out 9).trans rfl; have hfz13_0 := blk_frozen BK205.out 0; have hfz13_1 := blk_frozen BK205.out 1; have hfz13_2 := blk_frozen BK205.out 2; have hfz13_3 := blk_frozen BK205.out 3; have hfz13_4 := blk_frozen BK205.out 4; have hfz13_5 := blk_frozen BK205.out 5; have hfz13_6 := blk_frozen BK205.out 6; have hfz13_7 := blk_frozen BK205.out 7; have hfz13_8 := blk_frozen BK205.out 8; have hfz13_9 := blk_frozen BK205.out 9) | ((with_reducible refine gate_callee (f := 59) rfl ?_); refine goesL_ (some 14) rfl rfl Try.func59 (by kernel_rfl) rfl #[.slice A0_6 l0_6.length c0_6, .int .i64 t206] rfl (by (try simp only [List.map_toArray, List.map_cons, List.map_nil]); first | done | rfl | (simp only [List.length_drop, List.length_take]; rfl)) ?_; (with_reducible refine (laws_heldFactS.calls k _ _ l0_6 t206 t207 _ ?side1 ?side2 A8.out).mono ?_); (case side1 => repeat (first | exact (Kd.C_below HR0_6.out HB.out) | (with_reducible refine Kd.C_alloc ?_ _) | (with_reducible refine Kd.C_drewN ?_ _) | (with_reducible refine Kd.C_drew ?_))); (case side2 => exact HC0_6.out); rintro e w' ⟨rfl, ⟨nd, rfl⟩⟩; refine ⟨_, rfl, ?_⟩))
      go_ret
      exact ⟨by first | rfl | (simp [errW_none, errW_some] <;> rfl) | (simp [*, errW_none, errW_some] <;> rfl), by repeat (first | (with_reducible first | exact HB.out | apply below_alloc | apply pw_below_drewN | apply below_drew1 | refine below_set ?_ GE205.out) | exact HB.out)⟩
    · rw [if_neg c9] at H
      have c9b0 : decide (t207 < 0) = false := decide_eq_false c9
      clear c9
      replace H := Option.bind_eq_some_iff.mp H
      obtain ⟨t208, A140, H⟩ := H
      replace H : (if t208 < 0 then (some (-1)) else ((laws_heldSavedS.f k l0_9 t208).bind fun t209 => (if t209 < 0 then (some (-1)) else (some t209)))) = some r := H
      have A14 := Aside0.mk A140
      clear A140
      by_cases c15 : t208 < 0
      · rw [if_pos c15] at H
        have c15b0 : decide (t208 < 0) = true := decide_eq_true c15
        clear c15
        obtain rfl := Option.some.inj H
        go_enter Try.func24, Try.ntmps24
        go_wp2_with (first | ((with_reducible refine gate_dst (N := 2) rfl ?_); refine box_event ?hg (N := 2) ?hd (cs := #[.int .i64 a0_0, .int .i64 a0_1, .int .i64 a0_2, .slice A0_3 l0_3.length c0_3, .int .i64 a0_4, .slice A0_5 l0_5.length c0_5, .slice A0_6 l0_6.length c0_6, .slice A0_7 l0_7.length c0_7, .int .i64 a0_8, .slice A0_9 l0_9.length c0_9]) (t := 45) ?hr ?_; (case hd => rfl); (case hg => rfl); (case hr => first | (go_simp; done) | (go_simp; rfl)); intro gb205 hg w16 hbox hb; have n0_ := Aside0.mk (below_step (by repeat (first | (with_reducible first | exact HB.out | apply below_alloc | apply pw_below_drewN | apply below_drew1) | exact HB.out)) hb); have n1_ := Aside0.mk (hbox); have n2_ := Aside0.mk ((by rw [hg]; exact (below_size (by repeat (first | (with_reducible first | exact HB.out | apply below_alloc | apply pw_below_drewN | apply below_drew1) | exact HB.out))) : w.heap.size ≤ gb205)); have n3_ := Aside0.mk ((by rw [hg]; exact (below_size (by repeat (first | (with_reducible first | exact HB.out | apply below_alloc | apply pw_below_drewN | apply below_drew1) | exact HB.out))) : w.heap.size ≤ gb205)); clear HB; have HB := n0_; have BK205 := n1_; have GW205 := n2_; have GE205 := n3_; clear n0_ n1_ n2_ n3_; clear hb hbox hg; have hcz17_0 : w16.cell? ⟨gb205, 0, none⟩ = some (.int .i64 a0_0) := (blk_cell BK205.out 0).trans rfl; have hcz17_1 : w16.cell? ⟨gb205, 1, none⟩ = some (.int .i64 a0_1) := (blk_cell BK205.out 1).trans rfl; have hcz17_2 : w16.cell? ⟨gb205, 2, none⟩ = some (.int .i64 a0_2) := (blk_cell BK205.out 2).trans rfl; have hcz17_3 : w16.cell? ⟨gb205, 3, none⟩ = some (.slice A0_3 l0_3.length c0_3) := (blk_cell BK205.out 3).trans rfl; have hcz17_4 : w16.cell? ⟨gb205, 4, none⟩ = some (.int .i64 a0_4) := (blk_cell BK205.out 4).trans rfl; have hcz17_5 : w16.cell? ⟨gb205, 5, none⟩ = some (.slice A0_5 l0_5.length c0_5) := (blk_cell BK205.out 5).trans rfl; have hcz17_6 : w16.cell? ⟨gb205, 6, none⟩ = some (.slice A0_6 l0_6.length c0_6) := (blk_cell BK205.out 6).trans rfl; have hcz17_7 : w16.cell? ⟨gb205, 7, none⟩ = some (.slice A0_7 l0_7.length c0_7) := (blk_cell BK205.out 7).trans rfl; have hcz17_8 : w16.cell? ⟨gb205, 8, none⟩ = some (.int .i64 a0_8) := (blk_cell BK205.out 8).trans rfl; have hcz17_9 : w16.cell? ⟨gb205, 9, none⟩ = some (.slice A0_9 l0_9.length c0_9) := (blk_cell BK205.out 9).trans rfl; have hfz17_0 := blk_frozen BK205.out 0; have hfz17_1 := blk_frozen BK205.out 1; have hfz17_2 := blk_frozen BK205.out 2; have hfz17_3 := blk_frozen BK205.out 3; have hfz17_4 := blk_frozen BK205.out 4; have hfz17_5 := blk_frozen BK205.out 5; have hfz17_6 := blk_frozen BK205.out 6; have hfz17_7 := blk_frozen BK205.out 7; have hfz17_8 := blk_frozen BK205.out 8; have hfz17_9 := blk_frozen BK205.out 9) | ((with_reducible refine gate_callee (f := 58) rfl ?_); refine goesL_ (some 8) rfl rfl Try.func58 (by kernel_rfl) rfl #[.agg #[.int .i64 a0_1, .int .i64 a0_2, .slice A0_3 l0_3.length c0_3, .int .i64 a0_4, .slice A0_5 l0_5.length c0_5], .int .i64 a1] rfl (by (try simp only [List.map_toArray, List.map_cons, List.map_nil]); first | done | rfl | (simp only [List.length_drop, List.length_take]; rfl)) ?_; (with_reducible refine (laws_heldEpoch.calls k a0_1 a0_2 _ _ l0_3 a0_4 _ _ l0_5 a1 t206 _ ?side1 ?side2 ?side3 ?side4 A3.out).mono ?_); (case side1 => repeat (first | exact (Kd.C_below HR0_3.out HB.out) | (with_reducible refine Kd.C_alloc ?_ _) | (with_reducible refine Kd.C_drewN ?_ _) | (with_reducible refine Kd.C_drew ?_))); (case side2 => exact HC0_3.out); (case side3 => repeat (first | exact (Kd.C_below HR0_5.out HB.out) | (with_reducible refine Kd.C_alloc ?_ _) | (with_reducible refine Kd.C_drewN ?_ _) | (with_reducible refine Kd.C_drew ?_))); (case side4 => exact HC0_5.out); rintro e w18 ⟨rfl, hb⟩; refine ⟨_, rfl, ?_⟩; have n0_ := Aside0.mk (blk_below (g := gb205) (o := .cells #[.int .i64 a0_0, .int .i64 a0_1, .int .i64 a0_2, .slice A0_3 l0_3.length c0_3, .int .i64 a0_4, .slice A0_5 l0_5.length c0_5, .slice A0_6 l0_6.length c0_6, .slice A0_7 l0_7.length c0_7, .int .i64 a0_8, .slice A0_9 l0_9.length c0_9] 45 (0, 0)) (by (with_reducible repeat (first | refine blk_drewN ?_ _ | refine blk_drew ?_ | refine blk_alloc ?_ _)); exact BK205.out) hb); have n1_ := Aside0.mk (below_step (by repeat (first | (with_reducible first | exact HB.out | apply below_alloc | apply pw_below_drewN | apply below_drew1 | refine below_set ?_ GE205.out) | exact HB.out)) hb); clear BK205; clear HB; have BK205 := n0_; have HB := n1_; clear n0_ n1_; (try clear hb); (try clear hb2); (try clear hk); (try clear hi); have hcz19_0 : w18.cell? ⟨gb205, 0, none⟩ = some (.int .i64 a0_0) := (blk_cell BK205.out 0).trans rfl; have hcz19_1 : w18.cell? ⟨gb205, 1, none⟩ = some (.int .i64 a0_1) := (blk_cell BK205.out 1).trans rfl; have hcz19_2 : w18.cell? ⟨gb205, 2, none⟩ = some (.int .i64 a0_2) := (blk_cell BK205.out 2).trans rfl; have hcz19_3 : w18.cell? ⟨gb205, 3, none⟩ = some (.slice A0_3 l0_3.length c0_3) := (blk_cell BK205.out 3).trans rfl; have hcz19_4 : w18.cell? ⟨gb205, 4, none⟩ = some (.int .i64 a0_4) := (blk_cell BK205.out 4).trans rfl; have hcz19_5 : w18.cell? ⟨gb205, 5, none⟩ = some (.slice A0_5 l0_5.length c0_5) := (blk_cell BK205.out 5).trans rfl; have hcz19_6 : w18.cell? ⟨gb205, 6, none⟩ = some (.slice A0_6 l0_6.length c0_6) := (blk_cell BK205.out 6).trans rfl; have hcz19_7 : w18.cell? ⟨gb205, 7, none⟩ = some (.slice A0_7 l0_7.length c0_7) := (blk_cell BK205.out 7).trans rfl; have hcz19_8 : w18.cell? ⟨gb205, 8, none⟩ = some (.int .i64 a0_8) := (blk_cell BK205.out 8).trans rfl; have hcz19_9 : w18.cell? ⟨gb205, 9, none⟩ = some (.slice A0_9 l0_9.length c0_9) := (blk_cell BK205.out 9).trans rfl; have hfz19_0 := blk_frozen BK205.out 0; have hfz19_1 := blk_frozen BK205.out 1; have hfz19_2 := blk_frozen BK205.out 2; have hfz19_3 := blk_frozen BK205.out 3; have hfz19_4 := blk_frozen BK205.out 4; have hfz19_5 := blk_frozen BK205.out 5; have hfz19_6 := blk_frozen BK205.out 6; have hfz19_7 := blk_frozen BK205.out 7; have hfz19_8 := blk_frozen BK205.out 8; have hfz19_9 := blk_frozen BK205.out 9) | ((with_reducible refine gate_callee (f := 59) rfl ?_); refine goesL_ (some 14) rfl rfl Try.func59 (by kernel_rfl) rfl #[.slice A0_6 l0_6.length c0_6, .int .i64 t206] rfl (by (try simp only [List.map_toArray, List.map_cons, List.map_nil]); first | done | rfl | (simp only [List.length_drop, List.length_take]; rfl)) ?_; (with_reducible refine (laws_heldFactS.calls k _ _ l0_6 t206 t207 _ ?side1 ?side2 A8.out).mono ?_); (case side1 => repeat (first | exact (Kd.C_below HR0_6.out HB.out) | (with_reducible refine Kd.C_alloc ?_ _) | (with_reducible refine Kd.C_drewN ?_ _) | (with_reducible refine Kd.C_drew ?_))); (case side2 => exact HC0_6.out); rintro e w' ⟨rfl, ⟨nd, rfl⟩⟩; refine ⟨_, rfl, ?_⟩) | ((with_reducible refine gate_callee (f := 60) rfl ?_); refine goesL_ (some 20) rfl rfl Try.func60 (by kernel_rfl) rfl #[.slice A0_7 l0_7.length c0_7, .int .i64 t207] rfl (by (try simp only [List.map_toArray, List.map_cons, List.map_nil]); first | done | rfl | (simp only [List.length_drop, List.length_take]; rfl)) ?_; (with_reducible refine (laws_heldRevokedS.calls k _ _ l0_7 t207 t208 _ ?side1 ?side2 A14.out).mono ?_); (case side1 => repeat (first | exact (Kd.C_below HR0_7.out (by repeat (first | (with_reducible first | exact HB.out | apply below_alloc | apply pw_below_drewN | apply below_drew1 | refine below_set ?_ GE205.out) | exact HB.out))) | (with_reducible refine Kd.C_alloc ?_ _) | (with_reducible refine Kd.C_drewN ?_ _) | (with_reducible refine Kd.C_drew ?_))); (case side2 => exact HC0_7.out); rintro e w' ⟨rfl, ⟨nd, rfl⟩⟩; refine ⟨_, rfl, ?_⟩))
        go_ret
        exact ⟨by first | rfl | (simp [errW_none, errW_some] <;> rfl) | (simp [*, errW_none, errW_some] <;> rfl), by repeat (first | (with_reducible first | exact HB.out | apply below_alloc | apply pw_below_drewN | apply below_drew1 | refine below_set ?_ GE205.out) | exact HB.out)⟩
      · rw [if_neg c15] at H
        have c15b0 : decide (t208 < 0) = false := decide_eq_false c15
        clear c15
        replace H := Option.bind_eq_some_iff.mp H
        obtain ⟨t209, A200, H⟩ := H
        replace H : (if t209 < 0 then (some (-1)) else (some t209)) = some r := H
        have A20 := Aside0.mk A200
        clear A200
        by_cases c21 : t209 < 0
        · rw [if_pos c21] at H
          have c21b0 : decide (t209 < 0) = true := decide_eq_true c21
          clear c21
          obtain rfl := Option.some.inj H
          go_enter Try.func24, Try.ntmps24
          go_wp2_with (first | ((with_reducible refine gate_dst (N := 2) rfl ?_); refine box_event ?hg (N := 2) ?hd (cs := #[.int .i64 a0_0, .int .i64 a0_1, .int .i64 a0_2, .slice A0_3 l0_3.length c0_3, .int .i64 a0_4, .slice A0_5 l0_5.length c0_5, .slice A0_6 l0_6.length c0_6, .slice A0_7 l0_7.length c0_7, .int .i64 a0_8, .slice A0_9 l0_9.length c0_9]) (t := 45) ?hr ?_; (case hd => rfl); (case hg => rfl); (case hr => first | (go_simp; done) | (go_simp; rfl)); intro gb205 hg w22 hbox hb; have n0_ := Aside0.mk (below_step (by repeat (first | (with_reducible first | exact HB.out | apply below_alloc | apply pw_below_drewN | apply below_drew1) | exact HB.out)) hb); have n1_ := Aside0.mk (hbox); have n2_ := Aside0.mk ((by rw [hg]; exact (below_size (by repeat (first | (with_reducible first | exact HB.out | apply below_alloc | apply pw_below_drewN | apply below_drew1) | exact HB.out))) : w.heap.size ≤ gb205)); have n3_ := Aside0.mk ((by rw [hg]; exact (below_size (by repeat (first | (with_reducible first | exact HB.out | apply below_alloc | apply pw_below_drewN | apply below_drew1) | exact HB.out))) : w.heap.size ≤ gb205)); clear HB; have HB := n0_; have BK205 := n1_; have GW205 := n2_; have GE205 := n3_; clear n0_ n1_ n2_ n3_; clear hb hbox hg; have hcz23_0 : w22.cell? ⟨gb205, 0, none⟩ = some (.int .i64 a0_0) := (blk_cell BK205.out 0).trans rfl; have hcz23_1 : w22.cell? ⟨gb205, 1, none⟩ = some (.int .i64 a0_1) := (blk_cell BK205.out 1).trans rfl; have hcz23_2 : w22.cell? ⟨gb205, 2, none⟩ = some (.int .i64 a0_2) := (blk_cell BK205.out 2).trans rfl; have hcz23_3 : w22.cell? ⟨gb205, 3, none⟩ = some (.slice A0_3 l0_3.length c0_3) := (blk_cell BK205.out 3).trans rfl; have hcz23_4 : w22.cell? ⟨gb205, 4, none⟩ = some (.int .i64 a0_4) := (blk_cell BK205.out 4).trans rfl; have hcz23_5 : w22.cell? ⟨gb205, 5, none⟩ = some (.slice A0_5 l0_5.length c0_5) := (blk_cell BK205.out 5).trans rfl; have hcz23_6 : w22.cell? ⟨gb205, 6, none⟩ = some (.slice A0_6 l0_6.length c0_6) := (blk_cell BK205.out 6).trans rfl; have hcz23_7 : w22.cell? ⟨gb205, 7, none⟩ = some (.slice A0_7 l0_7.length c0_7) := (blk_cell BK205.out 7).trans rfl; have hcz23_8 : w22.cell? ⟨gb205, 8, none⟩ = some (.int .i64 a0_8) := (blk_cell BK205.out 8).trans rfl; have hcz23_9 : w22.cell? ⟨gb205, 9, none⟩ = some (.slice A0_9 l0_9.length c0_9) := (blk_cell BK205.out 9).trans rfl; have hfz23_0 := blk_frozen BK205.out 0; have hfz23_1 := blk_frozen BK205.out 1; have hfz23_2 := blk_frozen BK205.out 2; have hfz23_3 := blk_frozen BK205.out 3; have hfz23_4 := blk_frozen BK205.out 4; have hfz23_5 := blk_frozen BK205.out 5; have hfz23_6 := blk_frozen BK205.out 6; have hfz23_7 := blk_frozen BK205.out 7; have hfz23_8 := blk_frozen BK205.out 8; have hfz23_9 := blk_frozen BK205.out 9) | ((with_reducible refine gate_callee (f := 58) rfl ?_); refine goesL_ (some 8) rfl rfl Try.func58 (by kernel_rfl) rfl #[.agg #[.int .i64 a0_1, .int .i64 a0_2, .slice A0_3 l0_3.length c0_3, .int .i64 a0_4, .slice A0_5 l0_5.length c0_5], .int .i64 a1] rfl (by (try simp only [List.map_toArray, List.map_cons, List.map_nil]); first | done | rfl | (simp only [List.length_drop, List.length_take]; rfl)) ?_; (with_reducible refine (laws_heldEpoch.calls k a0_1 a0_2 _ _ l0_3 a0_4 _ _ l0_5 a1 t206 _ ?side1 ?side2 ?side3 ?side4 A3.out).mono ?_); (case side1 => repeat (first | exact (Kd.C_below HR0_3.out HB.out) | (with_reducible refine Kd.C_alloc ?_ _) | (with_reducible refine Kd.C_drewN ?_ _) | (with_reducible refine Kd.C_drew ?_))); (case side2 => exact HC0_3.out); (case side3 => repeat (first | exact (Kd.C_below HR0_5.out HB.out) | (with_reducible refine Kd.C_alloc ?_ _) | (with_reducible refine Kd.C_drewN ?_ _) | (with_reducible refine Kd.C_drew ?_))); (case side4 => exact HC0_5.out); rintro e w24 ⟨rfl, hb⟩; refine ⟨_, rfl, ?_⟩; have n0_ := Aside0.mk (blk_below (g := gb205) (o := .cells #[.int .i64 a0_0, .int .i64 a0_1, .int .i64 a0_2, .slice A0_3 l0_3.length c0_3, .int .i64 a0_4, .slice A0_5 l0_5.length c0_5, .slice A0_6 l0_6.length c0_6, .slice A0_7 l0_7.length c0_7, .int .i64 a0_8, .slice A0_9 l0_9.length c0_9] 45 (0, 0)) (by (with_reducible repeat (first | refine blk_drewN ?_ _ | refine blk_drew ?_ | refine blk_alloc ?_ _)); exact BK205.out) hb); have n1_ := Aside0.mk (below_step (by repeat (first | (with_reducible first | exact HB.out | apply below_alloc | apply pw_below_drewN | apply below_drew1 | refine below_set ?_ GE205.out) | exact HB.out)) hb); clear BK205; clear HB; have BK205 := n0_; have HB := n1_; clear n0_ n1_; (try clear hb); (try clear hb2); (try clear hk); (try clear hi); have hcz25_0 : w24.cell? ⟨gb205, 0, none⟩ = some (.int .i64 a0_0) := (blk_cell BK205.out 0).trans rfl; have hcz25_1 : w24.cell? ⟨gb205, 1, none⟩ = some (.int .i64 a0_1) := (blk_cell BK205.out 1).trans rfl; have hcz25_2 : w24.cell? ⟨gb205, 2, none⟩ = some (.int .i64 a0_2) := (blk_cell BK205.out 2).trans rfl; have hcz25_3 : w24.cell? ⟨gb205, 3, none⟩ = some (.slice A0_3 l0_3.length c0_3) := (blk_cell BK205.out 3).trans rfl; have hcz25_4 : w24.cell? ⟨gb205, 4, none⟩ = some (.int .i64 a0_4) := (blk_cell BK205.out 4).trans rfl; have hcz25_5 : w24.cell? ⟨gb205, 5, none⟩ = some (.slice A0_5 l0_5.length c0_5) := (blk_cell BK205.out 5).trans rfl; have hcz25_6 : w24.cell? ⟨gb205, 6, none⟩ = some (.slice A0_6 l0_6.length c0_6) := (blk_cell BK205.out 6).trans rfl; have hcz25_7 : w24.cell? ⟨gb205, 7, none⟩ = some (.slice A0_7 l0_7.length c0_7) := (blk_cell BK205.out 7).trans rfl; have hcz25_8 : w24.cell? ⟨gb205, 8, none⟩ = some (.int .i64 a0_8) := (blk_cell BK205.out 8).trans rfl; have hcz25_9 : w24.cell? ⟨gb205, 9, none⟩ = some (.slice A0_9 l0_9.length c0_9) := (blk_cell BK205.out 9).trans rfl; have hfz25_0 := blk_frozen BK205.out 0; have hfz25_1 := blk_frozen BK205.out 1; have hfz25_2 := blk_frozen BK205.out 2; have hfz25_3 := blk_frozen BK205.out 3; have hfz25_4 := blk_frozen BK205.out 4; have hfz25_5 := blk_frozen BK205.out 5; have hfz25_6 := blk_frozen BK205.out 6; have hfz25_7 := blk_frozen BK205.out 7; have hfz25_8 := blk_frozen BK205.out 8; have hfz25_9 := blk_frozen BK205.out 9) | ((with_reducible refine gate_callee (f := 59) rfl ?_); refine goesL_ (some 14) rfl rfl Try.func59 (by kernel_rfl) rfl #[.slice A0_6 l0_6.length c0_6, .int .i64 t206] rfl (by (try simp only [List.map_toArray, List.map_cons, List.map_nil]); first | done | rfl | (simp only [List.length_drop, List.length_take]; rfl)) ?_; (with_reducible refine (laws_heldFactS.calls k _ _ l0_6 t206 t207 _ ?side1 ?side2 A8.out).mono ?_); (case side1 => repeat (first | exact (Kd.C_below HR0_6.out HB.out) | (with_reducible refine Kd.C_alloc ?_ _) | (with_reducible refine Kd.C_drewN ?_ _) | (with_reducible refine Kd.C_drew ?_))); (case side2 => exact HC0_6.out); rintro e w' ⟨rfl, ⟨nd, rfl⟩⟩; refine ⟨_, rfl, ?_⟩) | ((with_reducible refine gate_callee (f := 60) rfl ?_); refine goesL_ (some 20) rfl rfl Try.func60 (by kernel_rfl) rfl #[.slice A0_7 l0_7.length c0_7, .int .i64 t207] rfl (by (try simp only [List.map_toArray, List.map_cons, List.map_nil]); first | done | rfl | (simp only [List.length_drop, List.length_take]; rfl)) ?_; (with_reducible refine (laws_heldRevokedS.calls k _ _ l0_7 t207 t208 _ ?side1 ?side2 A14.out).mono ?_); (case side1 => repeat (first | exact (Kd.C_below HR0_7.out (by repeat (first | (with_reducible first | exact HB.out | apply below_alloc | apply pw_below_drewN | apply below_drew1 | refine below_set ?_ GE205.out) | exact HB.out))) | (with_reducible refine Kd.C_alloc ?_ _) | (with_reducible refine Kd.C_drewN ?_ _) | (with_reducible refine Kd.C_drew ?_))); (case side2 => exact HC0_7.out); rintro e w' ⟨rfl, ⟨nd, rfl⟩⟩; refine ⟨_, rfl, ?_⟩) | ((with_reducible refine gate_callee (f := 61) rfl ?_); refine goesL_ (some 26) rfl rfl Try.func61 (by kernel_rfl) rfl #[.slice A0_9 l0_9.length c0_9, .int .i64 t208] rfl (by (try simp only [List.map_toArray, List.map_cons, List.map_nil]); first | done | rfl | (simp only [List.length_drop, List.length_take]; rfl)) ?_; (with_reducible refine (laws_heldSavedS.calls k _ _ l0_9 t208 t209 _ ?side1 ?side2 A20.out).mono ?_); (case side1 => repeat (first | exact (Kd.C_below HR0_9.out (by repeat (first | (with_reducible first | exact HB.out | apply below_alloc | apply pw_below_drewN | apply below_drew1 | refine below_set ?_ GE205.out) | exact HB.out))) | (with_reducible refine Kd.C_alloc ?_ _) | (with_reducible refine Kd.C_drewN ?_ _) | (with_reducible refine Kd.C_drew ?_))); (case side2 => exact HC0_9.out); rintro e w' ⟨rfl, ⟨nd, rfl⟩⟩; refine ⟨_, rfl, ?_⟩))
          go_ret
          exact ⟨by first | rfl | (simp [errW_none, errW_some] <;> rfl) | (simp [*, errW_none, errW_some] <;> rfl), by repeat (first | (with_reducible first | exact HB.out | apply below_alloc | apply pw_below_drewN | apply below_drew1 | refine below_set ?_ GE205.out) | exact HB.out)⟩
        · rw [if_neg c21] at H
          have c21b0 : decide (t209 < 0) = false := decide_eq_false c21
          clear c21
          obtain rfl := Option.some.inj H
          go_enter Try.func24, Try.ntmps24
          go_wp2_with (first | ((with_reducible refine gate_dst (N := 2) rfl ?_); refine box_event ?hg (N := 2) ?hd (cs := #[.int .i64 a0_0, .int .i64 a0_1, .int .i64 a0_2, .slice A0_3 l0_3.length c0_3, .int .i64 a0_4, .slice A0_5 l0_5.length c0_5, .slice A0_6 l0_6.length c0_6, .slice A0_7 l0_7.length c0_7, .int .i64 a0_8, .slice A0_9 l0_9.length c0_9]) (t := 45) ?hr ?_; (case hd => rfl); (case hg => rfl); (case hr => first | (go_simp; done) | (go_simp; rfl)); intro gb205 hg w26 hbox hb; have n0_ := Aside0.mk (below_step (by repeat (first | (with_reducible first | exact HB.out | apply below_alloc | apply pw_below_drewN | apply below_drew1) | exact HB.out)) hb); have n1_ := Aside0.mk (hbox); have n2_ := Aside0.mk ((by rw [hg]; exact (below_size (by repeat (first | (with_reducible first | exact HB.out | apply below_alloc | apply pw_below_drewN | apply below_drew1) | exact HB.out))) : w.heap.size ≤ gb205)); have n3_ := Aside0.mk ((by rw [hg]; exact (below_size (by repeat (first | (with_reducible first | exact HB.out | apply below_alloc | apply pw_below_drewN | apply below_drew1) | exact HB.out))) : w.heap.size ≤ gb205)); clear HB; have HB := n0_; have BK205 := n1_; have GW205 := n2_; have GE205 := n3_; clear n0_ n1_ n2_ n3_; clear hb hbox hg; have hcz27_0 : w26.cell? ⟨gb205, 0, none⟩ = some (.int .i64 a0_0) := (blk_cell BK205.out 0).trans rfl; have hcz27_1 : w26.cell? ⟨gb205, 1, none⟩ = some (.int .i64 a0_1) := (blk_cell BK205.out 1).trans rfl; have hcz27_2 : w26.cell? ⟨gb205, 2, none⟩ = some (.int .i64 a0_2) := (blk_cell BK205.out 2).trans rfl; have hcz27_3 : w26.cell? ⟨gb205, 3, none⟩ = some (.slice A0_3 l0_3.length c0_3) := (blk_cell BK205.out 3).trans rfl; have hcz27_4 : w26.cell? ⟨gb205, 4, none⟩ = some (.int .i64 a0_4) := (blk_cell BK205.out 4).trans rfl; have hcz27_5 : w26.cell? ⟨gb205, 5, none⟩ = some (.slice A0_5 l0_5.length c0_5) := (blk_cell BK205.out 5).trans rfl; have hcz27_6 : w26.cell? ⟨gb205, 6, none⟩ = some (.slice A0_6 l0_6.length c0_6) := (blk_cell BK205.out 6).trans rfl; have hcz27_7 : w26.cell? ⟨gb205, 7, none⟩ = some (.slice A0_7 l0_7.length c0_7) := (blk_cell BK205.out 7).trans rfl; have hcz27_8 : w26.cell? ⟨gb205, 8, none⟩ = some (.int .i64 a0_8) := (blk_cell BK205.out 8).trans rfl; have hcz27_9 : w26.cell? ⟨gb205, 9, none⟩ = some (.slice A0_9 l0_9.length c0_9) := (blk_cell BK205.out 9).trans rfl; have hfz27_0 := blk_frozen BK205.out 0; have hfz27_1 := blk_frozen BK205.out 1; have hfz27_2 := blk_frozen BK205.out 2; have hfz27_3 := blk_frozen BK205.out 3; have hfz27_4 := blk_frozen BK205.out 4; have hfz27_5 := blk_frozen BK205.out 5; have hfz27_6 := blk_frozen BK205.out 6; have hfz27_7 := blk_frozen BK205.out 7; have hfz27_8 := blk_frozen BK205.out 8; have hfz27_9 := blk_frozen BK205.out 9) | ((with_reducible refine gate_callee (f := 58) rfl ?_); refine goesL_ (some 8) rfl rfl Try.func58 (by kernel_rfl) rfl #[.agg #[.int .i64 a0_1, .int .i64 a0_2, .slice A0_3 l0_3.length c0_3, .int .i64 a0_4, .slice A0_5 l0_5.length c0_5], .int .i64 a1] rfl (by (try simp only [List.map_toArray, List.map_cons, List.map_nil]); first | done | rfl | (simp only [List.length_drop, List.length_take]; rfl)) ?_; (with_reducible refine (laws_heldEpoch.calls k a0_1 a0_2 _ _ l0_3 a0_4 _ _ l0_5 a1 t206 _ ?side1 ?side2 ?side3 ?side4 A3.out).mono ?_); (case side1 => repeat (first | exact (Kd.C_below HR0_3.out HB.out) | (with_reducible refine Kd.C_alloc ?_ _) | (with_reducible refine Kd.C_drewN ?_ _) | (with_reducible refine Kd.C_drew ?_))); (case side2 => exact HC0_3.out); (case side3 => repeat (first | exact (Kd.C_below HR0_5.out HB.out) | (with_reducible refine Kd.C_alloc ?_ _) | (with_reducible refine Kd.C_drewN ?_ _) | (with_reducible refine Kd.C_drew ?_))); (case side4 => exact HC0_5.out); rintro e w28 ⟨rfl, hb⟩; refine ⟨_, rfl, ?_⟩; have n0_ := Aside0.mk (blk_below (g := gb205) (o := .cells #[.int .i64 a0_0, .int .i64 a0_1, .int .i64 a0_2, .slice A0_3 l0_3.length c0_3, .int .i64 a0_4, .slice A0_5 l0_5.length c0_5, .slice A0_6 l0_6.length c0_6, .slice A0_7 l0_7.length c0_7, .int .i64 a0_8, .slice A0_9 l0_9.length c0_9] 45 (0, 0)) (by (with_reducible repeat (first | refine blk_drewN ?_ _ | refine blk_drew ?_ | refine blk_alloc ?_ _)); exact BK205.out) hb); have n1_ := Aside0.mk (below_step (by repeat (first | (with_reducible first | exact HB.out | apply below_alloc | apply pw_below_drewN | apply below_drew1 | refine below_set ?_ GE205.out) | exact HB.out)) hb); clear BK205; clear HB; have BK205 := n0_; have HB := n1_; clear n0_ n1_; (try clear hb); (try clear hb2); (try clear hk); (try clear hi); have hcz29_0 : w28.cell? ⟨gb205, 0, none⟩ = some (.int .i64 a0_0) := (blk_cell BK205.out 0).trans rfl; have hcz29_1 : w28.cell? ⟨gb205, 1, none⟩ = some (.int .i64 a0_1) := (blk_cell BK205.out 1).trans rfl; have hcz29_2 : w28.cell? ⟨gb205, 2, none⟩ = some (.int .i64 a0_2) := (blk_cell BK205.out 2).trans rfl; have hcz29_3 : w28.cell? ⟨gb205, 3, none⟩ = some (.slice A0_3 l0_3.length c0_3) := (blk_cell BK205.out 3).trans rfl; have hcz29_4 : w28.cell? ⟨gb205, 4, none⟩ = some (.int .i64 a0_4) := (blk_cell BK205.out 4).trans rfl; have hcz29_5 : w28.cell? ⟨gb205, 5, none⟩ = some (.slice A0_5 l0_5.length c0_5) := (blk_cell BK205.out 5).trans rfl; have hcz29_6 : w28.cell? ⟨gb205, 6, none⟩ = some (.slice A0_6 l0_6.length c0_6) := (blk_cell BK205.out 6).trans rfl; have hcz29_7 : w28.cell? ⟨gb205, 7, none⟩ = some (.slice A0_7 l0_7.length c0_7) := (blk_cell BK205.out 7).trans rfl; have hcz29_8 : w28.cell? ⟨gb205, 8, none⟩ = some (.int .i64 a0_8) := (blk_cell BK205.out 8).trans rfl; have hcz29_9 : w28.cell? ⟨gb205, 9, none⟩ = some (.slice A0_9 l0_9.length c0_9) := (blk_cell BK205.out 9).trans rfl; have hfz29_0 := blk_frozen BK205.out 0; have hfz29_1 := blk_frozen BK205.out 1; have hfz29_2 := blk_frozen BK205.out 2; have hfz29_3 := blk_frozen BK205.out 3; have hfz29_4 := blk_frozen BK205.out 4; have hfz29_5 := blk_frozen BK205.out 5; have hfz29_6 := blk_frozen BK205.out 6; have hfz29_7 := blk_frozen BK205.out 7; have hfz29_8 := blk_frozen BK205.out 8; have hfz29_9 := blk_frozen BK205.out 9) | ((with_reducible refine gate_callee (f := 59) rfl ?_); refine goesL_ (some 14) rfl rfl Try.func59 (by kernel_rfl) rfl #[.slice A0_6 l0_6.length c0_6, .int .i64 t206] rfl (by (try simp only [List.map_toArray, List.map_cons, List.map_nil]); first | done | rfl | (simp only [List.length_drop, List.length_take]; rfl)) ?_; (with_reducible refine (laws_heldFactS.calls k _ _ l0_6 t206 t207 _ ?side1 ?side2 A8.out).mono ?_); (case side1 => repeat (first | exact (Kd.C_below HR0_6.out HB.out) | (with_reducible refine Kd.C_alloc ?_ _) | (with_reducible refine Kd.C_drewN ?_ _) | (with_reducible refine Kd.C_drew ?_))); (case side2 => exact HC0_6.out); rintro e w' ⟨rfl, ⟨nd, rfl⟩⟩; refine ⟨_, rfl, ?_⟩) | ((with_reducible refine gate_callee (f := 60) rfl ?_); refine goesL_ (some 20) rfl rfl Try.func60 (by kernel_rfl) rfl #[.slice A0_7 l0_7.length c0_7, .int .i64 t207] rfl (by (try simp only [List.map_toArray, List.map_cons, List.map_nil]); first | done | rfl | (simp only [List.length_drop, List.length_take]; rfl)) ?_; (with_reducible refine (laws_heldRevokedS.calls k _ _ l0_7 t207 t208 _ ?side1 ?side2 A14.out).mono ?_); (case side1 => repeat (first | exact (Kd.C_below HR0_7.out (by repeat (first | (with_reducible first | exact HB.out | apply below_alloc | apply pw_below_drewN | apply below_drew1 | refine below_set ?_ GE205.out) | exact HB.out))) | (with_reducible refine Kd.C_alloc ?_ _) | (with_reducible refine Kd.C_drewN ?_ _) | (with_reducible refine Kd.C_drew ?_))); (case side2 => exact HC0_7.out); rintro e w' ⟨rfl, ⟨nd, rfl⟩⟩; refine ⟨_, rfl, ?_⟩) | ((with_reducible refine gate_callee (f := 61) rfl ?_); refine goesL_ (some 26) rfl rfl Try.func61 (by kernel_rfl) rfl #[.slice A0_9 l0_9.length c0_9, .int .i64 t208] rfl (by (try simp only [List.map_toArray, List.map_cons, List.map_nil]); first | done | rfl | (simp only [List.length_drop, List.length_take]; rfl)) ?_; (with_reducible refine (laws_heldSavedS.calls k _ _ l0_9 t208 t209 _ ?side1 ?side2 A20.out).mono ?_); (case side1 => repeat (first | exact (Kd.C_below HR0_9.out (by repeat (first | (with_reducible first | exact HB.out | apply below_alloc | apply pw_below_drewN | apply below_drew1 | refine below_set ?_ GE205.out) | exact HB.out))) | (with_reducible refine Kd.C_alloc ?_ _) | (with_reducible refine Kd.C_drewN ?_ _) | (with_reducible refine Kd.C_drew ?_))); (case side2 => exact HC0_9.out); rintro e w' ⟨rfl, ⟨nd, rfl⟩⟩; refine ⟨_, rfl, ?_⟩))
          go_ret
          exact ⟨by first | rfl | (simp [errW_none, errW_some] <;> rfl) | (simp [*, errW_none, errW_some] <;> rfl), by repeat (first | (with_reducible first | exact HB.out | apply below_alloc | apply pw_below_drewN | apply below_drew1 | refine below_set ?_ GE205.out) | exact HB.out)⟩

/-! ### laws_FnExactNewPoint: function 5 -/
def laws_FnExactNewPoint.f (k : Nat) (a0 : Int) : Option (Bool) := (spec_NewPoint.f a0).bind fun bt210 => ((impl_NewPoint.f a0).bind fun bt231 => ((laws_eqPoint.f k bt231.1 bt231.2.1 bt231.2.2.1 bt231.2.2.2.1 bt231.2.2.2.2.1 bt231.2.2.2.2.2.1 bt231.2.2.2.2.2.2.1 bt231.2.2.2.2.2.2.2.1 bt231.2.2.2.2.2.2.2.2.1 bt231.2.2.2.2.2.2.2.2.2 bt210.1 bt210.2.1 bt210.2.2.1 bt210.2.2.2.1 bt210.2.2.2.2.1 bt210.2.2.2.2.2.1 bt210.2.2.2.2.2.2.1 bt210.2.2.2.2.2.2.2.1 bt210.2.2.2.2.2.2.2.2.1 bt210.2.2.2.2.2.2.2.2.2).bind fun t252 => (if t252 = true then ((laws_markPoint.f k bt231.1 bt231.2.1 bt231.2.2.1 bt231.2.2.2.1 bt231.2.2.2.2.1 bt231.2.2.2.2.2.1 bt231.2.2.2.2.2.2.1 bt231.2.2.2.2.2.2.2.1 bt231.2.2.2.2.2.2.2.2.1 bt231.2.2.2.2.2.2.2.2.2 1).bind fun bt253 => ((laws_heldPoint.f k bt231.1 bt231.2.1 bt231.2.2.1 bt253.2.1 bt231.2.2.2.2.1 bt231.2.2.2.2.2.1 bt253.2.2.1 bt253.2.2.2.1 bt231.2.2.2.2.2.2.2.2.1 bt253.2.2.2.2 1).bind fun t258 => (if t258 < 0 then (some false) else (if t258 = bt253.1 then ((impl_NewPoint.f a0).bind fun bt259 => ((laws_eqPoint.f k bt259.1 bt259.2.1 bt259.2.2.1 bt259.2.2.2.1 bt259.2.2.2.2.1 bt259.2.2.2.2.2.1 bt259.2.2.2.2.2.2.1 bt259.2.2.2.2.2.2.2.1 bt259.2.2.2.2.2.2.2.2.1 bt259.2.2.2.2.2.2.2.2.2 bt210.1 bt210.2.1 bt210.2.2.1 bt210.2.2.2.1 bt210.2.2.2.2.1 bt210.2.2.2.2.2.1 bt210.2.2.2.2.2.2.1 bt210.2.2.2.2.2.2.2.1 bt210.2.2.2.2.2.2.2.2.1 bt210.2.2.2.2.2.2.2.2.2).bind fun t280 => (if t280 = true then ((laws_heldPoint.f k bt231.1 bt231.2.1 bt231.2.2.1 bt253.2.1 bt231.2.2.2.2.1 bt231.2.2.2.2.2.1 bt253.2.2.1 bt253.2.2.2.1 bt231.2.2.2.2.2.2.2.2.1 bt253.2.2.2.2 1).bind fun t281 => (if t281 < 0 then (some false) else (if t281 = bt253.1 then (some true) else (some false)))) else (some false)))) else (some false))))) else (some false))))
set_option maxHeartbeats 8000000 in
set_option maxRecDepth 100000 in
theorem laws_FnExactNewPoint.calls (k : Nat) (a0 : Int) (r : Bool) (w : World) (h : laws_FnExactNewPoint.f k a0 = some r) :
    Calls Try.prog 5 #[.int .i64 a0] w fun e w' => e = .returned (.bool r) ∧ Below w.heap.size w w' := by
  have HB := Aside0.mk (Below.refl w.heap.size w)
  have H := h
  clear h
  unfold laws_FnExactNewPoint.f at H
  have hu45 := Try.underlying45
  go_enter Try.func5, Try.ntmps5
  replace H := Option.bind_eq_some_iff.mp H
  obtain ⟨⟨t210, t211, t212, t213, t216, t217, t220, t223, t226, t227⟩, hm, H⟩ := H
  try dsimp only at H
  have H' := Aside0.mk H
  clear H
  have hcall := spec_NewPoint.calls a0 t210 t211 t212 t213 t216 t217 t220 t223 t226 t227 w  hm
  unfold spec_NewPoint.f at hm
  simp only [Option.some.injEq, Prod.mk.injEq] at hm
  obtain ⟨rfl, rfl, rfl, rfl, rfl, rfl, rfl, rfl, rfl, rfl⟩ := hm
  have hm : True := trivial
  clear hm
  go_wp2_with fail
  refine hcall.mono ?_
  rintro e W1 ⟨v214, v218, v221, v224, v228, rfl, ho0, ho1, ho2, ho3, ho4, hb⟩
  clear hcall
  have Z1 := Aside0.mk hb.size
  obtain ⟨A1_0, n1_0, c1_0, rfl, hn_, hr_⟩ := Go.Proofs.YtineejdlpcgnkaaM.R_made ho0 HB.out.size
  obtain rfl : n1_0 = 0 := hn_
  clear ho0
  have HO1_0 := Aside0.mk hr_
  clear hr_
  obtain ⟨A1_1, n1_1, c1_1, rfl, hn_, hr_⟩ := Go.Proofs.YtineejdlpcgnkaaM.R_made ho1 HB.out.size
  obtain rfl : n1_1 = 0 := hn_
  clear ho1
  have HO1_1 := Aside0.mk hr_
  clear hr_
  obtain ⟨A1_2, n1_2, c1_2, rfl, hn_, hr_⟩ := Go.Proofs.YtineejdlpcgnkaaM.R_made ho2 HB.out.size
  obtain rfl : n1_2 = 0 := hn_
  clear ho2
  have HO1_2 := Aside0.mk hr_
  clear hr_
  obtain ⟨A1_3, n1_3, c1_3, rfl, hn_, hr_⟩ := Go.Proofs.YtineejdlpcgnkaaM.R_made ho3 HB.out.size
  obtain rfl : n1_3 = 0 := hn_
  clear ho3
  have HO1_3 := Aside0.mk hr_
  clear hr_
  obtain ⟨A1_4, n1_4, c1_4, rfl, hn_, hr_⟩ := Go.Proofs.YtineejdlpcgnkaaM.R_made ho4 HB.out.size
  obtain rfl : n1_4 = 0 := hn_
  clear ho4
  have HO1_4 := Aside0.mk hr_
  clear hr_
  have hB_ := below_step HB.out hb
  clear HB hb
  have HB := Aside0.mk hB_
  clear hB_
  have H := H'.out
  clear H'
  have H'' := Aside0.mk H
  clear H
  go_wp2_with (first | ((with_reducible refine gate_dst (N := 3) rfl ?_); refine box_event ?hg (N := 3) ?hd (cs := #[.int .i64 0, .int .i64 0, .int .i64 0, .slice none 0 0, .int .i64 0, .slice none 0 0, .slice none 0 0, .slice none 0 0, .int .i64 0, .slice none 0 0]) (t := 45) ?hr ?_; (case hd => rfl); (case hg => rfl); (case hr => first | (go_simp; done) | (go_simp; rfl)); intro gb2 hg W2 hbox hb; have Z2 := Aside0.mk hb.size; have E2 := Aside0.mk (And.intro hg (blk_lt hbox)); have h_ := Kd.R_below HO1_0.out hb; clear HO1_0; have HO1_0 := Aside0.mk h_; clear h_; have h_ := Kd.R_below HO1_1.out hb; clear HO1_1; have HO1_1 := Aside0.mk h_; clear h_; have h_ := Kd.R_below HO1_2.out hb; clear HO1_2; have HO1_2 := Aside0.mk h_; clear h_; have h_ := Kd.R_below HO1_3.out hb; clear HO1_3; have HO1_3 := Aside0.mk h_; clear h_; have h_ := Kd.R_below HO1_4.out hb; clear HO1_4; have HO1_4 := Aside0.mk h_; clear h_; have BK2 := Aside0.mk hbox; have c_BK2 := blk_cell hbox; have z_BK2 := blk_frozen hbox; have hB_ := below_step HB.out hb; clear HB hb hbox hg; have HB := Aside0.mk hB_; clear hB_) | ((with_reducible refine gate_store (t := 45) (p := 3) rfl ?_); refine store_event (t := 45) (p := 3) (v := ?vo_s3) (w1 := ((((((((((W2.setCell ⟨gb2, 0, none⟩ (.int .i64 (a0))).setCell ⟨gb2, 1, none⟩ (.int .i64 (0))).setCell ⟨gb2, 2, none⟩ (.int .i64 (0))).setCell ⟨gb2, 3, none⟩ (.slice A1_0 0 c1_0)).setCell ⟨gb2, 4, none⟩ (.int .i64 (0))).setCell ⟨gb2, 5, none⟩ (.slice A1_1 0 c1_1)).setCell ⟨gb2, 6, none⟩ (.slice A1_2 0 c1_2)).setCell ⟨gb2, 7, none⟩ (.slice A1_3 0 c1_3)).setCell ⟨gb2, 8, none⟩ (.int .i64 ((-1)))).setCell ⟨gb2, 9, none⟩ (.slice A1_4 0 c1_4))) ?hg ?ho ?hn ?hr ?_; (case ho => rfl); (case hg => rfl); (case hn => rfl); (case hr => first | (go_simp; done) | (go_simp; rfl)); intro W3 hw; have hk_ : Kept W2 W3 (fun k_ => k_ = gb2) := (by rw [hw]; exact Kept.setCell (Kept.setCell (Kept.setCell (Kept.setCell (Kept.setCell (Kept.setCell (Kept.setCell (Kept.setCell (Kept.setCell (Kept.setCell (Kept.refl W2 (fun k_ => k_ = gb2)) (.inl rfl) _) (.inl rfl) _) (.inl rfl) _) (.inl rfl) _) (.inl rfl) _) (.inl rfl) _) (.inl rfl) _) (.inl rfl) _) (.inl rfl) _) (.inl rfl) _); have hge_ : w.heap.size ≤ gb2 := (by have := E2.out.1; have := HB.out.size; have := Z1.out; have := Z2.out; omega); have Z3 := Aside0.mk hk_.1; have h_ := Kd.R_step HO1_0.out (fun k_ h1_ h2_ => hk_.2 k_ h2_ (fun h3_ => by obtain ⟨_, _⟩ := h1_; have := E2.out; have := Z1.out; have := Z2.out; omega)); clear HO1_0; have HO1_0 := Aside0.mk h_; clear h_; have h_ := Kd.R_step HO1_1.out (fun k_ h1_ h2_ => hk_.2 k_ h2_ (fun h3_ => by obtain ⟨_, _⟩ := h1_; have := E2.out; have := Z1.out; have := Z2.out; omega)); clear HO1_1; have HO1_1 := Aside0.mk h_; clear h_; have h_ := Kd.R_step HO1_2.out (fun k_ h1_ h2_ => hk_.2 k_ h2_ (fun h3_ => by obtain ⟨_, _⟩ := h1_; have := E2.out; have := Z1.out; have := Z2.out; omega)); clear HO1_2; have HO1_2 := Aside0.mk h_; clear h_; have h_ := Kd.R_step HO1_3.out (fun k_ h1_ h2_ => hk_.2 k_ h2_ (fun h3_ => by obtain ⟨_, _⟩ := h1_; have := E2.out; have := Z1.out; have := Z2.out; omega)); clear HO1_3; have HO1_3 := Aside0.mk h_; clear h_; have h_ := Kd.R_step HO1_4.out (fun k_ h1_ h2_ => hk_.2 k_ h2_ (fun h3_ => by obtain ⟨_, _⟩ := h1_; have := E2.out; have := Z1.out; have := Z2.out; omega)); clear HO1_4; have HO1_4 := Aside0.mk h_; clear h_; have h_ := blk_set (blk_set (blk_set (blk_set (blk_set (blk_set (blk_set (blk_set (blk_set (blk_set (BK2.out) 0 (.int .i64 (a0))) 1 (.int .i64 (0))) 2 (.int .i64 (0))) 3 (.slice A1_0 0 c1_0)) 4 (.int .i64 (0))) 5 (.slice A1_1 0 c1_1)) 6 (.slice A1_2 0 c1_2)) 7 (.slice A1_3 0 c1_3)) 8 (.int .i64 ((-1)))) 9 (.slice A1_4 0 c1_4); rw [← hw] at h_; simp only [List.setIfInBounds_toArray, List.set_cons_zero, List.set_cons_succ] at h_; clear BK2 c_BK2 z_BK2; have BK2 := Aside0.mk h_; have c_BK2 := blk_cell h_; have z_BK2 := blk_frozen h_; clear h_; have hB_ : Below w.heap.size w W3 := (by rw [hw]; exact below_set (below_set (below_set (below_set (below_set (below_set (below_set (below_set (below_set (below_set (HB.out) hge_) hge_) hge_) hge_) hge_) hge_) hge_) hge_) hge_) hge_); clear HB hw hk_ hge_; have HB := Aside0.mk hB_; clear hB_))
  have H := H''.out
  clear H''
  replace H := Option.bind_eq_some_iff.mp H
  obtain ⟨⟨t231, t232, t233, t234, t237, t238, t241, t244, t247, t248⟩, hm, H⟩ := H
  try dsimp only at H
  have H' := Aside0.mk H
  clear H
  have hcall := impl_NewPoint.calls a0 t231 t232 t233 t234 t237 t238 t241 t244 t247 t248 W3  hm
  unfold impl_NewPoint.f at hm
  simp only [Option.some.injEq, Prod.mk.injEq] at hm
  obtain ⟨rfl, rfl, rfl, rfl, rfl, rfl, rfl, rfl, rfl, rfl⟩ := hm
  have hm : True := trivial
  clear hm
  try go_wp2_with fail
  refine hcall.mono ?_
  rintro e W4 ⟨v235, v239, v242, v245, v249, rfl, ho0, ho1, ho2, ho3, ho4, hb⟩
  clear hcall
  have Z4 := Aside0.mk hb.size
  have h_ := Kd.R_below HO1_0.out hb
  clear HO1_0
  have HO1_0 := Aside0.mk h_
  clear h_
  have h_ := Kd.R_below HO1_1.out hb
  clear HO1_1
  have HO1_1 := Aside0.mk h_
  clear h_
  have h_ := Kd.R_below HO1_2.out hb
  clear HO1_2
  have HO1_2 := Aside0.mk h_
  clear h_
  have h_ := Kd.R_below HO1_3.out hb
  clear HO1_3
  have HO1_3 := Aside0.mk h_
  clear h_
  have h_ := Kd.R_below HO1_4.out hb
  clear HO1_4
  have HO1_4 := Aside0.mk h_
  clear h_
  obtain ⟨A4_0, n4_0, c4_0, rfl, hn_, hr_⟩ := Go.Proofs.YtineejdlpcgnkaaM.R_made ho0 HB.out.size
  obtain rfl : n4_0 = 0 := hn_
  clear ho0
  have HO4_0 := Aside0.mk hr_
  clear hr_
  obtain ⟨A4_1, n4_1, c4_1, rfl, hn_, hr_⟩ := Go.Proofs.YtineejdlpcgnkaaM.R_made ho1 HB.out.size
  obtain rfl : n4_1 = 0 := hn_
  clear ho1
  have HO4_1 := Aside0.mk hr_
  clear hr_
  obtain ⟨A4_2, n4_2, c4_2, rfl, hn_, hr_⟩ := Go.Proofs.YtineejdlpcgnkaaM.R_made ho2 HB.out.size
  obtain rfl : n4_2 = 0 := hn_
  clear ho2
  have HO4_2 := Aside0.mk hr_
  clear hr_
  obtain ⟨A4_3, n4_3, c4_3, rfl, hn_, hr_⟩ := Go.Proofs.YtineejdlpcgnkaaM.R_made ho3 HB.out.size
  obtain rfl : n4_3 = 0 := hn_
  clear ho3
  have HO4_3 := Aside0.mk hr_
  clear hr_
  obtain ⟨A4_4, n4_4, c4_4, rfl, hn_, hr_⟩ := Go.Proofs.YtineejdlpcgnkaaM.R_made ho4 HB.out.size
  obtain rfl : n4_4 = 0 := hn_
  clear ho4
  have HO4_4 := Aside0.mk hr_
  clear hr_
  have h_ := blk_below BK2.out hb
  clear BK2 c_BK2 z_BK2
  have BK2 := Aside0.mk h_
  have c_BK2 := blk_cell h_
  have z_BK2 := blk_frozen h_
  clear h_
  have hB_ := below_step HB.out hb
  clear HB hb
  have HB := Aside0.mk hB_
  clear hB_
  have H := H'.out
  clear H'
  have H'' := Aside0.mk H
  clear H
  go_wp2_with (first | ((with_reducible refine gate_dst (N := 4) rfl ?_); refine box_event ?hg (N := 4) ?hd (cs := #[.int .i64 0, .int .i64 0, .int .i64 0, .slice none 0 0, .int .i64 0, .slice none 0 0, .slice none 0 0, .slice none 0 0, .int .i64 0, .slice none 0 0]) (t := 45) ?hr ?_; (case hd => rfl); (case hg => rfl); (case hr => first | (go_simp; done) | (go_simp; rfl)); intro gb5 hg W5 hbox hb; have Z5 := Aside0.mk hb.size; have E5 := Aside0.mk (And.intro hg (blk_lt hbox)); have h_ := Kd.R_below HO1_0.out hb; clear HO1_0; have HO1_0 := Aside0.mk h_; clear h_; have h_ := Kd.R_below HO1_1.out hb; clear HO1_1; have HO1_1 := Aside0.mk h_; clear h_; have h_ := Kd.R_below HO1_2.out hb; clear HO1_2; have HO1_2 := Aside0.mk h_; clear h_; have h_ := Kd.R_below HO1_3.out hb; clear HO1_3; have HO1_3 := Aside0.mk h_; clear h_; have h_ := Kd.R_below HO1_4.out hb; clear HO1_4; have HO1_4 := Aside0.mk h_; clear h_; have h_ := Kd.R_below HO4_0.out hb; clear HO4_0; have HO4_0 := Aside0.mk h_; clear h_; have h_ := Kd.R_below HO4_1.out hb; clear HO4_1; have HO4_1 := Aside0.mk h_; clear h_; have h_ := Kd.R_below HO4_2.out hb; clear HO4_2; have HO4_2 := Aside0.mk h_; clear h_; have h_ := Kd.R_below HO4_3.out hb; clear HO4_3; have HO4_3 := Aside0.mk h_; clear h_; have h_ := Kd.R_below HO4_4.out hb; clear HO4_4; have HO4_4 := Aside0.mk h_; clear h_; have h_ := blk_below BK2.out hb; clear BK2 c_BK2 z_BK2; have BK2 := Aside0.mk h_; have c_BK2 := blk_cell h_; have z_BK2 := blk_frozen h_; clear h_; have BK5 := Aside0.mk hbox; have c_BK5 := blk_cell hbox; have z_BK5 := blk_frozen hbox; have hB_ := below_step HB.out hb; clear HB hb hbox hg; have HB := Aside0.mk hB_; clear hB_) | ((with_reducible refine gate_store (t := 45) (p := 4) rfl ?_); refine store_event (t := 45) (p := 4) (v := ?vo_s6) (w1 := ((((((((((W5.setCell ⟨gb5, 0, none⟩ (.int .i64 (a0))).setCell ⟨gb5, 1, none⟩ (.int .i64 (0))).setCell ⟨gb5, 2, none⟩ (.int .i64 (0))).setCell ⟨gb5, 3, none⟩ (.slice A4_0 0 c4_0)).setCell ⟨gb5, 4, none⟩ (.int .i64 (0))).setCell ⟨gb5, 5, none⟩ (.slice A4_1 0 c4_1)).setCell ⟨gb5, 6, none⟩ (.slice A4_2 0 c4_2)).setCell ⟨gb5, 7, none⟩ (.slice A4_3 0 c4_3)).setCell ⟨gb5, 8, none⟩ (.int .i64 ((-1)))).setCell ⟨gb5, 9, none⟩ (.slice A4_4 0 c4_4))) ?hg ?ho ?hn ?hr ?_; (case ho => rfl); (case hg => rfl); (case hn => rfl); (case hr => first | (go_simp; done) | (go_simp; rfl)); intro W6 hw; have hk_ : Kept W5 W6 (fun k_ => k_ = gb5) := (by rw [hw]; exact Kept.setCell (Kept.setCell (Kept.setCell (Kept.setCell (Kept.setCell (Kept.setCell (Kept.setCell (Kept.setCell (Kept.setCell (Kept.setCell (Kept.refl W5 (fun k_ => k_ = gb5)) (.inl rfl) _) (.inl rfl) _) (.inl rfl) _) (.inl rfl) _) (.inl rfl) _) (.inl rfl) _) (.inl rfl) _) (.inl rfl) _) (.inl rfl) _) (.inl rfl) _); have hge_ : w.heap.size ≤ gb5 := (by have := E5.out.1; have := HB.out.size; have := Z1.out; have := Z2.out; have := Z3.out; have := Z4.out; have := Z5.out; omega); have Z6 := Aside0.mk hk_.1; have h_ := Kd.R_step HO1_0.out (fun k_ h1_ h2_ => hk_.2 k_ h2_ (fun h3_ => by obtain ⟨_, _⟩ := h1_; have := E5.out; have := Z1.out; have := Z2.out; have := Z3.out; have := Z4.out; have := Z5.out; omega)); clear HO1_0; have HO1_0 := Aside0.mk h_; clear h_; have h_ := Kd.R_step HO1_1.out (fun k_ h1_ h2_ => hk_.2 k_ h2_ (fun h3_ => by obtain ⟨_, _⟩ := h1_; have := E5.out; have := Z1.out; have := Z2.out; have := Z3.out; have := Z4.out; have := Z5.out; omega)); clear HO1_1; have HO1_1 := Aside0.mk h_; clear h_; have h_ := Kd.R_step HO1_2.out (fun k_ h1_ h2_ => hk_.2 k_ h2_ (fun h3_ => by obtain ⟨_, _⟩ := h1_; have := E5.out; have := Z1.out; have := Z2.out; have := Z3.out; have := Z4.out; have := Z5.out; omega)); clear HO1_2; have HO1_2 := Aside0.mk h_; clear h_; have h_ := Kd.R_step HO1_3.out (fun k_ h1_ h2_ => hk_.2 k_ h2_ (fun h3_ => by obtain ⟨_, _⟩ := h1_; have := E5.out; have := Z1.out; have := Z2.out; have := Z3.out; have := Z4.out; have := Z5.out; omega)); clear HO1_3; have HO1_3 := Aside0.mk h_; clear h_; have h_ := Kd.R_step HO1_4.out (fun k_ h1_ h2_ => hk_.2 k_ h2_ (fun h3_ => by obtain ⟨_, _⟩ := h1_; have := E5.out; have := Z1.out; have := Z2.out; have := Z3.out; have := Z4.out; have := Z5.out; omega)); clear HO1_4; have HO1_4 := Aside0.mk h_; clear h_; have h_ := Kd.R_step HO4_0.out (fun k_ h1_ h2_ => hk_.2 k_ h2_ (fun h3_ => by obtain ⟨_, _⟩ := h1_; have := E5.out; have := Z1.out; have := Z2.out; have := Z3.out; have := Z4.out; have := Z5.out; omega)); clear HO4_0; have HO4_0 := Aside0.mk h_; clear h_; have h_ := Kd.R_step HO4_1.out (fun k_ h1_ h2_ => hk_.2 k_ h2_ (fun h3_ => by obtain ⟨_, _⟩ := h1_; have := E5.out; have := Z1.out; have := Z2.out; have := Z3.out; have := Z4.out; have := Z5.out; omega)); clear HO4_1; have HO4_1 := Aside0.mk h_; clear h_; have h_ := Kd.R_step HO4_2.out (fun k_ h1_ h2_ => hk_.2 k_ h2_ (fun h3_ => by obtain ⟨_, _⟩ := h1_; have := E5.out; have := Z1.out; have := Z2.out; have := Z3.out; have := Z4.out; have := Z5.out; omega)); clear HO4_2; have HO4_2 := Aside0.mk h_; clear h_; have h_ := Kd.R_step HO4_3.out (fun k_ h1_ h2_ => hk_.2 k_ h2_ (fun h3_ => by obtain ⟨_, _⟩ := h1_; have := E5.out; have := Z1.out; have := Z2.out; have := Z3.out; have := Z4.out; have := Z5.out; omega)); clear HO4_3; have HO4_3 := Aside0.mk h_; clear h_; have h_ := Kd.R_step HO4_4.out (fun k_ h1_ h2_ => hk_.2 k_ h2_ (fun h3_ => by obtain ⟨_, _⟩ := h1_; have := E5.out; have := Z1.out; have := Z2.out; have := Z3.out; have := Z4.out; have := Z5.out; omega)); clear HO4_4; have HO4_4 := Aside0.mk h_; clear h_; have h_ := blk_kept BK2.out hk_ (fun hp_ => by have := E2.out; have := E5.out; have := Z1.out; have := Z2.out; have := Z3.out; have := Z4.out; have := Z5.out; omega); clear BK2 c_BK2 z_BK2; have BK2 := Aside0.mk h_; have c_BK2 := blk_cell h_; have z_BK2 := blk_frozen h_; clear h_; have h_ := blk_set (blk_set (blk_set (blk_set (blk_set (blk_set (blk_set (blk_set (blk_set (blk_set (BK5.out) 0 (.int .i64 (a0))) 1 (.int .i64 (0))) 2 (.int .i64 (0))) 3 (.slice A4_0 0 c4_0)) 4 (.int .i64 (0))) 5 (.slice A4_1 0 c4_1)) 6 (.slice A4_2 0 c4_2)) 7 (.slice A4_3 0 c4_3)) 8 (.int .i64 ((-1)))) 9 (.slice A4_4 0 c4_4); rw [← hw] at h_; simp only [List.setIfInBounds_toArray, List.set_cons_zero, List.set_cons_succ] at h_; clear BK5 c_BK5 z_BK5; have BK5 := Aside0.mk h_; have c_BK5 := blk_cell h_; have z_BK5 := blk_frozen h_; clear h_; have hB_ : Below w.heap.size w W6 := (by rw [hw]; exact below_set (below_set (below_set (below_set (below_set (below_set (below_set (below_set (below_set (below_set (HB.out) hge_) hge_) hge_) hge_) hge_) hge_) hge_) hge_) hge_) hge_); clear HB hw hk_ hge_; have HB := Aside0.mk hB_; clear hB_))
  have H := H''.out
  clear H''
  replace H := Option.bind_eq_some_iff.mp H
  obtain ⟨t252, hm, H⟩ := H
  try dsimp only at H
  have H' := Aside0.mk H
  clear H
  have hcall := laws_eqPoint.calls k (a0) (0) (0) _ _ ([] : List (S149)) (0) _ _ ([] : List (S174)) _ _ ([] : List (S132)) _ _ ([] : List (S99)) ((-1)) _ _ ([] : List (S103)) (a0) (0) (0) _ _ ([] : List (S149)) (0) _ _ ([] : List (S174)) _ _ ([] : List (S132)) _ _ ([] : List (S99)) ((-1)) _ _ ([] : List (S103)) t252 W6 (Go.Proofs.YtineejdlpcgnkaaM.R_C HO4_0.out) (Go.Proofs.YtineejdlpcgnkaaM.R_len HO4_0.out) (Go.Proofs.YtineejdlpcgnkaaM.R_C HO4_1.out) (Go.Proofs.YtineejdlpcgnkaaM.R_len HO4_1.out) (Go.Proofs.YtineejdlpcgnkaaM.R_C HO4_2.out) (Go.Proofs.YtineejdlpcgnkaaM.R_len HO4_2.out) (Go.Proofs.YtineejdlpcgnkaaM.R_C HO4_3.out) (Go.Proofs.YtineejdlpcgnkaaM.R_len HO4_3.out) (Go.Proofs.YtineejdlpcgnkaaM.R_C HO4_4.out) (Go.Proofs.YtineejdlpcgnkaaM.R_len HO4_4.out) (Go.Proofs.YtineejdlpcgnkaaM.R_C HO1_0.out) (Go.Proofs.YtineejdlpcgnkaaM.R_len HO1_0.out) (Go.Proofs.YtineejdlpcgnkaaM.R_C HO1_1.out) (Go.Proofs.YtineejdlpcgnkaaM.R_len HO1_1.out) (Go.Proofs.YtineejdlpcgnkaaM.R_C HO1_2.out) (Go.Proofs.YtineejdlpcgnkaaM.R_len HO1_2.out) (Go.Proofs.YtineejdlpcgnkaaM.R_C HO1_3.out) (Go.Proofs.YtineejdlpcgnkaaM.R_len HO1_3.out) (Go.Proofs.YtineejdlpcgnkaaM.R_C HO1_4.out) (Go.Proofs.YtineejdlpcgnkaaM.R_len HO1_4.out) hm
  simp only [List.length_nil] at hcall
  clear hm
  try go_wp2_with fail
  refine hcall.mono ?_
  rintro e W7 ⟨rfl, hb⟩
  clear hcall
  have Z7 := Aside0.mk hb.size
  have h_ := Kd.R_below HO1_0.out hb
  clear HO1_0
  have HO1_0 := Aside0.mk h_
  clear h_
  have h_ := Kd.R_below HO1_1.out hb
  clear HO1_1
  have HO1_1 := Aside0.mk h_
  clear h_
  have h_ := Kd.R_below HO1_2.out hb
  clear HO1_2
  have HO1_2 := Aside0.mk h_
  clear h_
  have h_ := Kd.R_below HO1_3.out hb
  clear HO1_3
  have HO1_3 := Aside0.mk h_
  clear h_
  have h_ := Kd.R_below HO1_4.out hb
  clear HO1_4
  have HO1_4 := Aside0.mk h_
  clear h_
  have h_ := Kd.R_below HO4_0.out hb
  clear HO4_0
  have HO4_0 := Aside0.mk h_
  clear h_
  have h_ := Kd.R_below HO4_1.out hb
  clear HO4_1
  have HO4_1 := Aside0.mk h_
  clear h_
  have h_ := Kd.R_below HO4_2.out hb
  clear HO4_2
  have HO4_2 := Aside0.mk h_
  clear h_
  have h_ := Kd.R_below HO4_3.out hb
  clear HO4_3
  have HO4_3 := Aside0.mk h_
  clear h_
  have h_ := Kd.R_below HO4_4.out hb
  clear HO4_4
  have HO4_4 := Aside0.mk h_
  clear h_
  have h_ := blk_below BK2.out hb
  clear BK2 c_BK2 z_BK2
  have BK2 := Aside0.mk h_
  have c_BK2 := blk_cell h_
  have z_BK2 := blk_frozen h_
  clear h_
  have h_ := blk_below BK5.out hb
  clear BK5 c_BK5 z_BK5
  have BK5 := Aside0.mk h_
  have c_BK5 := blk_cell h_
  have z_BK5 := blk_frozen h_
  clear h_
  have hB_ := below_step HB.out hb
  clear HB hb
  have HB := Aside0.mk hB_
  clear hB_
  have H := H'.out
  clear H'
  by_cases c8 : t252 = true
  · rw [if_pos c8] at H
    subst c8
    replace H := Option.bind_eq_some_iff.mp H
    obtain ⟨⟨t253, t254, t255, t256, t257⟩, hm, H⟩ := H
    try dsimp only at H
    have H' := Aside0.mk H
    clear H
    have hcall := laws_markPoint.calls k (a0) (0) (0) (fun k_ => W3.heap.size ≤ k_ ∧ k_ < W4.heap.size) (.slice A4_0 0 c4_0) ([] : List (S149)) (0) A4_1 c4_1 ([] : List (S174)) (fun k_ => W3.heap.size ≤ k_ ∧ k_ < W4.heap.size) (.slice A4_2 0 c4_2) ([] : List (S132)) (fun k_ => W3.heap.size ≤ k_ ∧ k_ < W4.heap.size) (.slice A4_3 0 c4_3) ([] : List (S99)) ((-1)) (fun k_ => W3.heap.size ≤ k_ ∧ k_ < W4.heap.size) (.slice A4_4 0 c4_4) ([] : List (S103)) 1 t253 t254 t255 t256 t257 w W7 HB.out HO4_0.out (fun W_ _ => ⟨rfl, Nat.zero_le _, fun h_ => absurd h_ (by simp)⟩) (Go.Proofs.YtineejdlpcgnkaaM.R_len HO4_1.out) HO4_2.out HO4_3.out HO4_4.out hm
    simp only [List.length_nil] at hcall
    clear hm
    go_wp2_with fail
    refine hcall.mono ?_
    rintro e W9 ⟨rfl, ho0, ho1, ho2, ho3, hb, hkp0⟩
    clear hcall
    clear HB
    have HB := Aside0.mk hb
    have hkp := Kept.mono hkp0 (S' := (fun k_ => W3.heap.size ≤ k_ ∧ k_ < W4.heap.size)) (fun _ h_ => by rcases h_ with h_ | h_ | h_ | h_ <;> exact h_)
    clear hkp0
    have Z9 := Aside0.mk hkp.1
    have h_ := Go.Proofs.YtineejdlpcgnkaaM.R_else HO1_0.out hkp (by have := Z1.out; have := Z2.out; have := Z3.out; have := Z4.out; have := Z5.out; have := Z6.out; have := Z7.out; omega)
    clear HO1_0
    have HO1_0 := Aside0.mk h_
    clear h_
    have h_ := Go.Proofs.YtineejdlpcgnkaaM.R_else HO1_1.out hkp (by have := Z1.out; have := Z2.out; have := Z3.out; have := Z4.out; have := Z5.out; have := Z6.out; have := Z7.out; omega)
    clear HO1_1
    have HO1_1 := Aside0.mk h_
    clear h_
    have h_ := Go.Proofs.YtineejdlpcgnkaaM.R_else HO1_2.out hkp (by have := Z1.out; have := Z2.out; have := Z3.out; have := Z4.out; have := Z5.out; have := Z6.out; have := Z7.out; omega)
    clear HO1_2
    have HO1_2 := Aside0.mk h_
    clear h_
    have h_ := Go.Proofs.YtineejdlpcgnkaaM.R_else HO1_3.out hkp (by have := Z1.out; have := Z2.out; have := Z3.out; have := Z4.out; have := Z5.out; have := Z6.out; have := Z7.out; omega)
    clear HO1_3
    have HO1_3 := Aside0.mk h_
    clear h_
    have h_ := Go.Proofs.YtineejdlpcgnkaaM.R_else HO1_4.out hkp (by have := Z1.out; have := Z2.out; have := Z3.out; have := Z4.out; have := Z5.out; have := Z6.out; have := Z7.out; omega)
    clear HO1_4
    have HO1_4 := Aside0.mk h_
    clear h_
    have HO9_0 := Aside0.mk (Kd.R_reok rfl ho0 (fun k_ e_ => HO4_0.out.1 k_ e_))
    clear ho0 HO4_0
    have h_ : Go.Proofs.YtineejdlpcgnkaaM.Em A4_1 0 c4_1 ([] : List (S174)) := ⟨rfl, (Go.Proofs.YtineejdlpcgnkaaM.R_n HO4_1.out).symm⟩
    clear HO4_1
    have HO4_1 := Aside0.mk h_
    clear h_
    have HO9_1 := Aside0.mk (Kd.R_reok rfl ho1 (fun k_ e_ => HO4_2.out.1 k_ e_))
    clear ho1 HO4_2
    have HO9_2 := Aside0.mk (Kd.R_reok rfl ho2 (fun k_ e_ => HO4_3.out.1 k_ e_))
    clear ho2 HO4_3
    have HO9_3 := Aside0.mk (Kd.R_reok rfl ho3 (fun k_ e_ => HO4_4.out.1 k_ e_))
    clear ho3 HO4_4
    have h_ := blk_kept BK2.out hkp (fun hp_ => by have := E2.out; have := Z1.out; have := Z2.out; have := Z3.out; have := Z4.out; have := Z5.out; have := Z6.out; have := Z7.out; have := Z9.out; obtain ⟨_, _⟩ := hp_; omega)
    clear BK2 c_BK2 z_BK2
    have BK2 := Aside0.mk h_
    have c_BK2 := blk_cell h_
    have z_BK2 := blk_frozen h_
    clear h_
    have h_ := blk_kept BK5.out hkp (fun hp_ => by have := E5.out; have := Z1.out; have := Z2.out; have := Z3.out; have := Z4.out; have := Z5.out; have := Z6.out; have := Z7.out; have := Z9.out; obtain ⟨_, _⟩ := hp_; omega)
    clear BK5 c_BK5 z_BK5
    have BK5 := Aside0.mk h_
    have c_BK5 := blk_cell h_
    have z_BK5 := blk_frozen h_
    clear h_
    clear hkp hb
    have H := H'.out
    clear H'
    replace H := Option.bind_eq_some_iff.mp H
    obtain ⟨t258, hm, H⟩ := H
    try dsimp only at H
    have H' := Aside0.mk H
    clear H
    have hcall := laws_heldPoint.calls k (a0) (0) (0) _ _ t254 (0) _ _ ([] : List (S174)) _ _ t255 _ _ t256 ((-1)) _ _ t257 1 t258 W9 (Go.Proofs.YtineejdlpcgnkaaM.R_C HO9_0.out) (Go.Proofs.YtineejdlpcgnkaaM.R_len HO9_0.out) (Go.Proofs.YtineejdlpcgnkaaM.E_C HO4_1.out) (Go.Proofs.YtineejdlpcgnkaaM.E_len HO4_1.out) (Go.Proofs.YtineejdlpcgnkaaM.R_C HO9_1.out) (Go.Proofs.YtineejdlpcgnkaaM.R_len HO9_1.out) (Go.Proofs.YtineejdlpcgnkaaM.R_C HO9_2.out) (Go.Proofs.YtineejdlpcgnkaaM.R_len HO9_2.out) (Go.Proofs.YtineejdlpcgnkaaM.R_C HO9_3.out) (Go.Proofs.YtineejdlpcgnkaaM.R_len HO9_3.out) hm
    rw [Go.Proofs.YtineejdlpcgnkaaM.R_n HO9_0.out, Go.Proofs.YtineejdlpcgnkaaM.R_n HO9_1.out, Go.Proofs.YtineejdlpcgnkaaM.R_n HO9_2.out, Go.Proofs.YtineejdlpcgnkaaM.R_n HO9_3.out] at hcall
    simp only [List.length_nil] at hcall
    clear hm
    go_wp2_with fail
    refine hcall.mono ?_
    rintro e W10 ⟨rfl, hb⟩
    clear hcall
    have Z10 := Aside0.mk hb.size
    have h_ := Kd.R_below HO1_0.out hb
    clear HO1_0
    have HO1_0 := Aside0.mk h_
    clear h_
    have h_ := Kd.R_below HO1_1.out hb
    clear HO1_1
    have HO1_1 := Aside0.mk h_
    clear h_
    have h_ := Kd.R_below HO1_2.out hb
    clear HO1_2
    have HO1_2 := Aside0.mk h_
    clear h_
    have h_ := Kd.R_below HO1_3.out hb
    clear HO1_3
    have HO1_3 := Aside0.mk h_
    clear h_
    have h_ := Kd.R_below HO1_4.out hb
    clear HO1_4
    have HO1_4 := Aside0.mk h_
    clear h_
    have h_ := Kd.R_below HO9_0.out hb
    clear HO9_0
    have HO9_0 := Aside0.mk h_
    clear h_
    have h_ := Kd.R_below HO9_1.out hb
    clear HO9_1
    have HO9_1 := Aside0.mk h_
    clear h_
    have h_ := Kd.R_below HO9_2.out hb
    clear HO9_2
    have HO9_2 := Aside0.mk h_
    clear h_
    have h_ := Kd.R_below HO9_3.out hb
    clear HO9_3
    have HO9_3 := Aside0.mk h_
    clear h_
    have h_ := blk_below BK2.out hb
    clear BK2 c_BK2 z_BK2
    have BK2 := Aside0.mk h_
    have c_BK2 := blk_cell h_
    have z_BK2 := blk_frozen h_
    clear h_
    have h_ := blk_below BK5.out hb
    clear BK5 c_BK5 z_BK5
    have BK5 := Aside0.mk h_
    have c_BK5 := blk_cell h_
    have z_BK5 := blk_frozen h_
    clear h_
    have hB_ := below_step HB.out hb
    clear HB hb
    have HB := Aside0.mk hB_
    clear hB_
    have H := H'.out
    clear H'
    by_cases c11 : t258 < 0
    · rw [if_pos c11] at H
      have c11_0 : decide (t258 < 0) = true := decide_eq_true c11
      clear c11
      obtain rfl := Option.some.inj H
      clear H
      go_wp2
      go_ret
      exact ⟨rfl, HB.out⟩
    · rw [if_neg c11] at H
      have c11_0 : decide (t258 < 0) = false := decide_eq_false c11
      clear c11
      by_cases c12 : t258 = t253
      · rw [if_pos c12] at H
        have c12_1 : (t258 == t253) = true := beq_iff_eq.mpr c12
        have c12_2 : (t258 != t253) = false := bne_eq_false_iff_eq.mpr c12
        have c12_0 : decide (t258 = t253) = true := decide_eq_true c12
        clear c12
        replace H := Option.bind_eq_some_iff.mp H
        obtain ⟨⟨t259, t260, t261, t262, t265, t266, t269, t272, t275, t276⟩, hm, H⟩ := H
        try dsimp only at H
        have H' := Aside0.mk H
        clear H
        have hcall := impl_NewPoint.calls a0 t259 t260 t261 t262 t265 t266 t269 t272 t275 t276 W10  hm
        unfold impl_NewPoint.f at hm
        simp only [Option.some.injEq, Prod.mk.injEq] at hm
        obtain ⟨rfl, rfl, rfl, rfl, rfl, rfl, rfl, rfl, rfl, rfl⟩ := hm
        have hm : True := trivial
        clear hm
        go_wp2_with fail
        refine hcall.mono ?_
        rintro e W13 ⟨v263, v267, v270, v273, v277, rfl, ho0, ho1, ho2, ho3, ho4, hb⟩
        clear hcall
        have Z13 := Aside0.mk hb.size
        have h_ := Kd.R_below HO1_0.out hb
        clear HO1_0
        have HO1_0 := Aside0.mk h_
        clear h_
        have h_ := Kd.R_below HO1_1.out hb
        clear HO1_1
        have HO1_1 := Aside0.mk h_
        clear h_
        have h_ := Kd.R_below HO1_2.out hb
        clear HO1_2
        have HO1_2 := Aside0.mk h_
        clear h_
        have h_ := Kd.R_below HO1_3.out hb
        clear HO1_3
        have HO1_3 := Aside0.mk h_
        clear h_
        have h_ := Kd.R_below HO1_4.out hb
        clear HO1_4
        have HO1_4 := Aside0.mk h_
        clear h_
        have h_ := Kd.R_below HO9_0.out hb
        clear HO9_0
        have HO9_0 := Aside0.mk h_
        clear h_
        have h_ := Kd.R_below HO9_1.out hb
        clear HO9_1
        have HO9_1 := Aside0.mk h_
        clear h_
        have h_ := Kd.R_below HO9_2.out hb
        clear HO9_2
        have HO9_2 := Aside0.mk h_
        clear h_
        have h_ := Kd.R_below HO9_3.out hb
        clear HO9_3
        have HO9_3 := Aside0.mk h_
        clear h_
        obtain ⟨A13_0, n13_0, c13_0, rfl, hn_, hr_⟩ := Go.Proofs.YtineejdlpcgnkaaM.R_made ho0 HB.out.size
        obtain rfl : n13_0 = 0 := hn_
        clear ho0
        have HO13_0 := Aside0.mk hr_
        clear hr_
        obtain ⟨A13_1, n13_1, c13_1, rfl, hn_, hr_⟩ := Go.Proofs.YtineejdlpcgnkaaM.R_made ho1 HB.out.size
        obtain rfl : n13_1 = 0 := hn_
        clear ho1
        have HO13_1 := Aside0.mk hr_
        clear hr_
        obtain ⟨A13_2, n13_2, c13_2, rfl, hn_, hr_⟩ := Go.Proofs.YtineejdlpcgnkaaM.R_made ho2 HB.out.size
        obtain rfl : n13_2 = 0 := hn_
        clear ho2
        have HO13_2 := Aside0.mk hr_
        clear hr_
        obtain ⟨A13_3, n13_3, c13_3, rfl, hn_, hr_⟩ := Go.Proofs.YtineejdlpcgnkaaM.R_made ho3 HB.out.size
        obtain rfl : n13_3 = 0 := hn_
        clear ho3
        have HO13_3 := Aside0.mk hr_
        clear hr_
        obtain ⟨A13_4, n13_4, c13_4, rfl, hn_, hr_⟩ := Go.Proofs.YtineejdlpcgnkaaM.R_made ho4 HB.out.size
        obtain rfl : n13_4 = 0 := hn_
        clear ho4
        have HO13_4 := Aside0.mk hr_
        clear hr_
        have h_ := blk_below BK2.out hb
        clear BK2 c_BK2 z_BK2
        have BK2 := Aside0.mk h_
        have c_BK2 := blk_cell h_
        have z_BK2 := blk_frozen h_
        clear h_
        have h_ := blk_below BK5.out hb
        clear BK5 c_BK5 z_BK5
        have BK5 := Aside0.mk h_
        have c_BK5 := blk_cell h_
        have z_BK5 := blk_frozen h_
        clear h_
        have hB_ := below_step HB.out hb
        clear HB hb
        have HB := Aside0.mk hB_
        clear hB_
        have H := H'.out
        clear H'
        have H'' := Aside0.mk H
        clear H
        go_wp2_with (first | ((with_reducible refine gate_dst (N := 7) rfl ?_); refine box_event ?hg (N := 7) ?hd (cs := #[.int .i64 0, .int .i64 0, .int .i64 0, .slice none 0 0, .int .i64 0, .slice none 0 0, .slice none 0 0, .slice none 0 0, .int .i64 0, .slice none 0 0]) (t := 45) ?hr ?_; (case hd => rfl); (case hg => rfl); (case hr => first | (go_simp; done) | (go_simp; rfl)); intro gb14 hg W14 hbox hb; have Z14 := Aside0.mk hb.size; have E14 := Aside0.mk (And.intro hg (blk_lt hbox)); have h_ := Kd.R_below HO1_0.out hb; clear HO1_0; have HO1_0 := Aside0.mk h_; clear h_; have h_ := Kd.R_below HO1_1.out hb; clear HO1_1; have HO1_1 := Aside0.mk h_; clear h_; have h_ := Kd.R_below HO1_2.out hb; clear HO1_2; have HO1_2 := Aside0.mk h_; clear h_; have h_ := Kd.R_below HO1_3.out hb; clear HO1_3; have HO1_3 := Aside0.mk h_; clear h_; have h_ := Kd.R_below HO1_4.out hb; clear HO1_4; have HO1_4 := Aside0.mk h_; clear h_; have h_ := Kd.R_below HO9_0.out hb; clear HO9_0; have HO9_0 := Aside0.mk h_; clear h_; have h_ := Kd.R_below HO9_1.out hb; clear HO9_1; have HO9_1 := Aside0.mk h_; clear h_; have h_ := Kd.R_below HO9_2.out hb; clear HO9_2; have HO9_2 := Aside0.mk h_; clear h_; have h_ := Kd.R_below HO9_3.out hb; clear HO9_3; have HO9_3 := Aside0.mk h_; clear h_; have h_ := Kd.R_below HO13_0.out hb; clear HO13_0; have HO13_0 := Aside0.mk h_; clear h_; have h_ := Kd.R_below HO13_1.out hb; clear HO13_1; have HO13_1 := Aside0.mk h_; clear h_; have h_ := Kd.R_below HO13_2.out hb; clear HO13_2; have HO13_2 := Aside0.mk h_; clear h_; have h_ := Kd.R_below HO13_3.out hb; clear HO13_3; have HO13_3 := Aside0.mk h_; clear h_; have h_ := Kd.R_below HO13_4.out hb; clear HO13_4; have HO13_4 := Aside0.mk h_; clear h_; have h_ := blk_below BK2.out hb; clear BK2 c_BK2 z_BK2; have BK2 := Aside0.mk h_; have c_BK2 := blk_cell h_; have z_BK2 := blk_frozen h_; clear h_; have h_ := blk_below BK5.out hb; clear BK5 c_BK5 z_BK5; have BK5 := Aside0.mk h_; have c_BK5 := blk_cell h_; have z_BK5 := blk_frozen h_; clear h_; have BK14 := Aside0.mk hbox; have c_BK14 := blk_cell hbox; have z_BK14 := blk_frozen hbox; have hB_ := below_step HB.out hb; clear HB hb hbox hg; have HB := Aside0.mk hB_; clear hB_) | ((with_reducible refine gate_store (t := 45) (p := 7) rfl ?_); refine store_event (t := 45) (p := 7) (v := ?vo_s15) (w1 := ((((((((((W14.setCell ⟨gb14, 0, none⟩ (.int .i64 (a0))).setCell ⟨gb14, 1, none⟩ (.int .i64 (0))).setCell ⟨gb14, 2, none⟩ (.int .i64 (0))).setCell ⟨gb14, 3, none⟩ (.slice A13_0 0 c13_0)).setCell ⟨gb14, 4, none⟩ (.int .i64 (0))).setCell ⟨gb14, 5, none⟩ (.slice A13_1 0 c13_1)).setCell ⟨gb14, 6, none⟩ (.slice A13_2 0 c13_2)).setCell ⟨gb14, 7, none⟩ (.slice A13_3 0 c13_3)).setCell ⟨gb14, 8, none⟩ (.int .i64 ((-1)))).setCell ⟨gb14, 9, none⟩ (.slice A13_4 0 c13_4))) ?hg ?ho ?hn ?hr ?_; (case ho => rfl); (case hg => rfl); (case hn => rfl); (case hr => first | (go_simp; done) | (go_simp; rfl)); intro W15 hw; have hk_ : Kept W14 W15 (fun k_ => k_ = gb14) := (by rw [hw]; exact Kept.setCell (Kept.setCell (Kept.setCell (Kept.setCell (Kept.setCell (Kept.setCell (Kept.setCell (Kept.setCell (Kept.setCell (Kept.setCell (Kept.refl W14 (fun k_ => k_ = gb14)) (.inl rfl) _) (.inl rfl) _) (.inl rfl) _) (.inl rfl) _) (.inl rfl) _) (.inl rfl) _) (.inl rfl) _) (.inl rfl) _) (.inl rfl) _) (.inl rfl) _); have hge_ : w.heap.size ≤ gb14 := (by have := E14.out.1; have := HB.out.size; have := Z1.out; have := Z2.out; have := Z3.out; have := Z4.out; have := Z5.out; have := Z6.out; have := Z7.out; have := Z9.out; have := Z10.out; have := Z13.out; have := Z14.out; omega); have Z15 := Aside0.mk hk_.1; have h_ := Kd.R_step HO1_0.out (fun k_ h1_ h2_ => hk_.2 k_ h2_ (fun h3_ => by obtain ⟨_, _⟩ := h1_; have := E14.out; have := Z1.out; have := Z2.out; have := Z3.out; have := Z4.out; have := Z5.out; have := Z6.out; have := Z7.out; have := Z9.out; have := Z10.out; have := Z13.out; have := Z14.out; omega)); clear HO1_0; have HO1_0 := Aside0.mk h_; clear h_; have h_ := Kd.R_step HO1_1.out (fun k_ h1_ h2_ => hk_.2 k_ h2_ (fun h3_ => by obtain ⟨_, _⟩ := h1_; have := E14.out; have := Z1.out; have := Z2.out; have := Z3.out; have := Z4.out; have := Z5.out; have := Z6.out; have := Z7.out; have := Z9.out; have := Z10.out; have := Z13.out; have := Z14.out; omega)); clear HO1_1; have HO1_1 := Aside0.mk h_; clear h_; have h_ := Kd.R_step HO1_2.out (fun k_ h1_ h2_ => hk_.2 k_ h2_ (fun h3_ => by obtain ⟨_, _⟩ := h1_; have := E14.out; have := Z1.out; have := Z2.out; have := Z3.out; have := Z4.out; have := Z5.out; have := Z6.out; have := Z7.out; have := Z9.out; have := Z10.out; have := Z13.out; have := Z14.out; omega)); clear HO1_2; have HO1_2 := Aside0.mk h_; clear h_; have h_ := Kd.R_step HO1_3.out (fun k_ h1_ h2_ => hk_.2 k_ h2_ (fun h3_ => by obtain ⟨_, _⟩ := h1_; have := E14.out; have := Z1.out; have := Z2.out; have := Z3.out; have := Z4.out; have := Z5.out; have := Z6.out; have := Z7.out; have := Z9.out; have := Z10.out; have := Z13.out; have := Z14.out; omega)); clear HO1_3; have HO1_3 := Aside0.mk h_; clear h_; have h_ := Kd.R_step HO1_4.out (fun k_ h1_ h2_ => hk_.2 k_ h2_ (fun h3_ => by obtain ⟨_, _⟩ := h1_; have := E14.out; have := Z1.out; have := Z2.out; have := Z3.out; have := Z4.out; have := Z5.out; have := Z6.out; have := Z7.out; have := Z9.out; have := Z10.out; have := Z13.out; have := Z14.out; omega)); clear HO1_4; have HO1_4 := Aside0.mk h_; clear h_; have h_ := Kd.R_step HO9_0.out (fun k_ h1_ h2_ => hk_.2 k_ h2_ (fun h3_ => by obtain ⟨_, _⟩ := h1_; have := E14.out; have := Z1.out; have := Z2.out; have := Z3.out; have := Z4.out; have := Z5.out; have := Z6.out; have := Z7.out; have := Z9.out; have := Z10.out; have := Z13.out; have := Z14.out; omega)); clear HO9_0; have HO9_0 := Aside0.mk h_; clear h_; have h_ := Kd.R_step HO9_1.out (fun k_ h1_ h2_ => hk_.2 k_ h2_ (fun h3_ => by obtain ⟨_, _⟩ := h1_; have := E14.out; have := Z1.out; have := Z2.out; have := Z3.out; have := Z4.out; have := Z5.out; have := Z6.out; have := Z7.out; have := Z9.out; have := Z10.out; have := Z13.out; have := Z14.out; omega)); clear HO9_1; have HO9_1 := Aside0.mk h_; clear h_; have h_ := Kd.R_step HO9_2.out (fun k_ h1_ h2_ => hk_.2 k_ h2_ (fun h3_ => by obtain ⟨_, _⟩ := h1_; have := E14.out; have := Z1.out; have := Z2.out; have := Z3.out; have := Z4.out; have := Z5.out; have := Z6.out; have := Z7.out; have := Z9.out; have := Z10.out; have := Z13.out; have := Z14.out; omega)); clear HO9_2; have HO9_2 := Aside0.mk h_; clear h_; have h_ := Kd.R_step HO9_3.out (fun k_ h1_ h2_ => hk_.2 k_ h2_ (fun h3_ => by obtain ⟨_, _⟩ := h1_; have := E14.out; have := Z1.out; have := Z2.out; have := Z3.out; have := Z4.out; have := Z5.out; have := Z6.out; have := Z7.out; have := Z9.out; have := Z10.out; have := Z13.out; have := Z14.out; omega)); clear HO9_3; have HO9_3 := Aside0.mk h_; clear h_; have h_ := Kd.R_step HO13_0.out (fun k_ h1_ h2_ => hk_.2 k_ h2_ (fun h3_ => by obtain ⟨_, _⟩ := h1_; have := E14.out; have := Z1.out; have := Z2.out; have := Z3.out; have := Z4.out; have := Z5.out; have := Z6.out; have := Z7.out; have := Z9.out; have := Z10.out; have := Z13.out; have := Z14.out; omega)); clear HO13_0; have HO13_0 := Aside0.mk h_; clear h_; have h_ := Kd.R_step HO13_1.out (fun k_ h1_ h2_ => hk_.2 k_ h2_ (fun h3_ => by obtain ⟨_, _⟩ := h1_; have := E14.out; have := Z1.out; have := Z2.out; have := Z3.out; have := Z4.out; have := Z5.out; have := Z6.out; have := Z7.out; have := Z9.out; have := Z10.out; have := Z13.out; have := Z14.out; omega)); clear HO13_1; have HO13_1 := Aside0.mk h_; clear h_; have h_ := Kd.R_step HO13_2.out (fun k_ h1_ h2_ => hk_.2 k_ h2_ (fun h3_ => by obtain ⟨_, _⟩ := h1_; have := E14.out; have := Z1.out; have := Z2.out; have := Z3.out; have := Z4.out; have := Z5.out; have := Z6.out; have := Z7.out; have := Z9.out; have := Z10.out; have := Z13.out; have := Z14.out; omega)); clear HO13_2; have HO13_2 := Aside0.mk h_; clear h_; have h_ := Kd.R_step HO13_3.out (fun k_ h1_ h2_ => hk_.2 k_ h2_ (fun h3_ => by obtain ⟨_, _⟩ := h1_; have := E14.out; have := Z1.out; have := Z2.out; have := Z3.out; have := Z4.out; have := Z5.out; have := Z6.out; have := Z7.out; have := Z9.out; have := Z10.out; have := Z13.out; have := Z14.out; omega)); clear HO13_3; have HO13_3 := Aside0.mk h_; clear h_; have h_ := Kd.R_step HO13_4.out (fun k_ h1_ h2_ => hk_.2 k_ h2_ (fun h3_ => by obtain ⟨_, _⟩ := h1_; have := E14.out; have := Z1.out; have := Z2.out; have := Z3.out; have := Z4.out; have := Z5.out; have := Z6.out; have := Z7.out; have := Z9.out; have := Z10.out; have := Z13.out; have := Z14.out; omega)); clear HO13_4; have HO13_4 := Aside0.mk h_; clear h_; have h_ := blk_kept BK2.out hk_ (fun hp_ => by have := E2.out; have := E14.out; have := Z1.out; have := Z2.out; have := Z3.out; have := Z4.out; have := Z5.out; have := Z6.out; have := Z7.out; have := Z9.out; have := Z10.out; have := Z13.out; have := Z14.out; omega); clear BK2 c_BK2 z_BK2; have BK2 := Aside0.mk h_; have c_BK2 := blk_cell h_; have z_BK2 := blk_frozen h_; clear h_; have h_ := blk_kept BK5.out hk_ (fun hp_ => by have := E5.out; have := E14.out; have := Z1.out; have := Z2.out; have := Z3.out; have := Z4.out; have := Z5.out; have := Z6.out; have := Z7.out; have := Z9.out; have := Z10.out; have := Z13.out; have := Z14.out; omega); clear BK5 c_BK5 z_BK5; have BK5 := Aside0.mk h_; have c_BK5 := blk_cell h_; have z_BK5 := blk_frozen h_; clear h_; have h_ := blk_set (blk_set (blk_set (blk_set (blk_set (blk_set (blk_set (blk_set (blk_set (blk_set (BK14.out) 0 (.int .i64 (a0))) 1 (.int .i64 (0))) 2 (.int .i64 (0))) 3 (.slice A13_0 0 c13_0)) 4 (.int .i64 (0))) 5 (.slice A13_1 0 c13_1)) 6 (.slice A13_2 0 c13_2)) 7 (.slice A13_3 0 c13_3)) 8 (.int .i64 ((-1)))) 9 (.slice A13_4 0 c13_4); rw [← hw] at h_; simp only [List.setIfInBounds_toArray, List.set_cons_zero, List.set_cons_succ] at h_; clear BK14 c_BK14 z_BK14; have BK14 := Aside0.mk h_; have c_BK14 := blk_cell h_; have z_BK14 := blk_frozen h_; clear h_; have hB_ : Below w.heap.size w W15 := (by rw [hw]; exact below_set (below_set (below_set (below_set (below_set (below_set (below_set (below_set (below_set (below_set (HB.out) hge_) hge_) hge_) hge_) hge_) hge_) hge_) hge_) hge_) hge_); clear HB hw hk_ hge_; have HB := Aside0.mk hB_; clear hB_))
        have H := H''.out
        clear H''
        replace H := Option.bind_eq_some_iff.mp H
        obtain ⟨t280, hm, H⟩ := H
        try dsimp only at H
        have H' := Aside0.mk H
        clear H
        have hcall := laws_eqPoint.calls k (a0) (0) (0) _ _ ([] : List (S149)) (0) _ _ ([] : List (S174)) _ _ ([] : List (S132)) _ _ ([] : List (S99)) ((-1)) _ _ ([] : List (S103)) (a0) (0) (0) _ _ ([] : List (S149)) (0) _ _ ([] : List (S174)) _ _ ([] : List (S132)) _ _ ([] : List (S99)) ((-1)) _ _ ([] : List (S103)) t280 W15 (Go.Proofs.YtineejdlpcgnkaaM.R_C HO13_0.out) (Go.Proofs.YtineejdlpcgnkaaM.R_len HO13_0.out) (Go.Proofs.YtineejdlpcgnkaaM.R_C HO13_1.out) (Go.Proofs.YtineejdlpcgnkaaM.R_len HO13_1.out) (Go.Proofs.YtineejdlpcgnkaaM.R_C HO13_2.out) (Go.Proofs.YtineejdlpcgnkaaM.R_len HO13_2.out) (Go.Proofs.YtineejdlpcgnkaaM.R_C HO13_3.out) (Go.Proofs.YtineejdlpcgnkaaM.R_len HO13_3.out) (Go.Proofs.YtineejdlpcgnkaaM.R_C HO13_4.out) (Go.Proofs.YtineejdlpcgnkaaM.R_len HO13_4.out) (Go.Proofs.YtineejdlpcgnkaaM.R_C HO1_0.out) (Go.Proofs.YtineejdlpcgnkaaM.R_len HO1_0.out) (Go.Proofs.YtineejdlpcgnkaaM.R_C HO1_1.out) (Go.Proofs.YtineejdlpcgnkaaM.R_len HO1_1.out) (Go.Proofs.YtineejdlpcgnkaaM.R_C HO1_2.out) (Go.Proofs.YtineejdlpcgnkaaM.R_len HO1_2.out) (Go.Proofs.YtineejdlpcgnkaaM.R_C HO1_3.out) (Go.Proofs.YtineejdlpcgnkaaM.R_len HO1_3.out) (Go.Proofs.YtineejdlpcgnkaaM.R_C HO1_4.out) (Go.Proofs.YtineejdlpcgnkaaM.R_len HO1_4.out) hm
        simp only [List.length_nil] at hcall
        clear hm
        try go_wp2_with fail
        refine hcall.mono ?_
        rintro e W16 ⟨rfl, hb⟩
        clear hcall
        have Z16 := Aside0.mk hb.size
        have h_ := Kd.R_below HO1_0.out hb
        clear HO1_0
        have HO1_0 := Aside0.mk h_
        clear h_
        have h_ := Kd.R_below HO1_1.out hb
        clear HO1_1
        have HO1_1 := Aside0.mk h_
        clear h_
        have h_ := Kd.R_below HO1_2.out hb
        clear HO1_2
        have HO1_2 := Aside0.mk h_
        clear h_
        have h_ := Kd.R_below HO1_3.out hb
        clear HO1_3
        have HO1_3 := Aside0.mk h_
        clear h_
        have h_ := Kd.R_below HO1_4.out hb
        clear HO1_4
        have HO1_4 := Aside0.mk h_
        clear h_
        have h_ := Kd.R_below HO9_0.out hb
        clear HO9_0
        have HO9_0 := Aside0.mk h_
        clear h_
        have h_ := Kd.R_below HO9_1.out hb
        clear HO9_1
        have HO9_1 := Aside0.mk h_
        clear h_
        have h_ := Kd.R_below HO9_2.out hb
        clear HO9_2
        have HO9_2 := Aside0.mk h_
        clear h_
        have h_ := Kd.R_below HO9_3.out hb
        clear HO9_3
        have HO9_3 := Aside0.mk h_
        clear h_
        have h_ := Kd.R_below HO13_0.out hb
        clear HO13_0
        have HO13_0 := Aside0.mk h_
        clear h_
        have h_ := Kd.R_below HO13_1.out hb
        clear HO13_1
        have HO13_1 := Aside0.mk h_
        clear h_
        have h_ := Kd.R_below HO13_2.out hb
        clear HO13_2
        have HO13_2 := Aside0.mk h_
        clear h_
        have h_ := Kd.R_below HO13_3.out hb
        clear HO13_3
        have HO13_3 := Aside0.mk h_
        clear h_
        have h_ := Kd.R_below HO13_4.out hb
        clear HO13_4
        have HO13_4 := Aside0.mk h_
        clear h_
        have h_ := blk_below BK2.out hb
        clear BK2 c_BK2 z_BK2
        have BK2 := Aside0.mk h_
        have c_BK2 := blk_cell h_
        have z_BK2 := blk_frozen h_
        clear h_
        have h_ := blk_below BK5.out hb
        clear BK5 c_BK5 z_BK5
        have BK5 := Aside0.mk h_
        have c_BK5 := blk_cell h_
        have z_BK5 := blk_frozen h_
        clear h_
        have h_ := blk_below BK14.out hb
        clear BK14 c_BK14 z_BK14
        have BK14 := Aside0.mk h_
        have c_BK14 := blk_cell h_
        have z_BK14 := blk_frozen h_
        clear h_
        have hB_ := below_step HB.out hb
        clear HB hb
        have HB := Aside0.mk hB_
        clear hB_
        have H := H'.out
        clear H'
        by_cases c17 : t280 = true
        · rw [if_pos c17] at H
          subst c17
          replace H := Option.bind_eq_some_iff.mp H
          obtain ⟨t281, hm, H⟩ := H
          try dsimp only at H
          have H' := Aside0.mk H
          clear H
          have hcall := laws_heldPoint.calls k (a0) (0) (0) _ _ t254 (0) _ _ ([] : List (S174)) _ _ t255 _ _ t256 ((-1)) _ _ t257 1 t281 W16 (Go.Proofs.YtineejdlpcgnkaaM.R_C HO9_0.out) (Go.Proofs.YtineejdlpcgnkaaM.R_len HO9_0.out) (Go.Proofs.YtineejdlpcgnkaaM.E_C HO4_1.out) (Go.Proofs.YtineejdlpcgnkaaM.E_len HO4_1.out) (Go.Proofs.YtineejdlpcgnkaaM.R_C HO9_1.out) (Go.Proofs.YtineejdlpcgnkaaM.R_len HO9_1.out) (Go.Proofs.YtineejdlpcgnkaaM.R_C HO9_2.out) (Go.Proofs.YtineejdlpcgnkaaM.R_len HO9_2.out) (Go.Proofs.YtineejdlpcgnkaaM.R_C HO9_3.out) (Go.Proofs.YtineejdlpcgnkaaM.R_len HO9_3.out) hm
          rw [Go.Proofs.YtineejdlpcgnkaaM.R_n HO9_0.out, Go.Proofs.YtineejdlpcgnkaaM.R_n HO9_1.out, Go.Proofs.YtineejdlpcgnkaaM.R_n HO9_2.out, Go.Proofs.YtineejdlpcgnkaaM.R_n HO9_3.out] at hcall
          simp only [List.length_nil] at hcall
          clear hm
          go_wp2_with fail
          refine hcall.mono ?_
          rintro e W18 ⟨rfl, hb⟩
          clear hcall
          have Z18 := Aside0.mk hb.size
          have h_ := Kd.R_below HO1_0.out hb
          clear HO1_0
          have HO1_0 := Aside0.mk h_
          clear h_
          have h_ := Kd.R_below HO1_1.out hb
          clear HO1_1
          have HO1_1 := Aside0.mk h_
          clear h_
          have h_ := Kd.R_below HO1_2.out hb
          clear HO1_2
          have HO1_2 := Aside0.mk h_
          clear h_
          have h_ := Kd.R_below HO1_3.out hb
          clear HO1_3
          have HO1_3 := Aside0.mk h_
          clear h_
          have h_ := Kd.R_below HO1_4.out hb
          clear HO1_4
          have HO1_4 := Aside0.mk h_
          clear h_
          have h_ := Kd.R_below HO9_0.out hb
          clear HO9_0
          have HO9_0 := Aside0.mk h_
          clear h_
          have h_ := Kd.R_below HO9_1.out hb
          clear HO9_1
          have HO9_1 := Aside0.mk h_
          clear h_
          have h_ := Kd.R_below HO9_2.out hb
          clear HO9_2
          have HO9_2 := Aside0.mk h_
          clear h_
          have h_ := Kd.R_below HO9_3.out hb
          clear HO9_3
          have HO9_3 := Aside0.mk h_
          clear h_
          have h_ := Kd.R_below HO13_0.out hb
          clear HO13_0
          have HO13_0 := Aside0.mk h_
          clear h_
          have h_ := Kd.R_below HO13_1.out hb
          clear HO13_1
          have HO13_1 := Aside0.mk h_
          clear h_
          have h_ := Kd.R_below HO13_2.out hb
          clear HO13_2
          have HO13_2 := Aside0.mk h_
          clear h_
          have h_ := Kd.R_below HO13_3.out hb
          clear HO13_3
          have HO13_3 := Aside0.mk h_
          clear h_
          have h_ := Kd.R_below HO13_4.out hb
          clear HO13_4
          have HO13_4 := Aside0.mk h_
          clear h_
          have h_ := blk_below BK2.out hb
          clear BK2 c_BK2 z_BK2
          have BK2 := Aside0.mk h_
          have c_BK2 := blk_cell h_
          have z_BK2 := blk_frozen h_
          clear h_
          have h_ := blk_below BK5.out hb
          clear BK5 c_BK5 z_BK5
          have BK5 := Aside0.mk h_
          have c_BK5 := blk_cell h_
          have z_BK5 := blk_frozen h_
          clear h_
          have h_ := blk_below BK14.out hb
          clear BK14 c_BK14 z_BK14
          have BK14 := Aside0.mk h_
          have c_BK14 := blk_cell h_
          have z_BK14 := blk_frozen h_
          clear h_
          have hB_ := below_step HB.out hb
          clear HB hb
          have HB := Aside0.mk hB_
          clear hB_
          have H := H'.out
          clear H'
          by_cases c19 : t281 < 0
          · rw [if_pos c19] at H
            have c19_0 : decide (t281 < 0) = true := decide_eq_true c19
            clear c19
            obtain rfl := Option.some.inj H
            clear H
            go_wp2
            go_ret
            exact ⟨rfl, HB.out⟩
          · rw [if_neg c19] at H
            have c19_0 : decide (t281 < 0) = false := decide_eq_false c19
            clear c19
            by_cases c20 : t281 = t253
            · rw [if_pos c20] at H
              have c20_1 : (t281 == t253) = true := beq_iff_eq.mpr c20
              have c20_2 : (t281 != t253) = false := bne_eq_false_iff_eq.mpr c20
              have c20_0 : decide (t281 = t253) = true := decide_eq_true c20
              clear c20
              obtain rfl := Option.some.inj H
              clear H
              go_wp2
              go_ret
              exact ⟨rfl, HB.out⟩
            · rw [if_neg c20] at H
              have c20_1 : (t281 == t253) = false := beq_eq_false_iff_ne.mpr c20
              have c20_2 : (t281 != t253) = true := bne_iff_ne.mpr c20
              have c20_0 : decide (t281 = t253) = false := decide_eq_false c20
              clear c20
              obtain rfl := Option.some.inj H
              clear H
              go_wp2
              go_ret
              exact ⟨rfl, HB.out⟩
        · rw [if_neg c17] at H
          replace c17 : t280 = false := by simpa using c17
          subst c17
          obtain rfl := Option.some.inj H
          clear H
          go_wp2
          go_ret
          exact ⟨rfl, HB.out⟩
      · rw [if_neg c12] at H
        have c12_1 : (t258 == t253) = false := beq_eq_false_iff_ne.mpr c12
        have c12_2 : (t258 != t253) = true := bne_iff_ne.mpr c12
        have c12_0 : decide (t258 = t253) = false := decide_eq_false c12
        clear c12
        obtain rfl := Option.some.inj H
        clear H
        go_wp2
        go_ret
        exact ⟨rfl, HB.out⟩
  · rw [if_neg c8] at H
    replace c8 : t252 = false := by simpa using c8
    subst c8
    obtain rfl := Option.some.inj H
    clear H
    go_wp2
    go_ret
    exact ⟨rfl, HB.out⟩

/-- What is left to show of laws_FnExactNewPoint: over numbers and lists alone. -/
def laws_FnExactNewPoint.Pure : Prop := ∀ (a0 : Int), (Lit.int .i64 a0).wf = true → ∃ k, laws_FnExactNewPoint.f k a0 = some true

end Go.Proofs.Ytineejdlpcgnkaa.QFnExactNewPoint
