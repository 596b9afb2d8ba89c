/- The machine side of FnDelegated: what each function that it reaches computes, and that the machine's call gives just that. -/
import Derived.Test.YtplfbjbbnjlnkaaQFnDelegatedx0
import Derived.Test.YtplfbjbbnjlnkaaQFnDelegatedx3
import Derived.Test.YtplfbjbbnjlnkaaQFnDelegatedx4
import Derived.Test.YtplfbjbbnjlnkaaQFnDelegatedx5
namespace Go.Proofs.Ytplfbjbbnjlnkaa.QFnDelegated
open Go.RowKit Go.Proofs.YtplfbjbbnjlnkaaW.PrintWords Go.Proofs.YtplfbjbbnjlnkaaW.PrintLast Go.Proofs.YtplfbjbbnjlnkaaW.PrintMore
attribute [local go_sem] max2_int min2_int max_two min_two max_three min_three max_four min_four   -- for this text's walks alone
set_option linter.unusedVariables false
set_option linter.unusedSimpArgs false

/-! ### spec_l30Grant: function 190 -/
mutual
def spec_l30Grant.j0 : Nat → List (S51) → Bool → List Int → Int → Int → Int → Int → Int → Int → Int → Bool → Option (Int × Int × Int × List Int × Int × Int × Bool × Int × Int)
 | 0, _, _, _, _, _, _, _, _, _, _, _ => none
 | k + 1, x1, x21, x1000, x1001, x1002, x303000, x303001, x303002, x303004, x303005, x303006 => if x21 = true then ((spec_l1Below.f x1000 x1001 x1002 (x1.length : Int)).bind fun bt306 => ((spec_l1Once.f x1000 bt306.2.1 bt306.2.2 5).bind fun bt309 => (if bt309.1 = true then (spec_l30Grant.j1 k x1000 bt309.2.1 bt309.2.2 x303000 x303001 x303002 x303004 (wrap64 (1 + bt306.1)) x303006) else (if 0 ≤ (wrap64 ((wrap64 (1 + bt306.1)) - 1)) then (if (wrap64 ((wrap64 (1 + bt306.1)) - 1)) < (x1.length : Int) then (spec_l30Grant.j1 k x1000 bt309.2.1 bt309.2.2 x303000 ((rd_T51 x1 (wrap64 ((wrap64 (1 + bt306.1)) - 1))).f2) (wrap64 (((rd_T51 x1 (wrap64 ((wrap64 (1 + bt306.1)) - 1))).f2) + 1)) x303004 (wrap64 (1 + bt306.1)) x303006) else (none)) else (none))))) else (spec_l30Grant.j1 k x1000 x1001 x1002 x303000 x303001 x303002 x303004 x303005 x303006)
def spec_l30Grant.j1 : Nat → List Int → Int → Int → Int → Int → Int → Int → Int → Bool → Option (Int × Int × Int × List Int × Int × Int × Bool × Int × Int)
 | 0, _, _, _, _, _, _, _, _, _ => none
 | k + 1, x1000, x1001, x1002, x303000, x303001, x303002, x303004, x303005, x303006 => spec_l30Grant.l0 k 0 x1000 x1001 x1002 x303000 x303001 x303002 ([] : List Int) x303004 x303005 x303006
def spec_l30Grant.l0 : Nat → Int → List Int → Int → Int → Int → Int → Int → List Int → Int → Int → Bool → Option (Int × Int × Int × List Int × Int × Int × Bool × Int × Int)
 | 0, _, _, _, _, _, _, _, _, _, _, _ => none
 | k + 1, x6, x1000, x1001, x1002, x303000, x303001, x303002, x303003, x303004, x303005, x303006 => if x6 < 3 then ((spec_l1Once.f x1000 x1001 x1002 3).bind fun bt313 => (if bt313.1 = true then (spec_l30Grant.l0 k (wrap64 (x6 + 1)) x1000 bt313.2.1 bt313.2.2 x303000 x303001 x303002 x303003 x303004 x303005 x303006) else (if x303003.length < 17592186044416 then (spec_l30Grant.l0 k (wrap64 (x6 + 1)) x1000 bt313.2.1 bt313.2.2 x303000 x303001 x303002 (x303003 ++ [x6]) x303004 x303005 x303006) else (none)))) else (some (x303000, x303001, x303002, x303003, x303004, x303005, x303006, x1001, x1002))
end
def spec_l30Grant.f (k : Nat) (s0_0 : List Int) (s0_1 : Int) (s0_2 : Int) (l1 : List (S51)) : Option (Int × Int × Int × List Int × Int × Int × Bool × Int × Int) := (spec_l5Name.f s0_0 s0_1 s0_2 1).bind fun bt293 => ((spec_l1Below.f s0_0 bt293.2.1 bt293.2.2 3).bind fun bt296 => ((spec_l1Below.f s0_0 bt296.2.1 bt296.2.2 30).bind fun bt299 => (if (l1.length : Int) > 0 then ((spec_l1Once.f s0_0 bt299.2.1 bt299.2.2 2).bind fun bt303 => (spec_l30Grant.j0 k l1 bt303.1 s0_0 bt303.2.1 bt303.2.2 0 bt293.1 (wrap64 (13 + bt296.1)) bt299.1 0 false)) else (spec_l30Grant.j0 k l1 false s0_0 bt299.2.1 bt299.2.2 0 bt293.1 (wrap64 (13 + bt296.1)) bt299.1 0 false))))
set_option maxHeartbeats 8000000 in
set_option maxRecDepth 100000 in
theorem spec_l30Grant.calls (k : Nat) (g : Nat) (s0_0 : List Int) (s0_1 : Int) (s0_2 : Int) (A1 : Option Addr) (c1 : Nat) (l1 : List (S51)) (r1 : Int) (r2 : Int) (r3 : Int) (r4 : List Int) (r5 : Int) (r6 : Int) (r7 : Bool) (r8 : Int) (r9 : Int) (w0 w : World) (hI : IsS185 w0 w g s0_0 s0_1 s0_2) (hB : Below w0.heap.size w0 w) (hr1 : ∀ W_, KeepBut w W_ g none → Kd.C k51 W_ A1 l1.length l1) (hc1 : l1.length ≤ c1) (h : spec_l30Grant.f k s0_0 s0_1 s0_2 l1 = some (r1, r2, r3, r4, r5, r6, r7, r8, r9)) :
  Calls Try.prog 190 #[.pointer (some ⟨g, 0, none⟩), .slice A1 l1.length c1] w fun e w' => ∃ v3_ : Value, e = .returned (.agg #[.int .i64 r1, .int .i64 r2, .int .i64 r3, v3_, .int .i64 r5, .int .i64 r6, .bool r7]) ∧ Kd.R (Kd.int .i64) 3 w' w.heap.size (fun _ => True) v3_ r4 ∧ IsS185 w0 w' g s0_0 r8 r9 ∧ Below w0.heap.size w0 w' ∧ KeepBut w w' g none := by
 have hu51 := Try.underlying51
 have HR1 := Aside0.mk hr1
 have HC1 := Aside0.mk hc1
 clear hr1 hc1
 have HI0 := Aside0.mk hI
 have HK := Aside0.mk (KeepBut.refl w g none)
 have HL := Aside0.mk hB.size
 clear hI
 have HW0 := Aside0.mk hB.size
 have HB := Aside0.mk hB
 clear hB
 have H : ((spec_l5Name.f s0_0 s0_1 s0_2 1).bind fun bt293 => ((spec_l1Below.f s0_0 bt293.2.1 bt293.2.2 3).bind fun bt296 => ((spec_l1Below.f s0_0 bt296.2.1 bt296.2.2 30).bind fun bt299 => (if (l1.length : Int) > 0 then ((spec_l1Once.f s0_0 bt299.2.1 bt299.2.2 2).bind fun bt303 => (spec_l30Grant.j0 k l1 bt303.1 s0_0 bt303.2.1 bt303.2.2 0 bt293.1 (wrap64 (13 + bt296.1)) bt299.1 0 false)) else (spec_l30Grant.j0 k l1 false s0_0 bt299.2.1 bt299.2.2 0 bt293.1 (wrap64 (13 + bt296.1)) bt299.1 0 false))))) = some (r1, r2, r3, r4, r5, r6, r7, r8, r9) := h
 clear h
 replace H := Option.bind_eq_some_iff.mp H
 obtain ⟨⟨t293, t294, t295⟩, A30, H⟩ := H
 replace H : ((spec_l1Below.f s0_0 t294 t295 3).bind fun bt296 => ((spec_l1Below.f s0_0 bt296.2.1 bt296.2.2 30).bind fun bt299 => (if (l1.length : Int) > 0 then ((spec_l1Once.f s0_0 bt299.2.1 bt299.2.2 2).bind fun bt303 => (spec_l30Grant.j0 k l1 bt303.1 s0_0 bt303.2.1 bt303.2.2 0 t293 (wrap64 (13 + bt296.1)) bt299.1 0 false)) else (spec_l30Grant.j0 k l1 false s0_0 bt299.2.1 bt299.2.2 0 t293 (wrap64 (13 + bt296.1)) bt299.1 0 false)))) = some (r1, r2, r3, r4, r5, r6, r7, r8, r9) := H
 have A3 := Aside0.mk A30
 clear A30
 replace H := Option.bind_eq_some_iff.mp H
 obtain ⟨⟨t296, t297, t298⟩, A40, H⟩ := H
 replace H : ((spec_l1Below.f s0_0 t297 t298 30).bind fun bt299 => (if (l1.length : Int) > 0 then ((spec_l1Once.f s0_0 bt299.2.1 bt299.2.2 2).bind fun bt303 => (spec_l30Grant.j0 k l1 bt303.1 s0_0 bt303.2.1 bt303.2.2 0 t293 (wrap64 (13 + t296)) bt299.1 0 false)) else (spec_l30Grant.j0 k l1 false s0_0 bt299.2.1 bt299.2.2 0 t293 (wrap64 (13 + t296)) bt299.1 0 false))) = some (r1, r2, r3, r4, r5, r6, r7, r8, r9) := H
 have A4 := Aside0.mk A40
 clear A40
 replace H := Option.bind_eq_some_iff.mp H
 obtain ⟨⟨t299, t300, t301⟩, A50, H⟩ := H
 replace H : (if (l1.length : Int) > 0 then ((spec_l1Once.f s0_0 t300 t301 2).bind fun bt303 => (spec_l30Grant.j0 k l1 bt303.1 s0_0 bt303.2.1 bt303.2.2 0 t293 (wrap64 (13 + t296)) t299 0 false)) else (spec_l30Grant.j0 k l1 false s0_0 t300 t301 0 t293 (wrap64 (13 + t296)) t299 0 false)) = some (r1, r2, r3, r4, r5, r6, r7, r8, r9) := H
 have A5 := Aside0.mk A50
 clear A50
 have HC6 := Aside0.mk H
 clear H
 go_enter Try.func190, Try.ntmps190
 go_upto_region 2 with (first | ((with_reducible refine gate_dst (N := 4) rfl ?_); refine box_event ?hg (N := 4) ?hd (cs := #[.int .i64 0, .int .i64 0, .int .i64 0, .slice none 0 0, .int .i64 0, .int .i64 0, .bool false]) (t := 51) ?hr ?_; (case hd => rfl); (case hg => rfl); (case hr => first | (go_simp; done) | (go_simp; rfl)); intro gb292 hg w7 hbox hb; have n0_ := Aside0.mk (IsS185.below (by repeat (first | (with_reducible first | exact HI0.out | apply IsS185.alloc | apply IsS185.drewN | apply IsS185.drew | apply IsS185.set_1 | apply IsS185.set_2) | exact HI0.out)) hb); have n1_ := Aside0.mk (KeepBut.trans (by repeat (first | (with_reducible first | exact HK.out | apply KeepBut.set_ | apply keep_drewN | apply keep_drew | apply keep_alloc) | exact HK.out)) (KeepBut.of_below hb g none) (.inl rfl)); have n2_ := Aside0.mk (below_step (by repeat (first | (with_reducible first | exact HB.out | apply below_alloc | apply pw_below_drewN | apply below_drew1 | refine below_set ?_ (IsS185.ge HI0.out)) | exact HB.out)) hb); have n3_ := Aside0.mk (hbox); have n4_ := Aside0.mk ((by rw [hg]; exact (keep_size (w := w) (g := g) (row := none) (by repeat (first | (with_reducible first | exact HK.out | apply KeepBut.set_ | apply keep_drewN | apply keep_drew | apply keep_alloc) | exact HK.out))) : w.heap.size ≤ gb292)); have n5_ := Aside0.mk ((Nat.le_trans HW0.out (by rw [hg]; exact (keep_size (w := w) (g := g) (row := none) (by repeat (first | (with_reducible first | exact HK.out | apply KeepBut.set_ | apply keep_drewN | apply keep_drew | apply keep_alloc) | exact HK.out))) : w.heap.size ≤ gb292) : w0.heap.size ≤ gb292)); have n6_ := Aside0.mk ((by rw [hg]; exact Nat.ne_of_lt (IsS185.lt (show IsS185 w0 _ g s0_0 s0_1 s0_2 from by repeat (first | (with_reducible first | exact HI0.out | apply IsS185.alloc | apply IsS185.drewN | apply IsS185.drew | apply IsS185.set_1 | apply IsS185.set_2) | exact HI0.out))) : g ≠ gb292)); have n7_ := Aside0.mk ((by rw [hg]; exact Nat.ne_of_gt (IsS185.lt (show IsS185 w0 _ g s0_0 s0_1 s0_2 from by repeat (first | (with_reducible first | exact HI0.out | apply IsS185.alloc | apply IsS185.drewN | apply IsS185.drew | apply IsS185.set_1 | apply IsS185.set_2) | exact HI0.out))) : gb292 ≠ g)); clear HI0; clear HK; clear HB; have HI0 := n0_; have HK := n1_; have HB := n2_; have BK292 := n3_; have GW292 := n4_; have GE292 := n5_; have NB0_292 := n6_; have NB292_0 := n7_; clear n0_ n1_ n2_ n3_ n4_ n5_ n6_ n7_; clear hb hbox hg) | ((with_reducible refine gate_callee (f := 167) rfl ?_); refine goesL_ (some 8) rfl rfl Try.func167 (by kernel_rfl) rfl #[.pointer (some ⟨g, 0, none⟩), .int .i64 1] rfl (by (try simp only [List.map_toArray, List.map_cons, List.map_nil]); first | done | rfl | (simp only [List.length_drop, List.length_take]; rfl)) ?_; (with_reducible refine (spec_l5Name.calls g s0_0 s0_1 s0_2 1 t293 t294 t295 w0 _ ?side1 ?side2 A3.out).mono ?_); (case side1 => repeat (first | (with_reducible first | exact HI0.out | apply IsS185.alloc | apply IsS185.drewN | apply IsS185.drew | apply IsS185.set_1 | apply IsS185.set_2 | refine IsS185.far ?_ NB0_292.out _) | exact HI0.out)); (case side2 => repeat (first | (with_reducible first | exact HB.out | apply below_alloc | apply pw_below_drewN | apply below_drew1 | refine below_set ?_ (IsS185.ge HI0.out) | refine below_set ?_ GE292.out) | exact HB.out)); rintro e w8 ⟨rfl, hi, hb, hk⟩; refine ⟨_, rfl, ?_⟩; have n0_ := Aside0.mk (KeepBut.blk hk (g' := gb292) (o := .cells #[.int .i64 0, .int .i64 0, .int .i64 0, .slice none 0 0, .int .i64 0, .int .i64 0, .bool false] 51 (0, 0)) (by (with_reducible repeat (first | refine blk_drewN ?_ _ | refine blk_drew ?_ | refine blk_alloc ?_ _)); exact BK292.out) NB292_0.out (by simp)); have n1_ := Aside0.mk (KeepBut.trans (by repeat (first | (with_reducible first | exact HK.out | apply KeepBut.set_ | apply keep_drewN | apply keep_drew | apply keep_alloc | refine keep_far ?_ GW292.out _) | exact HK.out)) hk (.inl rfl)); have n2_ := Aside0.mk (hb); have n3_ := Aside0.mk (hi); clear BK292; clear HK; clear HB; clear HI0; have BK292 := n0_; have HK := n1_; have HB := n2_; have HI0 := n3_; clear n0_ n1_ n2_ n3_; (try clear hb); (try clear hb2); (try clear hk); (try clear hi)) | ((with_reducible refine gate_callee (f := 119) rfl ?_); refine goesL_ (some 10) rfl rfl Try.func119 (by kernel_rfl) rfl #[.pointer (some ⟨g, 0, none⟩), .int .i64 3] rfl (by (try simp only [List.map_toArray, List.map_cons, List.map_nil]); first | done | rfl | (simp only [List.length_drop, List.length_take]; rfl)) ?_; (with_reducible refine (spec_l1Below.calls g s0_0 t294 t295 3 t296 t297 t298 w0 _ ?side1 ?side2 A4.out).mono ?_); (case side1 => repeat (first | (with_reducible first | exact HI0.out | apply IsS185.alloc | apply IsS185.drewN | apply IsS185.drew | apply IsS185.set_1 | apply IsS185.set_2 | refine IsS185.far ?_ NB0_292.out _) | exact HI0.out)); (case side2 => repeat (first | (with_reducible first | exact HB.out | apply below_alloc | apply pw_below_drewN | apply below_drew1 | refine below_set ?_ (IsS185.ge HI0.out) | refine below_set ?_ GE292.out) | exact HB.out)); rintro e w9 ⟨rfl, hi, hb, hk⟩; refine ⟨_, rfl, ?_⟩; have n0_ := Aside0.mk (KeepBut.blk hk (g' := gb292) (o := .cells #[.int .i64 0, .int .i64 0, .int .i64 0, .slice none 0 0, .int .i64 0, .int .i64 0, .bool false] 51 (0, 0)) (by (with_reducible repeat (first | refine blk_drewN ?_ _ | refine blk_drew ?_ | refine blk_alloc ?_ _)); exact BK292.out) NB292_0.out (by simp)); have n1_ := Aside0.mk (KeepBut.trans (by repeat (first | (with_reducible first | exact HK.out | apply KeepBut.set_ | apply keep_drewN | apply keep_drew | apply keep_alloc | refine keep_far ?_ GW292.out _) | exact HK.out)) hk (.inl rfl)); have n2_ := Aside0.mk (hb); have n3_ := Aside0.mk (hi); clear BK292; clear HK; clear HB; clear HI0; have BK292 := n0_; have HK := n1_; have HB := n2_; have HI0 := n3_; clear n0_ n1_ n2_ n3_; (try clear hb); (try clear hb2); (try clear hk); (try clear hi)) | ((with_reducible refine gate_callee (f := 119) rfl ?_); refine goesL_ (some 13) rfl rfl Try.func119 (by kernel_rfl) rfl #[.pointer (some ⟨g, 0, none⟩), .int .i64 30] rfl (by (try simp only [List.map_toArray, List.map_cons, List.map_nil]); first | done | rfl | (simp only [List.length_drop, List.length_take]; rfl)) ?_; (with_reducible refine (spec_l1Below.calls g s0_0 t297 t298 30 t299 t300 t301 w0 _ ?side1 ?side2 A5.out).mono ?_); (case side1 => repeat (first | (with_reducible first | exact HI0.out | apply IsS185.alloc | apply IsS185.drewN | apply IsS185.drew | apply IsS185.set_1 | apply IsS185.set_2 | refine IsS185.far ?_ NB0_292.out _) | exact HI0.out)); (case side2 => repeat (first | (with_reducible first | exact HB.out | apply below_alloc | apply pw_below_drewN | apply below_drew1 | refine below_set ?_ (IsS185.ge HI0.out) | refine below_set ?_ GE292.out) | exact HB.out)); rintro e w10 ⟨rfl, hi, hb, hk⟩; refine ⟨_, rfl, ?_⟩; have n0_ := Aside0.mk (KeepBut.blk hk (g' := gb292) (o := .cells #[.int .i64 0, .int .i64 0, .int .i64 0, .slice none 0 0, .int .i64 0, .int .i64 0, .bool false] 51 (0, 0)) (by (with_reducible repeat (first | refine blk_drewN ?_ _ | refine blk_drew ?_ | refine blk_alloc ?_ _)); exact BK292.out) NB292_0.out (by simp)); have n1_ := Aside0.mk (KeepBut.trans (by repeat (first | (with_reducible first | exact HK.out | apply KeepBut.set_ | apply keep_drewN | apply keep_drew | apply keep_alloc | refine keep_far ?_ GW292.out _) | exact HK.out)) hk (.inl rfl)); have n2_ := Aside0.mk (hb); have n3_ := Aside0.mk (hi); clear BK292; clear HK; clear HB; clear HI0; have BK292 := n0_; have HK := n1_; have HB := n2_; have HI0 := n3_; clear n0_ n1_ n2_ n3_; (try clear hb); (try clear hb2); (try clear hk); (try clear hi)) | ((with_reducible refine gate_dst (N := 5) rfl ?_); refine box_event ?hg (N := 5) ?hd (cs := #[.int .i64 0, .int .i64 0, .int .i64 0, .slice none 0 0, .int .i64 0, .int .i64 0, .bool false]) (t := 51) ?hr ?_; (case hd => rfl); (case hg => rfl); (case hr => first | (go_simp; done) | (go_simp; rfl)); intro gb302 hg w11 hbox hb; have n0_ := Aside0.mk (IsS185.below (by repeat (first | (with_reducible first | exact HI0.out | apply IsS185.alloc | apply IsS185.drewN | apply IsS185.drew | apply IsS185.set_1 | apply IsS185.set_2 | refine IsS185.far ?_ NB0_292.out _) | exact HI0.out)) hb); have n1_ := Aside0.mk (blk_below (g := gb292) (o := .cells #[.int .i64 0, .int .i64 0, .int .i64 0, .slice none 0 0, .int .i64 0, .int .i64 0, .bool false] 51 (0, 0)) (by (with_reducible repeat (first | refine blk_drewN ?_ _ | refine blk_drew ?_ | refine blk_alloc ?_ _)); exact BK292.out) hb); have n2_ := Aside0.mk (KeepBut.trans (by repeat (first | (with_reducible first | exact HK.out | apply KeepBut.set_ | apply keep_drewN | apply keep_drew | apply keep_alloc | refine keep_far ?_ GW292.out _) | exact HK.out)) (KeepBut.of_below hb g none) (.inl rfl)); have n3_ := Aside0.mk (below_step (by repeat (first | (with_reducible first | exact HB.out | apply below_alloc | apply pw_below_drewN | apply below_drew1 | refine below_set ?_ (IsS185.ge HI0.out) | refine below_set ?_ GE292.out) | exact HB.out)) hb); have n4_ := Aside0.mk (hbox); have n5_ := Aside0.mk ((by rw [hg]; exact (keep_size (w := w) (g := g) (row := none) (by repeat (first | (with_reducible first | exact HK.out | apply KeepBut.set_ | apply keep_drewN | apply keep_drew | apply keep_alloc | refine keep_far ?_ GW292.out _) | exact HK.out))) : w.heap.size ≤ gb302)); have n6_ := Aside0.mk ((Nat.le_trans HW0.out (by rw [hg]; exact (keep_size (w := w) (g := g) (row := none) (by repeat (first | (with_reducible first | exact HK.out | apply KeepBut.set_ | apply keep_drewN | apply keep_drew | apply keep_alloc | refine keep_far ?_ GW292.out _) | exact HK.out))) : w.heap.size ≤ gb302) : w0.heap.size ≤ gb302)); have n7_ := Aside0.mk ((by rw [hg]; exact Nat.ne_of_lt (blk_lt (g := gb292) (o := .cells #[.int .i64 0, .int .i64 0, .int .i64 0, .slice none 0 0, .int .i64 0, .int .i64 0, .bool false] 51 (0, 0)) (by (with_reducible repeat (first | refine blk_drewN ?_ _ | refine blk_drew ?_ | refine blk_alloc ?_ _)); exact BK292.out)) : gb292 ≠ gb302)); have n8_ := Aside0.mk ((by rw [hg]; exact Nat.ne_of_gt (blk_lt (g := gb292) (o := .cells #[.int .i64 0, .int .i64 0, .int .i64 0, .slice none 0 0, .int .i64 0, .int .i64 0, .bool false] 51 (0, 0)) (by (with_reducible repeat (first | refine blk_drewN ?_ _ | refine blk_drew ?_ | refine blk_alloc ?_ _)); exact BK292.out)) : gb302 ≠ gb292)); have n9_ := Aside0.mk ((by rw [hg]; exact Nat.ne_of_lt (IsS185.lt (show IsS185 w0 _ g s0_0 t300 t301 from by repeat (first | (with_reducible first | exact HI0.out | apply IsS185.alloc | apply IsS185.drewN | apply IsS185.drew | apply IsS185.set_1 | apply IsS185.set_2 | refine IsS185.far ?_ NB0_292.out _) | exact HI0.out))) : g ≠ gb302)); have n10_ := Aside0.mk ((by rw [hg]; exact Nat.ne_of_gt (IsS185.lt (show IsS185 w0 _ g s0_0 t300 t301 from by repeat (first | (with_reducible first | exact HI0.out | apply IsS185.alloc | apply IsS185.drewN | apply IsS185.drew | apply IsS185.set_1 | apply IsS185.set_2 | refine IsS185.far ?_ NB0_292.out _) | exact HI0.out))) : gb302 ≠ g)); clear HI0; clear BK292; clear HK; clear HB; have HI0 := n0_; have BK292 := n1_; have HK := n2_; have HB := n3_; have BK302 := n4_; have GW302 := n5_; have GE302 := n6_; have NB292_302 := n7_; have NB302_292 := n8_; have NB0_302 := n9_; have NB302_0 := n10_; clear n0_ n1_ n2_ n3_ n4_ n5_ n6_ n7_ n8_ n9_ n10_; clear hb hbox hg; have hnb12 := NB302_292.out; have hnc12 := NB292_302.out; have hnb13 := NB302_0.out; have hnc13 := NB0_302.out; have hcz14_0 : w11.cell? ⟨gb302, 0, none⟩ = some (.int .i64 0) := (blk_cell BK302.out 0).trans rfl; have hcz14_1 : w11.cell? ⟨gb302, 1, none⟩ = some (.int .i64 0) := (blk_cell BK302.out 1).trans rfl; have hcz14_2 : w11.cell? ⟨gb302, 2, none⟩ = some (.int .i64 0) := (blk_cell BK302.out 2).trans rfl; have hcz14_3 : w11.cell? ⟨gb302, 3, none⟩ = some (.slice none 0 0) := (blk_cell BK302.out 3).trans rfl; have hcz14_4 : w11.cell? ⟨gb302, 4, none⟩ = some (.int .i64 0) := (blk_cell BK302.out 4).trans rfl; have hcz14_5 : w11.cell? ⟨gb302, 5, none⟩ = some (.int .i64 0) := (blk_cell BK302.out 5).trans rfl; have hcz14_6 : w11.cell? ⟨gb302, 6, none⟩ = some (.bool false) := (blk_cell BK302.out 6).trans rfl; have hfz14_0 := blk_frozen BK302.out 0; have hfz14_1 := blk_frozen BK302.out 1; have hfz14_2 := blk_frozen BK302.out 2; have hfz14_3 := blk_frozen BK302.out 3; have hfz14_4 := blk_frozen BK302.out 4; have hfz14_5 := blk_frozen BK302.out 5; have hfz14_6 := blk_frozen BK302.out 6))
 (try simp only [Act.put, List.setIfInBounds_toArray, List.set_cons_zero, List.set_cons_succ])
 go_cut [21] (fun v21 wc => ∃ (kq : Nat) (x21_5 : Bool) (x1001_5 : Int) (x1002_5 : Int), v21 = .bool x21_5 ∧ Aside0 (spec_l30Grant.j0 kq l1 x21_5 s0_0 x1001_5 x1002_5 0 t293 (wrap64 (13 + t296)) t299 0 false = some (r1, r2, r3, r4, r5, r6, r7, r8, r9)) ∧ Aside0 (kq ≤ k) ∧ Aside0 (wc.heap[gb292]? = some (.cells #[.int .i64 0, .int .i64 0, .int .i64 0, (.slice none 0 0), .int .i64 0, .int .i64 0, .bool false] 51 (0, 0))) ∧ Aside0 (wc.heap[gb302]? = some (.cells #[.int .i64 0, .int .i64 t293, .int .i64 (wrap64 (13 + t296)), (.slice none 0 0), .int .i64 t299, .int .i64 0, .bool false] 51 (0, 0))) ∧ Aside0 (IsS185 w0 wc g s0_0 x1001_5 x1002_5) ∧ Aside0 (KeepBut w wc g none) ∧ Aside0 (Below w0.heap.size w0 wc))
 case first =>
  have H := HC6.out
  clear HC6
  replace H := ifD H; rcases H with ⟨c15, H⟩ | ⟨c15, H⟩
  ·have c15b0 : decide (0 < (l1.length : Int)) = true := decide_eq_true c15
   have c15b1 : decide (0 < l1.length) = true := decide_eq_true (by omega)
   clear c15
   (first | rw [c15b0] | (simp only [i64_w, i32_w]; rw [c15b0]) | skip)
   replace H := Option.bind_eq_some_iff.mp H
   obtain ⟨⟨t303, t304, t305⟩, A160, H⟩ := H
   replace H : (spec_l30Grant.j0 k l1 t303 s0_0 t304 t305 0 t293 (wrap64 (13 + t296)) t299 0 false) = some (r1, r2, r3, r4, r5, r6, r7, r8, r9) := H
   have A16 := Aside0.mk A160
   clear A160
   have H' := Aside0.mk H
   clear H
   go_wp2_with (first | (go_at_call 146; (with_reducible refine (spec_l1Once.calls g s0_0 t300 t301 2 t303 t304 t305 w0 _ ?side1 ?side2 A16.out).mono ?_); (case side1 => repeat (first | (with_reducible first | exact HI0.out | apply IsS185.alloc | apply IsS185.drewN | apply IsS185.drew | apply IsS185.set_1 | apply IsS185.set_2 | refine IsS185.far ?_ NB0_292.out _ | refine IsS185.far ?_ NB0_302.out _) | exact HI0.out)); (case side2 => repeat (first | (with_reducible first | exact HB.out | apply below_alloc | apply pw_below_drewN | apply below_drew1 | refine below_set ?_ (IsS185.ge HI0.out) | refine below_set ?_ GE292.out | refine below_set ?_ GE302.out) | exact HB.out)); rintro e w17 ⟨rfl, hi, hb, hk⟩; have n0_ := Aside0.mk (KeepBut.blk hk (g' := gb292) (o := .cells #[.int .i64 0, .int .i64 0, .int .i64 0, .slice none 0 0, .int .i64 0, .int .i64 0, .bool false] 51 (0, 0)) (by (with_reducible repeat (first | refine blk_drewN ?_ _ | refine blk_drew ?_ | refine blk_alloc ?_ _)); refine blk_far ?_ NB292_302.out _; (with_reducible repeat (first | refine blk_drewN ?_ _ | refine blk_drew ?_ | refine blk_alloc ?_ _)); refine blk_far ?_ NB292_302.out _; (with_reducible repeat (first | refine blk_drewN ?_ _ | refine blk_drew ?_ | refine blk_alloc ?_ _)); refine blk_far ?_ NB292_302.out _; (with_reducible repeat (first | refine blk_drewN ?_ _ | refine blk_drew ?_ | refine blk_alloc ?_ _)); refine blk_far ?_ NB292_302.out _; (with_reducible repeat (first | refine blk_drewN ?_ _ | refine blk_drew ?_ | refine blk_alloc ?_ _)); refine blk_far ?_ NB292_302.out _; (with_reducible repeat (first | refine blk_drewN ?_ _ | refine blk_drew ?_ | refine blk_alloc ?_ _)); refine blk_far ?_ NB292_302.out _; (with_reducible repeat (first | refine blk_drewN ?_ _ | refine blk_drew ?_ | refine blk_alloc ?_ _)); refine blk_far ?_ NB292_302.out _; (with_reducible repeat (first | refine blk_drewN ?_ _ | refine blk_drew ?_ | refine blk_alloc ?_ _)); exact BK292.out) NB292_0.out (by simp)); have n1_ := Aside0.mk (KeepBut.blk hk (g' := gb302) (o := .cells #[.int .i64 0, .int .i64 t293, .int .i64 (wrap64 (13 + t296)), .slice none 0 0, .int .i64 t299, .int .i64 0, .bool false] 51 (0, 0)) (by (with_reducible repeat (first | refine blk_drewN ?_ _ | refine blk_drew ?_ | refine blk_alloc ?_ _)); refine blk_put (cs := #[.int .i64 0, .int .i64 t293, .int .i64 (wrap64 (13 + t296)), .slice none 0 0, .int .i64 t299, .int .i64 0, .bool false]) ?_ 6 _ rfl; (with_reducible repeat (first | refine blk_drewN ?_ _ | refine blk_drew ?_ | refine blk_alloc ?_ _)); refine blk_put (cs := #[.int .i64 0, .int .i64 t293, .int .i64 (wrap64 (13 + t296)), .slice none 0 0, .int .i64 t299, .int .i64 0, .bool false]) ?_ 5 _ rfl; (with_reducible repeat (first | refine blk_drewN ?_ _ | refine blk_drew ?_ | refine blk_alloc ?_ _)); refine blk_put (cs := #[.int .i64 0, .int .i64 t293, .int .i64 (wrap64 (13 + t296)), .slice none 0 0, .int .i64 0, .int .i64 0, .bool false]) ?_ 4 _ rfl; (with_reducible repeat (first | refine blk_drewN ?_ _ | refine blk_drew ?_ | refine blk_alloc ?_ _)); refine blk_put (cs := #[.int .i64 0, .int .i64 t293, .int .i64 (wrap64 (13 + t296)), .slice none 0 0, .int .i64 0, .int .i64 0, .bool false]) ?_ 3 _ rfl; (with_reducible repeat (first | refine blk_drewN ?_ _ | refine blk_drew ?_ | refine blk_alloc ?_ _)); refine blk_put (cs := #[.int .i64 0, .int .i64 t293, .int .i64 0, .slice none 0 0, .int .i64 0, .int .i64 0, .bool false]) ?_ 2 _ rfl; (with_reducible repeat (first | refine blk_drewN ?_ _ | refine blk_drew ?_ | refine blk_alloc ?_ _)); refine blk_put (cs := #[.int .i64 0, .int .i64 0, .int .i64 0, .slice none 0 0, .int .i64 0, .int .i64 0, .bool false]) ?_ 1 _ rfl; (with_reducible repeat (first | refine blk_drewN ?_ _ | refine blk_drew ?_ | refine blk_alloc ?_ _)); refine blk_put (cs := #[.int .i64 0, .int .i64 0, .int .i64 0, .slice none 0 0, .int .i64 0, .int .i64 0, .bool false]) ?_ 0 _ rfl; (with_reducible repeat (first | refine blk_drewN ?_ _ | refine blk_drew ?_ | refine blk_alloc ?_ _)); exact BK302.out) NB302_0.out (by simp)); have n2_ := Aside0.mk (KeepBut.trans (by repeat (first | (with_reducible first | exact HK.out | apply KeepBut.set_ | apply keep_drewN | apply keep_drew | apply keep_alloc | refine keep_far ?_ GW292.out _ | refine keep_far ?_ GW302.out _) | exact HK.out)) hk (.inl rfl)); have n3_ := Aside0.mk (hb); have n4_ := Aside0.mk (hi); clear BK292; clear BK302; clear HK; clear HB; clear HI0; have BK292 := n0_; have BK302 := n1_; have HK := n2_; have HB := n3_; have HI0 := n4_; clear n0_ n1_ n2_ n3_ n4_; (try clear hb); (try clear hb2); (try clear hk); (try clear hi)))
   go_meet
   case rel => exact ⟨_, (t303), (t304), (t305), (by first | rfl | (simp; done) | (simp [*]; done)), H', ⟨by first | omega | exact Nat.le_refl _⟩, ⟨by (with_reducible repeat (first | refine blk_drewN ?_ _ | refine blk_drew ?_ | refine blk_alloc ?_ _)); exact BK292.out⟩, ⟨by (with_reducible repeat (first | refine blk_drewN ?_ _ | refine blk_drew ?_ | refine blk_alloc ?_ _)); exact BK302.out⟩, ⟨by repeat (first | (with_reducible first | exact HI0.out | apply IsS185.alloc | apply IsS185.drewN | apply IsS185.drew | apply IsS185.set_1 | apply IsS185.set_2 | refine IsS185.far ?_ NB0_292.out _ | refine IsS185.far ?_ NB0_302.out _) | exact HI0.out)⟩, ⟨by repeat (first | (with_reducible first | exact HK.out | apply KeepBut.set_ | apply keep_drewN | apply keep_drew | apply keep_alloc | refine keep_far ?_ GW292.out _ | refine keep_far ?_ GW302.out _) | exact HK.out)⟩, ⟨by repeat (first | (with_reducible first | exact HB.out | apply below_alloc | apply pw_below_drewN | apply below_drew1 | refine below_set ?_ (IsS185.ge HI0.out) | refine below_set ?_ GE292.out | refine below_set ?_ GE302.out) | exact HB.out)⟩⟩
  ·have c15b0 : decide (0 < (l1.length : Int)) = false := decide_eq_false c15
   have c15b1 : decide (0 < l1.length) = false := decide_eq_false (by omega)
   clear c15
   (first | rw [c15b0] | (simp only [i64_w, i32_w]; rw [c15b0]) | skip)
   have H' := Aside0.mk H
   clear H
   go_wp2
   go_meet
   case rel => exact ⟨_, (false), (t300), (t301), (by first | rfl | (simp; done) | (simp [*]; done)), H', ⟨by first | omega | exact Nat.le_refl _⟩, ⟨by (with_reducible repeat (first | refine blk_drewN ?_ _ | refine blk_drew ?_ | refine blk_alloc ?_ _)); refine blk_far ?_ NB292_302.out _; (with_reducible repeat (first | refine blk_drewN ?_ _ | refine blk_drew ?_ | refine blk_alloc ?_ _)); refine blk_far ?_ NB292_302.out _; (with_reducible repeat (first | refine blk_drewN ?_ _ | refine blk_drew ?_ | refine blk_alloc ?_ _)); refine blk_far ?_ NB292_302.out _; (with_reducible repeat (first | refine blk_drewN ?_ _ | refine blk_drew ?_ | refine blk_alloc ?_ _)); refine blk_far ?_ NB292_302.out _; (with_reducible repeat (first | refine blk_drewN ?_ _ | refine blk_drew ?_ | refine blk_alloc ?_ _)); refine blk_far ?_ NB292_302.out _; (with_reducible repeat (first | refine blk_drewN ?_ _ | refine blk_drew ?_ | refine blk_alloc ?_ _)); refine blk_far ?_ NB292_302.out _; (with_reducible repeat (first | refine blk_drewN ?_ _ | refine blk_drew ?_ | refine blk_alloc ?_ _)); refine blk_far ?_ NB292_302.out _; (with_reducible repeat (first | refine blk_drewN ?_ _ | refine blk_drew ?_ | refine blk_alloc ?_ _)); exact BK292.out⟩, ⟨by (with_reducible repeat (first | refine blk_drewN ?_ _ | refine blk_drew ?_ | refine blk_alloc ?_ _)); refine blk_put (cs := #[.int .i64 0, .int .i64 t293, .int .i64 (wrap64 (13 + t296)), .slice none 0 0, .int .i64 t299, .int .i64 0, .bool false]) ?_ 6 _ rfl; (with_reducible repeat (first | refine blk_drewN ?_ _ | refine blk_drew ?_ | refine blk_alloc ?_ _)); refine blk_put (cs := #[.int .i64 0, .int .i64 t293, .int .i64 (wrap64 (13 + t296)), .slice none 0 0, .int .i64 t299, .int .i64 0, .bool false]) ?_ 5 _ rfl; (with_reducible repeat (first | refine blk_drewN ?_ _ | refine blk_drew ?_ | refine blk_alloc ?_ _)); refine blk_put (cs := #[.int .i64 0, .int .i64 t293, .int .i64 (wrap64 (13 + t296)), .slice none 0 0, .int .i64 0, .int .i64 0, .bool false]) ?_ 4 _ rfl; (with_reducible repeat (first | refine blk_drewN ?_ _ | refine blk_drew ?_ | refine blk_alloc ?_ _)); refine blk_put (cs := #[.int .i64 0, .int .i64 t293, .int .i64 (wrap64 (13 + t296)), .slice none 0 0, .int .i64 0, .int .i64 0, .bool false]) ?_ 3 _ rfl; (with_reducible repeat (first | refine blk_drewN ?_ _ | refine blk_drew ?_ | refine blk_alloc ?_ _)); refine blk_put (cs := #[.int .i64 0, .int .i64 t293, .int .i64 0, .slice none 0 0, .int .i64 0, .int .i64 0, .bool false]) ?_ 2 _ rfl; (with_reducible repeat (first | refine blk_drewN ?_ _ | refine blk_drew ?_ | refine blk_alloc ?_ _)); refine blk_put (cs := #[.int .i64 0, .int .i64 0, .int .i64 0, .slice none 0 0, .int .i64 0, .int .i64 0, .bool false]) ?_ 1 _ rfl; (with_reducible repeat (first | refine blk_drewN ?_ _ | refine blk_drew ?_ | refine blk_alloc ?_ _)); refine blk_put (cs := #[.int .i64 0, .int .i64 0, .int .i64 0, .slice none 0 0, .int .i64 0, .int .i64 0, .bool false]) ?_ 0 _ rfl; (with_reducible repeat (first | refine blk_drewN ?_ _ | refine blk_drew ?_ | refine blk_alloc ?_ _)); exact BK302.out⟩, ⟨by repeat (first | (with_reducible first | exact HI0.out | apply IsS185.alloc | apply IsS185.drewN | apply IsS185.drew | apply IsS185.set_1 | apply IsS185.set_2 | refine IsS185.far ?_ NB0_292.out _ | refine IsS185.far ?_ NB0_302.out _) | exact HI0.out)⟩, ⟨by repeat (first | (with_reducible first | exact HK.out | apply KeepBut.set_ | apply keep_drewN | apply keep_drew | apply keep_alloc | refine keep_far ?_ GW292.out _ | refine keep_far ?_ GW302.out _) | exact HK.out)⟩, ⟨by repeat (first | (with_reducible first | exact HB.out | apply below_alloc | apply pw_below_drewN | apply below_drew1 | refine below_set ?_ (IsS185.ge HI0.out) | refine below_set ?_ GE292.out | refine below_set ?_ GE302.out) | exact HB.out)⟩⟩
 case rest =>
  clear HC6
  try clear c1
  try clear p2
  try clear p6
  try clear c11
  try clear c12
  try clear c13
  try clear c15
  try clear c15b0
  try clear c15b1
  try clear c16
  try clear hcz14_0
  try clear hcz14_1
  try clear hcz14_2
  try clear hcz14_3
  try clear hcz14_4
  try clear hcz14_5
  try clear hcz14_6
  try clear hfz14_0
  try clear hfz14_1
  try clear hfz14_2
  try clear hfz14_3
  try clear hfz14_4
  try clear hfz14_5
  try clear hfz14_6
  obtain ⟨kq, x21_5, x1001_5, x1002_5, rfl, HA, HJ5, BK292, BK302, HI0, HK, HB⟩ := hcut
  cases kq with
  | zero => exact absurd HA.out (by simp [spec_l30Grant.j0])
  | succ kj5 =>
   have H := HA.out
   clear HA
   simp only [spec_l30Grant.j0] at H
   have HC18 := Aside0.mk H
   clear H
   go_upto_if 21 with (fail)
   go_cut [] (fun wc => ∃ (kq : Nat) (x1001_17 : Int) (x1002_17 : Int) (x303001_17 : Int) (x303002_17 : Int) (x303005_17 : Int), Aside0 (spec_l30Grant.j1 kq s0_0 x1001_17 x1002_17 0 x303001_17 x303002_17 t299 x303005_17 false = some (r1, r2, r3, r4, r5, r6, r7, r8, r9)) ∧ Aside0 (kq ≤ kj5) ∧ Aside0 (wc.heap[gb292]? = some (.cells #[.int .i64 0, .int .i64 0, .int .i64 0, (.slice none 0 0), .int .i64 0, .int .i64 0, .bool false] 51 (0, 0))) ∧ Aside0 (wc.heap[gb302]? = some (.cells #[.int .i64 0, .int .i64 x303001_17, .int .i64 x303002_17, (.slice none 0 0), .int .i64 t299, .int .i64 x303005_17, .bool false] 51 (0, 0))) ∧ Aside0 (IsS185 w0 wc g s0_0 x1001_17 x1002_17) ∧ Aside0 (KeepBut w wc g none) ∧ Aside0 (Below w0.heap.size w0 wc))
   case first =>
    have H := HC18.out
    clear HC18
    by_cases c19 : x21_5 = true
    ·subst c19
     have H1 : ((spec_l1Below.f s0_0 x1001_5 x1002_5 (l1.length : Int)).bind fun bt306 => ((spec_l1Once.f s0_0 bt306.2.1 bt306.2.2 5).bind fun bt309 => (if bt309.1 = true then (spec_l30Grant.j1 kj5 s0_0 bt309.2.1 bt309.2.2 0 t293 (wrap64 (13 + t296)) t299 (wrap64 (1 + bt306.1)) false) else (if 0 ≤ (wrap64 ((wrap64 (1 + bt306.1)) - 1)) then (if (wrap64 ((wrap64 (1 + bt306.1)) - 1)) < (l1.length : Int) then (spec_l30Grant.j1 kj5 s0_0 bt309.2.1 bt309.2.2 0 ((rd_T51 l1 (wrap64 ((wrap64 (1 + bt306.1)) - 1))).f2) (wrap64 (((rd_T51 l1 (wrap64 ((wrap64 (1 + bt306.1)) - 1))).f2) + 1)) t299 (wrap64 (1 + bt306.1)) false) else (none)) else (none))))) = some (r1, r2, r3, r4, r5, r6, r7, r8, r9) := by rw [if_pos rfl] at H; exact H
     clear H
     have H := H1
     clear H1
     replace H := Option.bind_eq_some_iff.mp H
     obtain ⟨⟨t306, t307, t308⟩, A200, H⟩ := H
     replace H : ((spec_l1Once.f s0_0 t307 t308 5).bind fun bt309 => (if bt309.1 = true then (spec_l30Grant.j1 kj5 s0_0 bt309.2.1 bt309.2.2 0 t293 (wrap64 (13 + t296)) t299 (wrap64 (1 + t306)) false) else (if 0 ≤ (wrap64 ((wrap64 (1 + t306)) - 1)) then (if (wrap64 ((wrap64 (1 + t306)) - 1)) < (l1.length : Int) then (spec_l30Grant.j1 kj5 s0_0 bt309.2.1 bt309.2.2 0 ((rd_T51 l1 (wrap64 ((wrap64 (1 + t306)) - 1))).f2) (wrap64 (((rd_T51 l1 (wrap64 ((wrap64 (1 + t306)) - 1))).f2) + 1)) t299 (wrap64 (1 + t306)) false) else (none)) else (none)))) = some (r1, r2, r3, r4, r5, r6, r7, r8, r9) := H
     have A20 := Aside0.mk A200
     clear A200
     replace H := Option.bind_eq_some_iff.mp H
     obtain ⟨⟨t309, t310, t311⟩, A210, H⟩ := H
     replace H : (if t309 = true then (spec_l30Grant.j1 kj5 s0_0 t310 t311 0 t293 (wrap64 (13 + t296)) t299 (wrap64 (1 + t306)) false) else (if 0 ≤ (wrap64 ((wrap64 (1 + t306)) - 1)) then (if (wrap64 ((wrap64 (1 + t306)) - 1)) < (l1.length : Int) then (spec_l30Grant.j1 kj5 s0_0 t310 t311 0 ((rd_T51 l1 (wrap64 ((wrap64 (1 + t306)) - 1))).f2) (wrap64 (((rd_T51 l1 (wrap64 ((wrap64 (1 + t306)) - 1))).f2) + 1)) t299 (wrap64 (1 + t306)) false) else (none)) else (none))) = some (r1, r2, r3, r4, r5, r6, r7, r8, r9) := H
     have A21 := Aside0.mk A210
     clear A210
     by_cases c22 : t309 = true
     ·subst c22
      have H1 : (spec_l30Grant.j1 kj5 s0_0 t310 t311 0 t293 (wrap64 (13 + t296)) t299 (wrap64 (1 + t306)) false) = some (r1, r2, r3, r4, r5, r6, r7, r8, r9) := by rw [if_pos rfl] at H; exact H
      clear H
      have H := H1
      clear H1
      have H' := Aside0.mk H
      clear H
      go_wp2_with (first | ((with_reducible refine gate_callee (f := 119) rfl ?_); refine goesL_ (some 25) rfl rfl Try.func119 (by kernel_rfl) rfl #[.pointer (some ⟨g, 0, none⟩), .int .i64 (l1.length : Int)] rfl (by (try simp only [List.map_toArray, List.map_cons, List.map_nil]); first | done | rfl | (simp only [List.length_drop, List.length_take]; rfl)) ?_; (with_reducible refine (spec_l1Below.calls g s0_0 x1001_5 x1002_5 (l1.length : Int) t306 t307 t308 w0 _ ?side1 ?side2 A20.out).mono ?_); (case side1 => repeat (first | (with_reducible first | exact HI0.out | apply IsS185.alloc | apply IsS185.drewN | apply IsS185.drew | apply IsS185.set_1 | apply IsS185.set_2 | refine IsS185.far ?_ NB0_292.out _ | refine IsS185.far ?_ NB0_302.out _) | exact HI0.out)); (case side2 => repeat (first | (with_reducible first | exact HB.out | apply below_alloc | apply pw_below_drewN | apply below_drew1 | refine below_set ?_ (IsS185.ge HI0.out) | refine below_set ?_ GE292.out | refine below_set ?_ GE302.out) | exact HB.out)); rintro e w23 ⟨rfl, hi, hb, hk⟩; refine ⟨_, rfl, ?_⟩; have n0_ := Aside0.mk (KeepBut.blk hk (g' := gb292) (o := .cells #[.int .i64 0, .int .i64 0, .int .i64 0, .slice none 0 0, .int .i64 0, .int .i64 0, .bool false] 51 (0, 0)) (by (with_reducible repeat (first | refine blk_drewN ?_ _ | refine blk_drew ?_ | refine blk_alloc ?_ _)); exact BK292.out) NB292_0.out (by simp)); have n1_ := Aside0.mk (KeepBut.blk hk (g' := gb302) (o := .cells #[.int .i64 0, .int .i64 t293, .int .i64 (wrap64 (13 + t296)), .slice none 0 0, .int .i64 t299, .int .i64 0, .bool false] 51 (0, 0)) (by (with_reducible repeat (first | refine blk_drewN ?_ _ | refine blk_drew ?_ | refine blk_alloc ?_ _)); exact BK302.out) NB302_0.out (by simp)); have n2_ := Aside0.mk (KeepBut.trans (by repeat (first | (with_reducible first | exact HK.out | apply KeepBut.set_ | apply keep_drewN | apply keep_drew | apply keep_alloc | refine keep_far ?_ GW292.out _ | refine keep_far ?_ GW302.out _) | exact HK.out)) hk (.inl rfl)); have n3_ := Aside0.mk (hb); have n4_ := Aside0.mk (hi); clear BK292; clear BK302; clear HK; clear HB; clear HI0; have BK292 := n0_; have BK302 := n1_; have HK := n2_; have HB := n3_; have HI0 := n4_; clear n0_ n1_ n2_ n3_ n4_; (try clear hb); (try clear hb2); (try clear hk); (try clear hi); have hnb24 := NB302_292.out; have hnc24 := NB292_302.out; have hnb25 := NB302_0.out; have hnc25 := NB0_302.out; have hcz26_0 : w23.cell? ⟨gb302, 0, none⟩ = some (.int .i64 0) := (blk_cell BK302.out 0).trans rfl; have hcz26_1 : w23.cell? ⟨gb302, 1, none⟩ = some (.int .i64 t293) := (blk_cell BK302.out 1).trans rfl; have hcz26_2 : w23.cell? ⟨gb302, 2, none⟩ = some (.int .i64 (wrap64 (13 + t296))) := (blk_cell BK302.out 2).trans rfl; have hcz26_3 : w23.cell? ⟨gb302, 3, none⟩ = some (.slice none 0 0) := (blk_cell BK302.out 3).trans rfl; have hcz26_4 : w23.cell? ⟨gb302, 4, none⟩ = some (.int .i64 t299) := (blk_cell BK302.out 4).trans rfl; have hcz26_5 : w23.cell? ⟨gb302, 5, none⟩ = some (.int .i64 0) := (blk_cell BK302.out 5).trans rfl; have hcz26_6 : w23.cell? ⟨gb302, 6, none⟩ = some (.bool false) := (blk_cell BK302.out 6).trans rfl; have hfz26_0 := blk_frozen BK302.out 0; have hfz26_1 := blk_frozen BK302.out 1; have hfz26_2 := blk_frozen BK302.out 2; have hfz26_3 := blk_frozen BK302.out 3; have hfz26_4 := blk_frozen BK302.out 4; have hfz26_5 := blk_frozen BK302.out 5; have hfz26_6 := blk_frozen BK302.out 6) | ((with_reducible refine gate_callee (f := 146) rfl ?_); refine goesL_ (some 29) rfl rfl Try.func146 (by kernel_rfl) rfl #[.pointer (some ⟨g, 0, none⟩), .int .i64 5] rfl (by (try simp only [List.map_toArray, List.map_cons, List.map_nil]); first | done | rfl | (simp only [List.length_drop, List.length_take]; rfl)) ?_; (with_reducible refine (spec_l1Once.calls g s0_0 t307 t308 5 true t310 t311 w0 _ ?side1 ?side2 A21.out).mono ?_); (case side1 => repeat (first | (with_reducible first | exact HI0.out | apply IsS185.alloc | apply IsS185.drewN | apply IsS185.drew | apply IsS185.set_1 | apply IsS185.set_2 | refine IsS185.far ?_ NB0_292.out _ | refine IsS185.far ?_ NB0_302.out _) | exact HI0.out)); (case side2 => repeat (first | (with_reducible first | exact HB.out | apply below_alloc | apply pw_below_drewN | apply below_drew1 | refine below_set ?_ (IsS185.ge HI0.out) | refine below_set ?_ GE292.out | refine below_set ?_ GE302.out) | exact HB.out)); rintro e w27 ⟨rfl, hi, hb, hk⟩; refine ⟨_, rfl, ?_⟩; have n0_ := Aside0.mk (KeepBut.blk hk (g' := gb292) (o := .cells #[.int .i64 0, .int .i64 0, .int .i64 0, .slice none 0 0, .int .i64 0, .int .i64 0, .bool false] 51 (0, 0)) (by (with_reducible repeat (first | refine blk_drewN ?_ _ | refine blk_drew ?_ | refine blk_alloc ?_ _)); refine blk_far ?_ NB292_302.out _; (with_reducible repeat (first | refine blk_drewN ?_ _ | refine blk_drew ?_ | refine blk_alloc ?_ _)); exact BK292.out) NB292_0.out (by simp)); have n1_ := Aside0.mk (KeepBut.blk hk (g' := gb302) (o := .cells #[.int .i64 0, .int .i64 t293, .int .i64 (wrap64 (13 + t296)), .slice none 0 0, .int .i64 t299, .int .i64 (wrap64 (1 + t306)), .bool false] 51 (0, 0)) (by (with_reducible repeat (first | refine blk_drewN ?_ _ | refine blk_drew ?_ | refine blk_alloc ?_ _)); refine blk_put (cs := #[.int .i64 0, .int .i64 t293, .int .i64 (wrap64 (13 + t296)), .slice none 0 0, .int .i64 t299, .int .i64 0, .bool false]) ?_ 5 _ rfl; (with_reducible repeat (first | refine blk_drewN ?_ _ | refine blk_drew ?_ | refine blk_alloc ?_ _)); exact BK302.out) NB302_0.out (by simp)); have n2_ := Aside0.mk (KeepBut.trans (by repeat (first | (with_reducible first | exact HK.out | apply KeepBut.set_ | apply keep_drewN | apply keep_drew | apply keep_alloc | refine keep_far ?_ GW292.out _ | refine keep_far ?_ GW302.out _) | exact HK.out)) hk (.inl rfl)); have n3_ := Aside0.mk (hb); have n4_ := Aside0.mk (hi); clear BK292; clear BK302; clear HK; clear HB; clear HI0; have BK292 := n0_; have BK302 := n1_; have HK := n2_; have HB := n3_; have HI0 := n4_; clear n0_ n1_ n2_ n3_ n4_; (try clear hb); (try clear hb2); (try clear hk); (try clear hi)))
      go_meet
      case rel => exact ⟨_, (t310), (t311), (t293), ((wrap64 (13 + t296))), (wrap64 (1 + t306)), H', ⟨by have := HJ5.out; first | omega | exact Nat.le_refl _⟩, ⟨by (with_reducible repeat (first | refine blk_drewN ?_ _ | refine blk_drew ?_ | refine blk_alloc ?_ _)); exact BK292.out⟩, ⟨by (with_reducible repeat (first | refine blk_drewN ?_ _ | refine blk_drew ?_ | refine blk_alloc ?_ _)); exact BK302.out⟩, ⟨by repeat (first | (with_reducible first | exact HI0.out | apply IsS185.alloc | apply IsS185.drewN | apply IsS185.drew | apply IsS185.set_1 | apply IsS185.set_2 | refine IsS185.far ?_ NB0_292.out _ | refine IsS185.far ?_ NB0_302.out _) | exact HI0.out)⟩, ⟨by repeat (first | (with_reducible first | exact HK.out | apply KeepBut.set_ | apply keep_drewN | apply keep_drew | apply keep_alloc | refine keep_far ?_ GW292.out _ | refine keep_far ?_ GW302.out _) | exact HK.out)⟩, ⟨by repeat (first | (with_reducible first | exact HB.out | apply below_alloc | apply pw_below_drewN | apply below_drew1 | refine below_set ?_ (IsS185.ge HI0.out) | refine below_set ?_ GE292.out | refine below_set ?_ GE302.out) | exact HB.out)⟩⟩
     ·replace c22 := Bool.eq_false_iff.mpr c22
      subst c22
      have H1 : (if 0 ≤ (wrap64 ((wrap64 (1 + t306)) - 1)) then (if (wrap64 ((wrap64 (1 + t306)) - 1)) < (l1.length : Int) then (spec_l30Grant.j1 kj5 s0_0 t310 t311 0 ((rd_T51 l1 (wrap64 ((wrap64 (1 + t306)) - 1))).f2) (wrap64 (((rd_T51 l1 (wrap64 ((wrap64 (1 + t306)) - 1))).f2) + 1)) t299 (wrap64 (1 + t306)) false) else (none)) else (none)) = some (r1, r2, r3, r4, r5, r6, r7, r8, r9) := by rw [if_neg (show ¬ (false = true) by decide)] at H; exact H
      clear H
      have H := H1
      clear H1
      obtain ⟨ji28, hji28⟩ : ∃ j_ : Int, (wrap64 ((wrap64 (1 + t306)) - 1)) = j_ := ⟨_, rfl⟩
      replace H : (if 0 ≤ (ji28) then (if (ji28) < (l1.length : Int) then (spec_l30Grant.j1 kj5 s0_0 t310 t311 0 ((rd_T51 l1 (ji28)).f2) (wrap64 (((rd_T51 l1 (ji28)).f2) + 1)) t299 (wrap64 (1 + t306)) false) else (none)) else (none)) = some (r1, r2, r3, r4, r5, r6, r7, r8, r9) := by first | (rw [hji28] at H; exact H) | (simp only [hji28] at H ⊢; exact H)
      (try rw [hji28] at A20)
      (try rw [hji28] at A21)
      have hji28w : (IntKind.i64.wrap ((wrap64 (1 + t306)) - 1)) = ji28 := (i64_w _).trans hji28
      replace H := ifN H; obtain ⟨c29, H⟩ := H
      have c29b0 : decide (0 ≤ (ji28)) = true := decide_eq_true c29
      clear c29
      (first | rw [c29b0] | (simp only [i64_w, i32_w]; rw [c29b0]) | skip)
      replace H := ifN H; obtain ⟨c30, H⟩ := H
      have c30b0 : decide ((ji28) < (l1.length : Int)) = true := decide_eq_true c30
      clear c30
      have H' := Aside0.mk H
      clear H
      go_wp2_with (first | ((with_reducible refine gate_callee (f := 119) rfl ?_); refine goesL_ (some 25) rfl rfl Try.func119 (by kernel_rfl) rfl #[.pointer (some ⟨g, 0, none⟩), .int .i64 (l1.length : Int)] rfl (by (try simp only [List.map_toArray, List.map_cons, List.map_nil]); first | done | rfl | (simp only [List.length_drop, List.length_take]; rfl)) ?_; (with_reducible refine (spec_l1Below.calls g s0_0 x1001_5 x1002_5 (l1.length : Int) t306 t307 t308 w0 _ ?side1 ?side2 A20.out).mono ?_); (case side1 => repeat (first | (with_reducible first | exact HI0.out | apply IsS185.alloc | apply IsS185.drewN | apply IsS185.drew | apply IsS185.set_1 | apply IsS185.set_2 | refine IsS185.far ?_ NB0_292.out _ | refine IsS185.far ?_ NB0_302.out _) | exact HI0.out)); (case side2 => repeat (first | (with_reducible first | exact HB.out | apply below_alloc | apply pw_below_drewN | apply below_drew1 | refine below_set ?_ (IsS185.ge HI0.out) | refine below_set ?_ GE292.out | refine below_set ?_ GE302.out) | exact HB.out)); rintro e w31 ⟨rfl, hi, hb, hk⟩; refine ⟨_, rfl, ?_⟩; have n0_ := Aside0.mk (KeepBut.blk hk (g' := gb292) (o := .cells #[.int .i64 0, .int .i64 0, .int .i64 0, .slice none 0 0, .int .i64 0, .int .i64 0, .bool false] 51 (0, 0)) (by (with_reducible repeat (first | refine blk_drewN ?_ _ | refine blk_drew ?_ | refine blk_alloc ?_ _)); exact BK292.out) NB292_0.out (by simp)); have n1_ := Aside0.mk (KeepBut.blk hk (g' := gb302) (o := .cells #[.int .i64 0, .int .i64 t293, .int .i64 (wrap64 (13 + t296)), .slice none 0 0, .int .i64 t299, .int .i64 0, .bool false] 51 (0, 0)) (by (with_reducible repeat (first | refine blk_drewN ?_ _ | refine blk_drew ?_ | refine blk_alloc ?_ _)); exact BK302.out) NB302_0.out (by simp)); have n2_ := Aside0.mk (KeepBut.trans (by repeat (first | (with_reducible first | exact HK.out | apply KeepBut.set_ | apply keep_drewN | apply keep_drew | apply keep_alloc | refine keep_far ?_ GW292.out _ | refine keep_far ?_ GW302.out _) | exact HK.out)) hk (.inl rfl)); have n3_ := Aside0.mk (hb); have n4_ := Aside0.mk (hi); clear BK292; clear BK302; clear HK; clear HB; clear HI0; have BK292 := n0_; have BK302 := n1_; have HK := n2_; have HB := n3_; have HI0 := n4_; clear n0_ n1_ n2_ n3_ n4_; (try clear hb); (try clear hb2); (try clear hk); (try clear hi); have hnb32 := NB302_292.out; have hnc32 := NB292_302.out; have hnb33 := NB302_0.out; have hnc33 := NB0_302.out; have hcz34_0 : w31.cell? ⟨gb302, 0, none⟩ = some (.int .i64 0) := (blk_cell BK302.out 0).trans rfl; have hcz34_1 : w31.cell? ⟨gb302, 1, none⟩ = some (.int .i64 t293) := (blk_cell BK302.out 1).trans rfl; have hcz34_2 : w31.cell? ⟨gb302, 2, none⟩ = some (.int .i64 (wrap64 (13 + t296))) := (blk_cell BK302.out 2).trans rfl; have hcz34_3 : w31.cell? ⟨gb302, 3, none⟩ = some (.slice none 0 0) := (blk_cell BK302.out 3).trans rfl; have hcz34_4 : w31.cell? ⟨gb302, 4, none⟩ = some (.int .i64 t299) := (blk_cell BK302.out 4).trans rfl; have hcz34_5 : w31.cell? ⟨gb302, 5, none⟩ = some (.int .i64 0) := (blk_cell BK302.out 5).trans rfl; have hcz34_6 : w31.cell? ⟨gb302, 6, none⟩ = some (.bool false) := (blk_cell BK302.out 6).trans rfl; have hfz34_0 := blk_frozen BK302.out 0; have hfz34_1 := blk_frozen BK302.out 1; have hfz34_2 := blk_frozen BK302.out 2; have hfz34_3 := blk_frozen BK302.out 3; have hfz34_4 := blk_frozen BK302.out 4; have hfz34_5 := blk_frozen BK302.out 5; have hfz34_6 := blk_frozen BK302.out 6) | ((with_reducible refine gate_callee (f := 146) rfl ?_); refine goesL_ (some 29) rfl rfl Try.func146 (by kernel_rfl) rfl #[.pointer (some ⟨g, 0, none⟩), .int .i64 5] rfl (by (try simp only [List.map_toArray, List.map_cons, List.map_nil]); first | done | rfl | (simp only [List.length_drop, List.length_take]; rfl)) ?_; (with_reducible refine (spec_l1Once.calls g s0_0 t307 t308 5 false t310 t311 w0 _ ?side1 ?side2 A21.out).mono ?_); (case side1 => repeat (first | (with_reducible first | exact HI0.out | apply IsS185.alloc | apply IsS185.drewN | apply IsS185.drew | apply IsS185.set_1 | apply IsS185.set_2 | refine IsS185.far ?_ NB0_292.out _ | refine IsS185.far ?_ NB0_302.out _) | exact HI0.out)); (case side2 => repeat (first | (with_reducible first | exact HB.out | apply below_alloc | apply pw_below_drewN | apply below_drew1 | refine below_set ?_ (IsS185.ge HI0.out) | refine below_set ?_ GE292.out | refine below_set ?_ GE302.out) | exact HB.out)); rintro e w35 ⟨rfl, hi, hb, hk⟩; refine ⟨_, rfl, ?_⟩; have n0_ := Aside0.mk (KeepBut.blk hk (g' := gb292) (o := .cells #[.int .i64 0, .int .i64 0, .int .i64 0, .slice none 0 0, .int .i64 0, .int .i64 0, .bool false] 51 (0, 0)) (by (with_reducible repeat (first | refine blk_drewN ?_ _ | refine blk_drew ?_ | refine blk_alloc ?_ _)); refine blk_far ?_ NB292_302.out _; (with_reducible repeat (first | refine blk_drewN ?_ _ | refine blk_drew ?_ | refine blk_alloc ?_ _)); exact BK292.out) NB292_0.out (by simp)); have n1_ := Aside0.mk (KeepBut.blk hk (g' := gb302) (o := .cells #[.int .i64 0, .int .i64 t293, .int .i64 (wrap64 (13 + t296)), .slice none 0 0, .int .i64 t299, .int .i64 (wrap64 (1 + t306)), .bool false] 51 (0, 0)) (by (with_reducible repeat (first | refine blk_drewN ?_ _ | refine blk_drew ?_ | refine blk_alloc ?_ _)); refine blk_put (cs := #[.int .i64 0, .int .i64 t293, .int .i64 (wrap64 (13 + t296)), .slice none 0 0, .int .i64 t299, .int .i64 0, .bool false]) ?_ 5 _ rfl; (with_reducible repeat (first | refine blk_drewN ?_ _ | refine blk_drew ?_ | refine blk_alloc ?_ _)); exact BK302.out) NB302_0.out (by simp)); have n2_ := Aside0.mk (KeepBut.trans (by repeat (first | (with_reducible first | exact HK.out | apply KeepBut.set_ | apply keep_drewN | apply keep_drew | apply keep_alloc | refine keep_far ?_ GW292.out _ | refine keep_far ?_ GW302.out _) | exact HK.out)) hk (.inl rfl)); have n3_ := Aside0.mk (hb); have n4_ := Aside0.mk (hi); clear BK292; clear BK302; clear HK; clear HB; clear HI0; have BK292 := n0_; have BK302 := n1_; have HK := n2_; have HB := n3_; have HI0 := n4_; clear n0_ n1_ n2_ n3_ n4_; (try clear hb); (try clear hb2); (try clear hk); (try clear hi); have hcz36_0 : w35.cell? ⟨gb302, 0, none⟩ = some (.int .i64 0) := (blk_cell BK302.out 0).trans rfl; have hcz36_1 : w35.cell? ⟨gb302, 1, none⟩ = some (.int .i64 t293) := (blk_cell BK302.out 1).trans rfl; have hcz36_2 : w35.cell? ⟨gb302, 2, none⟩ = some (.int .i64 (wrap64 (13 + t296))) := (blk_cell BK302.out 2).trans rfl; have hcz36_3 : w35.cell? ⟨gb302, 3, none⟩ = some (.slice none 0 0) := (blk_cell BK302.out 3).trans rfl; have hcz36_4 : w35.cell? ⟨gb302, 4, none⟩ = some (.int .i64 t299) := (blk_cell BK302.out 4).trans rfl; have hcz36_5 : w35.cell? ⟨gb302, 5, none⟩ = some (.int .i64 (wrap64 (1 + t306))) := (blk_cell BK302.out 5).trans rfl; have hcz36_6 : w35.cell? ⟨gb302, 6, none⟩ = some (.bool false) := (blk_cell BK302.out 6).trans rfl; have hfz36_0 := blk_frozen BK302.out 0; have hfz36_1 := blk_frozen BK302.out 1; have hfz36_2 := blk_frozen BK302.out 2; have hfz36_3 := blk_frozen BK302.out 3; have hfz36_4 := blk_frozen BK302.out 4; have hfz36_5 := blk_frozen BK302.out 5; have hfz36_6 := blk_frozen BK302.out 6; have p312 : 0 ≤ ((ji28) : Int) := of_decide_eq_true (by first | (with_reducible assumption) | assumption); have q312 : (ji28) < (l1.length : Int) := of_decide_eq_true (by first | (with_reducible assumption) | assumption); obtain ⟨ad312, A312_3, c312_3, e312, hx312_0, hx312_1, hx312_2, hx312_3, hx312_4, hx312_5, hx312_6, hl312_3, hi312_3⟩ := at_T51 (Kd.C_foot_now HR1.out HK.out) (ji28) p312 q312; cases e312; have HR312_3 := Aside0.mk hi312_3; have HC312_3 := Aside0.mk hl312_3; clear hi312_3 hl312_3; replace p312 := eq_true p312; replace q312 := eq_true q312))
      go_meet
      case rel => exact ⟨_, (t310), (t311), ((rd_T51 l1 (ji28)).f2), (wrap64 (((rd_T51 l1 (ji28)).f2) + 1)), (wrap64 (1 + t306)), H', ⟨by have := HJ5.out; first | omega | exact Nat.le_refl _⟩, ⟨by (with_reducible repeat (first | refine blk_drewN ?_ _ | refine blk_drew ?_ | refine blk_alloc ?_ _)); refine blk_far ?_ NB292_302.out _; (with_reducible repeat (first | refine blk_drewN ?_ _ | refine blk_drew ?_ | refine blk_alloc ?_ _)); refine blk_far ?_ NB292_302.out _; (with_reducible repeat (first | refine blk_drewN ?_ _ | refine blk_drew ?_ | refine blk_alloc ?_ _)); exact BK292.out⟩, ⟨by (with_reducible repeat (first | refine blk_drewN ?_ _ | refine blk_drew ?_ | refine blk_alloc ?_ _)); refine blk_put (cs := #[.int .i64 0, .int .i64 ((rd_T51 l1 (ji28)).f2), .int .i64 (wrap64 (13 + t296)), .slice none 0 0, .int .i64 t299, .int .i64 (wrap64 (1 + t306)), .bool false]) ?_ 2 _ rfl; (with_reducible repeat (first | refine blk_drewN ?_ _ | refine blk_drew ?_ | refine blk_alloc ?_ _)); refine blk_put (cs := #[.int .i64 0, .int .i64 t293, .int .i64 (wrap64 (13 + t296)), .slice none 0 0, .int .i64 t299, .int .i64 (wrap64 (1 + t306)), .bool false]) ?_ 1 _ rfl; (with_reducible repeat (first | refine blk_drewN ?_ _ | refine blk_drew ?_ | refine blk_alloc ?_ _)); exact BK302.out⟩, ⟨by repeat (first | (with_reducible first | exact HI0.out | apply IsS185.alloc | apply IsS185.drewN | apply IsS185.drew | apply IsS185.set_1 | apply IsS185.set_2 | refine IsS185.far ?_ NB0_292.out _ | refine IsS185.far ?_ NB0_302.out _) | exact HI0.out)⟩, ⟨by repeat (first | (with_reducible first | exact HK.out | apply KeepBut.set_ | apply keep_drewN | apply keep_drew | apply keep_alloc | refine keep_far ?_ GW292.out _ | refine keep_far ?_ GW302.out _) | exact HK.out)⟩, ⟨by repeat (first | (with_reducible first | exact HB.out | apply below_alloc | apply pw_below_drewN | apply below_drew1 | refine below_set ?_ (IsS185.ge HI0.out) | refine below_set ?_ GE292.out | refine below_set ?_ GE302.out) | exact HB.out)⟩⟩
    ·replace c19 := Bool.eq_false_iff.mpr c19
     subst c19
     have H1 : (spec_l30Grant.j1 kj5 s0_0 x1001_5 x1002_5 0 t293 (wrap64 (13 + t296)) t299 0 false) = some (r1, r2, r3, r4, r5, r6, r7, r8, r9) := by rw [if_neg (show ¬ (false = true) by decide)] at H; exact H
     clear H
     have H := H1
     clear H1
     have H' := Aside0.mk H
     clear H
     go_wp2
     go_meet
     case rel => exact ⟨_, (x1001_5), (x1002_5), (t293), ((wrap64 (13 + t296))), (0), H', ⟨by have := HJ5.out; first | omega | exact Nat.le_refl _⟩, ⟨by (with_reducible repeat (first | refine blk_drewN ?_ _ | refine blk_drew ?_ | refine blk_alloc ?_ _)); exact BK292.out⟩, ⟨by (with_reducible repeat (first | refine blk_drewN ?_ _ | refine blk_drew ?_ | refine blk_alloc ?_ _)); exact BK302.out⟩, ⟨by repeat (first | (with_reducible first | exact HI0.out | apply IsS185.alloc | apply IsS185.drewN | apply IsS185.drew | apply IsS185.set_1 | apply IsS185.set_2 | refine IsS185.far ?_ NB0_292.out _ | refine IsS185.far ?_ NB0_302.out _) | exact HI0.out)⟩, ⟨by repeat (first | (with_reducible first | exact HK.out | apply KeepBut.set_ | apply keep_drewN | apply keep_drew | apply keep_alloc | refine keep_far ?_ GW292.out _ | refine keep_far ?_ GW302.out _) | exact HK.out)⟩, ⟨by repeat (first | (with_reducible first | exact HB.out | apply below_alloc | apply pw_below_drewN | apply below_drew1 | refine below_set ?_ (IsS185.ge HI0.out) | refine below_set ?_ GE292.out | refine below_set ?_ GE302.out) | exact HB.out)⟩⟩
   case rest =>
    clear HC18
    try clear c1
    try clear c2
    try clear p2
    try clear c3
    try clear p3
    try clear q3
    try clear hx3
    try clear p6
    try clear c11
    try clear c12
    try clear c13
    try clear c14
    try clear c15
    try clear c15b0
    try clear c15b1
    try clear c16
    try clear c19
    try clear c22
    try clear c24
    try clear c25
    try clear c29
    try clear c29b0
    try clear c30
    try clear c30b0
    try clear c31
    try clear p31
    try clear q31
    try clear hx31
    try clear c32
    try clear c33
    try clear hcz14_0
    try clear hcz14_1
    try clear hcz14_2
    try clear hcz14_3
    try clear hcz14_4
    try clear hcz14_5
    try clear hcz14_6
    try clear hcz26_0
    try clear hcz26_1
    try clear hcz26_2
    try clear hcz26_3
    try clear hcz26_4
    try clear hcz26_5
    try clear hcz26_6
    try clear hcz34_0
    try clear hcz34_1
    try clear hcz34_2
    try clear hcz34_3
    try clear hcz34_4
    try clear hcz34_5
    try clear hcz34_6
    try clear hcz36_0
    try clear hcz36_1
    try clear hcz36_2
    try clear hcz36_3
    try clear hcz36_4
    try clear hcz36_5
    try clear hcz36_6
    try clear hfz14_0
    try clear hfz14_1
    try clear hfz14_2
    try clear hfz14_3
    try clear hfz14_4
    try clear hfz14_5
    try clear hfz14_6
    try clear hfz26_0
    try clear hfz26_1
    try clear hfz26_2
    try clear hfz26_3
    try clear hfz26_4
    try clear hfz26_5
    try clear hfz26_6
    try clear hfz34_0
    try clear hfz34_1
    try clear hfz34_2
    try clear hfz34_3
    try clear hfz34_4
    try clear hfz34_5
    try clear hfz34_6
    try clear hfz36_0
    try clear hfz36_1
    try clear hfz36_2
    try clear hfz36_3
    try clear hfz36_4
    try clear hfz36_5
    try clear hfz36_6
    try clear hx312_0
    try clear hx312_1
    try clear hx312_2
    try clear hx312_3
    try clear hx312_4
    try clear hx312_5
    try clear hx312_6
    try clear p2
    try clear p312
    try clear p6
    try clear q312
    obtain ⟨kq, x1001_17, x1002_17, x303001_17, x303002_17, x303005_17, HA, HJ17, BK292, BK302, HI0, HK, HB⟩ := hcut
    cases kq with
    | zero => exact absurd HA.out (by simp [spec_l30Grant.j1])
    | succ kj17 =>
     have H := HA.out
     clear HA
     simp only [spec_l30Grant.j1] at H
     have H' := Aside0.mk H
     clear H
     go_wp2
     go_loopg [6] kj17 (fun kq v6 w' => ∃ (x6_3 : Int) (x1001_3 : Int) (x1002_3 : Int) (x303003_3 : List Int) (u303003 : Value), v6 = .int .i64 x6_3 ∧ Aside0 (spec_l30Grant.l0 kq x6_3 s0_0 x1001_3 x1002_3 0 x303001_17 x303002_17 x303003_3 t299 x303005_17 false = some (r1, r2, r3, r4, r5, r6, r7, r8, r9)) ∧ Aside0 (kq ≤ kj17) ∧ Aside0 (Kd.R (Kd.int .i64) 3 w' w.heap.size (fun _ => True) u303003 x303003_3) ∧ Aside0 (w'.heap[gb292]? = some (.cells #[.int .i64 0, .int .i64 0, .int .i64 0, (.slice none 0 0), .int .i64 0, .int .i64 0, .bool false] 51 (0, 0))) ∧ Aside0 (w'.heap[gb302]? = some (.cells #[.int .i64 0, .int .i64 x303001_17, .int .i64 x303002_17, u303003, .int .i64 t299, .int .i64 x303005_17, .bool false] 51 (0, 0))) ∧ Aside0 (IsS185 w0 w' g s0_0 x1001_3 x1002_3) ∧ Aside0 (KeepBut w w' g none) ∧ Aside0 (Below w0.heap.size w0 w'))
     case atStart => exact ⟨(0), (x1001_17), (x1002_17), (([] : List Int)), (.slice none 0 0), (by first | rfl | (simp; done) | (simp [*]; done)), H', ⟨Nat.le_refl _⟩, ⟨by first | exact Kd.R_nil _ _ _ _ _ | exact Kd.N_nil _ _ _ _ _ | exact Kd.V_nil _ _ _ _ _ | exact Kd.Q_nil _ _ _ _ _ | exact Kd.S_nil _ _ _ _ _⟩, ⟨by (with_reducible repeat (first | refine blk_drewN ?_ _ | refine blk_drew ?_ | refine blk_alloc ?_ _)); exact BK292.out⟩, ⟨by (with_reducible repeat (first | refine blk_drewN ?_ _ | refine blk_drew ?_ | refine blk_alloc ?_ _)); exact BK302.out⟩, ⟨by repeat (first | (with_reducible first | exact HI0.out | apply IsS185.alloc | apply IsS185.drewN | apply IsS185.drew | apply IsS185.set_1 | apply IsS185.set_2 | refine IsS185.far ?_ NB0_292.out _ | refine IsS185.far ?_ NB0_302.out _) | exact HI0.out)⟩, ⟨by repeat (first | (with_reducible first | exact HK.out | apply KeepBut.set_ | apply keep_drewN | apply keep_drew | apply keep_alloc | refine keep_far ?_ GW292.out _ | refine keep_far ?_ GW302.out _) | exact HK.out)⟩, ⟨by repeat (first | (with_reducible first | exact HB.out | apply below_alloc | apply pw_below_drewN | apply below_drew1 | refine below_set ?_ (IsS185.ge HI0.out) | refine below_set ?_ GE292.out | refine below_set ?_ GE302.out) | exact HB.out)⟩⟩
     case round =>
      clear H'
      try clear c1
      try clear c2
      try clear p2
      try clear c3
      try clear p3
      try clear q3
      try clear hx3
      try clear p6
      try clear c11
      try clear c12
      try clear c13
      try clear c14
      try clear c15
      try clear c15b0
      try clear c15b1
      try clear c16
      try clear c19
      try clear c22
      try clear c24
      try clear c25
      try clear c29
      try clear c29b0
      try clear c30
      try clear c30b0
      try clear c31
      try clear p31
      try clear q31
      try clear hx31
      try clear c32
      try clear c33
      try clear hcz14_0
      try clear hcz14_1
      try clear hcz14_2
      try clear hcz14_3
      try clear hcz14_4
      try clear hcz14_5
      try clear hcz14_6
      try clear hcz26_0
      try clear hcz26_1
      try clear hcz26_2
      try clear hcz26_3
      try clear hcz26_4
      try clear hcz26_5
      try clear hcz26_6
      try clear hcz34_0
      try clear hcz34_1
      try clear hcz34_2
      try clear hcz34_3
      try clear hcz34_4
      try clear hcz34_5
      try clear hcz34_6
      try clear hcz36_0
      try clear hcz36_1
      try clear hcz36_2
      try clear hcz36_3
      try clear hcz36_4
      try clear hcz36_5
      try clear hcz36_6
      try clear hfz14_0
      try clear hfz14_1
      try clear hfz14_2
      try clear hfz14_3
      try clear hfz14_4
      try clear hfz14_5
      try clear hfz14_6
      try clear hfz26_0
      try clear hfz26_1
      try clear hfz26_2
      try clear hfz26_3
      try clear hfz26_4
      try clear hfz26_5
      try clear hfz26_6
      try clear hfz34_0
      try clear hfz34_1
      try clear hfz34_2
      try clear hfz34_3
      try clear hfz34_4
      try clear hfz34_5
      try clear hfz34_6
      try clear hfz36_0
      try clear hfz36_1
      try clear hfz36_2
      try clear hfz36_3
      try clear hfz36_4
      try clear hfz36_5
      try clear hfz36_6
      try clear hx312_0
      try clear hx312_1
      try clear hx312_2
      try clear hx312_3
      try clear hx312_4
      try clear hx312_5
      try clear hx312_6
      try clear p2
      try clear p3
      try clear p31
      try clear p312
      try clear p6
      try clear q3
      try clear q31
      try clear q312
      obtain ⟨x6_3, x1001_3, x1002_3, x303003_3, u303003, rfl, HA, HK3, HO_303003, BK292, BK302, HI0, HK, HB⟩ := hrel
      cases gk with
      | zero => exact absurd HA.out (by simp [spec_l30Grant.l0])
      | succ k3 =>
       have H := HA.out
       clear HA
       simp only [spec_l30Grant.l0] at H
       replace H := ifD H; rcases H with ⟨c37, H⟩ | ⟨c37, H⟩
       ·have c37b0 : decide (x6_3 < 3) = true := decide_eq_true c37
        clear c37
        replace H := Option.bind_eq_some_iff.mp H
        obtain ⟨⟨t313, t314, t315⟩, A380, H⟩ := H
        replace H : (if t313 = true then (spec_l30Grant.l0 k3 (wrap64 (x6_3 + 1)) s0_0 t314 t315 0 x303001_17 x303002_17 x303003_3 t299 x303005_17 false) else (if x303003_3.length < 17592186044416 then (spec_l30Grant.l0 k3 (wrap64 (x6_3 + 1)) s0_0 t314 t315 0 x303001_17 x303002_17 (x303003_3 ++ [x6_3]) t299 x303005_17 false) else (none))) = some (r1, r2, r3, r4, r5, r6, r7, r8, r9) := H
        have A38 := Aside0.mk A380
        clear A380
        by_cases c39 : t313 = true
        ·subst c39
         have H1 : (spec_l30Grant.l0 k3 (wrap64 (x6_3 + 1)) s0_0 t314 t315 0 x303001_17 x303002_17 x303003_3 t299 x303005_17 false) = some (r1, r2, r3, r4, r5, r6, r7, r8, r9) := by rw [if_pos rfl] at H; exact H
         clear H
         have H := H1
         clear H1
         have H' := Aside0.mk H
         clear H
         go_wp2_with (first | ((with_reducible refine gate_callee (f := 146) rfl ?_); refine goesL_ (some 48) rfl rfl Try.func146 (by kernel_rfl) rfl #[.pointer (some ⟨g, 0, none⟩), .int .i64 3] rfl (by (try simp only [List.map_toArray, List.map_cons, List.map_nil]); first | done | rfl | (simp only [List.length_drop, List.length_take]; rfl)) ?_; (with_reducible refine (spec_l1Once.calls g s0_0 x1001_3 x1002_3 3 true t314 t315 w0 _ ?side1 ?side2 A38.out).mono ?_); (case side1 => repeat (first | (with_reducible first | exact HI0.out | apply IsS185.alloc | apply IsS185.drewN | apply IsS185.drew | apply IsS185.set_1 | apply IsS185.set_2 | refine IsS185.far ?_ NB0_292.out _ | refine IsS185.far ?_ NB0_302.out _) | exact HI0.out)); (case side2 => repeat (first | (with_reducible first | exact HB.out | apply below_alloc | apply pw_below_drewN | apply below_drew1 | refine below_set ?_ (IsS185.ge HI0.out) | refine below_set ?_ GE292.out | refine below_set ?_ GE302.out) | exact HB.out)); rintro e w40 ⟨rfl, hi, hb, hk⟩; refine ⟨_, rfl, ?_⟩; have n0_ := Aside0.mk (Kd.R_mono (Kd.R_keep (IsS185.apart (show IsS185 w0 _ g s0_0 x1001_3 x1002_3 from by repeat (first | (with_reducible first | exact HI0.out | apply IsS185.alloc | apply IsS185.drewN | apply IsS185.drew | apply IsS185.set_1 | apply IsS185.set_2 | refine IsS185.far ?_ NB0_292.out _ | refine IsS185.far ?_ NB0_302.out _) | exact HI0.out)) (by (with_reducible repeat (first | apply Kd.R_alloc | apply Kd.R_drewN | apply Kd.R_drew)); exact HO_303003.out) (by decide)) hk (fun _ h => h.2)) (fun _ h => h.1)); have n1_ := Aside0.mk (KeepBut.blk hk (g' := gb292) (o := .cells #[.int .i64 0, .int .i64 0, .int .i64 0, .slice none 0 0, .int .i64 0, .int .i64 0, .bool false] 51 (0, 0)) (by (with_reducible repeat (first | refine blk_drewN ?_ _ | refine blk_drew ?_ | refine blk_alloc ?_ _)); exact BK292.out) NB292_0.out (by simp)); have n2_ := Aside0.mk (KeepBut.blk hk (g' := gb302) (o := .cells #[.int .i64 0, .int .i64 x303001_17, .int .i64 x303002_17, u303003, .int .i64 t299, .int .i64 x303005_17, .bool false] 51 (0, 0)) (by (with_reducible repeat (first | refine blk_drewN ?_ _ | refine blk_drew ?_ | refine blk_alloc ?_ _)); exact BK302.out) NB302_0.out (by simp)); have n3_ := Aside0.mk (KeepBut.trans (by repeat (first | (with_reducible first | exact HK.out | apply KeepBut.set_ | apply keep_drewN | apply keep_drew | apply keep_alloc | refine keep_far ?_ GW292.out _ | refine keep_far ?_ GW302.out _) | exact HK.out)) hk (.inl rfl)); have n4_ := Aside0.mk (hb); have n5_ := Aside0.mk (hi); clear HO_303003; clear BK292; clear BK302; clear HK; clear HB; clear HI0; have HO_303003 := n0_; have BK292 := n1_; have BK302 := n2_; have HK := n3_; have HB := n4_; have HI0 := n5_; clear n0_ n1_ n2_ n3_ n4_ n5_; (try clear hb); (try clear hb2); (try clear hk); (try clear hi)))
         go_roundg k3
         case measure => have := HJ5.out; have := HJ17.out; have := HK3.out; omega
         case rel => exact ⟨(wrap64 (x6_3 + 1)), (t314), (t315), (x303003_3), (u303003), (by first | rfl | (simp; done) | (simp [*]; done)), H', ⟨by have := HJ5.out; have := HJ17.out; have := HK3.out; omega⟩, ⟨by (with_reducible repeat (first | apply Kd.R_alloc | apply Kd.R_drewN | apply Kd.R_drew)); exact HO_303003.out⟩, ⟨by (with_reducible repeat (first | refine blk_drewN ?_ _ | refine blk_drew ?_ | refine blk_alloc ?_ _)); exact BK292.out⟩, ⟨by (with_reducible repeat (first | refine blk_drewN ?_ _ | refine blk_drew ?_ | refine blk_alloc ?_ _)); exact BK302.out⟩, ⟨by repeat (first | (with_reducible first | exact HI0.out | apply IsS185.alloc | apply IsS185.drewN | apply IsS185.drew | apply IsS185.set_1 | apply IsS185.set_2 | refine IsS185.far ?_ NB0_292.out _ | refine IsS185.far ?_ NB0_302.out _) | exact HI0.out)⟩, ⟨by repeat (first | (with_reducible first | exact HK.out | apply KeepBut.set_ | apply keep_drewN | apply keep_drew | apply keep_alloc | refine keep_far ?_ GW292.out _ | refine keep_far ?_ GW302.out _) | exact HK.out)⟩, ⟨by repeat (first | (with_reducible first | exact HB.out | apply below_alloc | apply pw_below_drewN | apply below_drew1 | refine below_set ?_ (IsS185.ge HI0.out) | refine below_set ?_ GE292.out | refine below_set ?_ GE302.out) | exact HB.out)⟩⟩
        ·replace c39 := Bool.eq_false_iff.mpr c39
         subst c39
         have H1 : (if x303003_3.length < 17592186044416 then (spec_l30Grant.l0 k3 (wrap64 (x6_3 + 1)) s0_0 t314 t315 0 x303001_17 x303002_17 (x303003_3 ++ [x6_3]) t299 x303005_17 false) else (none)) = some (r1, r2, r3, r4, r5, r6, r7, r8, r9) := by rw [if_neg (show ¬ (false = true) by decide)] at H; exact H
         clear H
         have H := H1
         clear H1
         replace H := ifN H; obtain ⟨c41, H⟩ := H
         have LMc41 := Aside0.mk c41
         clear c41
         obtain ⟨y316, hy316⟩ : ∃ y_ : List Int, y_ = (x303003_3 ++ [x6_3]) := ⟨_, rfl⟩
         replace H : (spec_l30Grant.l0 k3 (wrap64 (x6_3 + 1)) s0_0 t314 t315 0 x303001_17 x303002_17 y316 t299 x303005_17 false) = some (r1, r2, r3, r4, r5, r6, r7, r8, r9) := by first | (rw [hy316]; with_reducible exact H) | (have H2_ := (Option.bind_some _ _).symm.trans H; rw [hy316]; with_reducible exact H2_) | (have H2_ := (Option.bind_some _ _).symm.trans H; with_reducible exact H2_) | with_reducible exact H | (rw [hy316]; exact H) | exact H
         have Ny316 := Aside0.mk hy316
         clear hy316
         have H' := Aside0.mk H
         clear H
         go_wp2_with (first | ((with_reducible refine gate_callee (f := 146) rfl ?_); refine goesL_ (some 48) rfl rfl Try.func146 (by kernel_rfl) rfl #[.pointer (some ⟨g, 0, none⟩), .int .i64 3] rfl (by (try simp only [List.map_toArray, List.map_cons, List.map_nil]); first | done | rfl | (simp only [List.length_drop, List.length_take]; rfl)) ?_; (with_reducible refine (spec_l1Once.calls g s0_0 x1001_3 x1002_3 3 false t314 t315 w0 _ ?side1 ?side2 A38.out).mono ?_); (case side1 => repeat (first | (with_reducible first | exact HI0.out | apply IsS185.alloc | apply IsS185.drewN | apply IsS185.drew | apply IsS185.set_1 | apply IsS185.set_2 | refine IsS185.far ?_ NB0_292.out _ | refine IsS185.far ?_ NB0_302.out _) | exact HI0.out)); (case side2 => repeat (first | (with_reducible first | exact HB.out | apply below_alloc | apply pw_below_drewN | apply below_drew1 | refine below_set ?_ (IsS185.ge HI0.out) | refine below_set ?_ GE292.out | refine below_set ?_ GE302.out) | exact HB.out)); rintro e w42 ⟨rfl, hi, hb, hk⟩; refine ⟨_, rfl, ?_⟩; have n0_ := Aside0.mk (Kd.R_mono (Kd.R_keep (IsS185.apart (show IsS185 w0 _ g s0_0 x1001_3 x1002_3 from by repeat (first | (with_reducible first | exact HI0.out | apply IsS185.alloc | apply IsS185.drewN | apply IsS185.drew | apply IsS185.set_1 | apply IsS185.set_2 | refine IsS185.far ?_ NB0_292.out _ | refine IsS185.far ?_ NB0_302.out _) | exact HI0.out)) (by (with_reducible repeat (first | apply Kd.R_alloc | apply Kd.R_drewN | apply Kd.R_drew)); exact HO_303003.out) (by decide)) hk (fun _ h => h.2)) (fun _ h => h.1)); have n1_ := Aside0.mk (KeepBut.blk hk (g' := gb292) (o := .cells #[.int .i64 0, .int .i64 0, .int .i64 0, .slice none 0 0, .int .i64 0, .int .i64 0, .bool false] 51 (0, 0)) (by (with_reducible repeat (first | refine blk_drewN ?_ _ | refine blk_drew ?_ | refine blk_alloc ?_ _)); exact BK292.out) NB292_0.out (by simp)); have n2_ := Aside0.mk (KeepBut.blk hk (g' := gb302) (o := .cells #[.int .i64 0, .int .i64 x303001_17, .int .i64 x303002_17, u303003, .int .i64 t299, .int .i64 x303005_17, .bool false] 51 (0, 0)) (by (with_reducible repeat (first | refine blk_drewN ?_ _ | refine blk_drew ?_ | refine blk_alloc ?_ _)); exact BK302.out) NB302_0.out (by simp)); have n3_ := Aside0.mk (KeepBut.trans (by repeat (first | (with_reducible first | exact HK.out | apply KeepBut.set_ | apply keep_drewN | apply keep_drew | apply keep_alloc | refine keep_far ?_ GW292.out _ | refine keep_far ?_ GW302.out _) | exact HK.out)) hk (.inl rfl)); have n4_ := Aside0.mk (hb); have n5_ := Aside0.mk (hi); clear HO_303003; clear BK292; clear BK302; clear HK; clear HB; clear HI0; have HO_303003 := n0_; have BK292 := n1_; have BK302 := n2_; have HK := n3_; have HB := n4_; have HI0 := n5_; clear n0_ n1_ n2_ n3_ n4_ n5_; (try clear hb); (try clear hb2); (try clear hk); (try clear hi); have hnb43 := NB302_292.out; have hnc43 := NB292_302.out; have hnb44 := NB302_0.out; have hnc44 := NB0_302.out; have hcz45_0 : w42.cell? ⟨gb302, 0, none⟩ = some (.int .i64 0) := (blk_cell BK302.out 0).trans rfl; have hcz45_1 : w42.cell? ⟨gb302, 1, none⟩ = some (.int .i64 x303001_17) := (blk_cell BK302.out 1).trans rfl; have hcz45_2 : w42.cell? ⟨gb302, 2, none⟩ = some (.int .i64 x303002_17) := (blk_cell BK302.out 2).trans rfl; have hcz45_3 : w42.cell? ⟨gb302, 3, none⟩ = some (u303003) := (blk_cell BK302.out 3).trans rfl; have hcz45_4 : w42.cell? ⟨gb302, 4, none⟩ = some (.int .i64 t299) := (blk_cell BK302.out 4).trans rfl; have hcz45_5 : w42.cell? ⟨gb302, 5, none⟩ = some (.int .i64 x303005_17) := (blk_cell BK302.out 5).trans rfl; have hcz45_6 : w42.cell? ⟨gb302, 6, none⟩ = some (.bool false) := (blk_cell BK302.out 6).trans rfl; have hfz45_0 := blk_frozen BK302.out 0; have hfz45_1 := blk_frozen BK302.out 1; have hfz45_2 := blk_frozen BK302.out 2; have hfz45_3 := blk_frozen BK302.out 3; have hfz45_4 := blk_frozen BK302.out 4; have hfz45_5 := blk_frozen BK302.out 5; have hfz45_6 := blk_frozen BK302.out 6) | ((with_reducible refine gate_builtin (b := .append) (xs := #[.tmp 51, .tmp 53]) rfl ?_); at_builtin; refine Kd.R_append (Kd.int .i64) w.heap.size rfl (.tmp 51) (.tmp 53) 46 3 (.int .i64 0) 8 rfl Try.underlying46 info3 rfl (by decide) (by omega) u303003 x303003_3 x6_3 [.int .i64 x6_3] (fun _ => True) (fun _ => False) rfl rfl ?aP (fun _ hk => hk.elim) ?aF ?aO (Below.refl _ _) ?aS ?aL ?_; (case aP => exact rfl); (case aF => exact (fun _ _ => trivial)); (case aO => exact (by (with_reducible repeat (first | apply Kd.R_alloc | apply Kd.R_drewN | apply Kd.R_drew)); exact HO_303003.out)); (case aS => exact (keep_size (w := w) (g := g) (row := none) (by repeat (first | (with_reducible first | exact HK.out | apply KeepBut.set_ | apply keep_drewN | apply keep_drew | apply keep_alloc | refine keep_far ?_ GW292.out _ | refine keep_far ?_ GW302.out _) | exact HK.out)))); (case aL => have := LMc41.out; omega); intro v317 w46 ho hb hg hat; rw [← Ny316.out] at ho; have n0_ := Aside0.mk (blk_grown (g := gb292) (o := .cells #[.int .i64 0, .int .i64 0, .int .i64 0, .slice none 0 0, .int .i64 0, .int .i64 0, .bool false] 51 (0, 0)) (by (with_reducible repeat (first | refine blk_drewN ?_ _ | refine blk_drew ?_ | refine blk_alloc ?_ _)); exact BK292.out) hg (Kd.R_ne HO_303003.out BK292.out (by decide))); have n1_ := Aside0.mk (blk_grown (g := gb302) (o := .cells #[.int .i64 0, .int .i64 x303001_17, .int .i64 x303002_17, u303003, .int .i64 t299, .int .i64 x303005_17, .bool false] 51 (0, 0)) (by (with_reducible repeat (first | refine blk_drewN ?_ _ | refine blk_drew ?_ | refine blk_alloc ?_ _)); exact BK302.out) hg (Kd.R_ne HO_303003.out BK302.out (by decide))); have n2_ := Aside0.mk (IsS185.grown (by repeat (first | (with_reducible first | exact HI0.out | apply IsS185.alloc | apply IsS185.drewN | apply IsS185.drew | apply IsS185.set_1 | apply IsS185.set_2 | refine IsS185.far ?_ NB0_292.out _ | refine IsS185.far ?_ NB0_302.out _) | exact HI0.out)) hg (IsS185.own_ne HI0.out HO_303003.out (by decide))); have n3_ := Aside0.mk (below_weaken (by repeat (first | (with_reducible first | exact HB.out | apply below_alloc | apply pw_below_drewN | apply below_drew1 | refine below_set ?_ (IsS185.ge HI0.out) | refine below_set ?_ GE292.out | refine below_set ?_ GE302.out) | exact HB.out)) HL.out hb); have n4_ := Aside0.mk (KeepBut.trans (by repeat (first | (with_reducible first | exact HK.out | apply KeepBut.set_ | apply keep_drewN | apply keep_drew | apply keep_alloc | refine keep_far ?_ GW292.out _ | refine keep_far ?_ GW302.out _) | exact HK.out)) (KeepBut.of_grown hg g) (Kd.R_base2 HO_303003.out)); have n5_ := Aside0.mk (ho); clear BK292; clear BK302; clear HI0; clear HB; clear HK; clear HO_303003; have BK292 := n0_; have BK302 := n1_; have HI0 := n2_; have HB := n3_; have HK := n4_; have HO318 := n5_; clear n0_ n1_ n2_ n3_ n4_ n5_; clear ho hb hg hat; obtain ⟨Ao47, co47, eo47⟩ := Kd.R_slice HO318.out; subst eo47; have hcz48_0 : w46.cell? ⟨gb302, 0, none⟩ = some (.int .i64 0) := (blk_cell BK302.out 0).trans rfl; have hcz48_1 : w46.cell? ⟨gb302, 1, none⟩ = some (.int .i64 x303001_17) := (blk_cell BK302.out 1).trans rfl; have hcz48_2 : w46.cell? ⟨gb302, 2, none⟩ = some (.int .i64 x303002_17) := (blk_cell BK302.out 2).trans rfl; have hcz48_3 : w46.cell? ⟨gb302, 3, none⟩ = some (u303003) := (blk_cell BK302.out 3).trans rfl; have hcz48_4 : w46.cell? ⟨gb302, 4, none⟩ = some (.int .i64 t299) := (blk_cell BK302.out 4).trans rfl; have hcz48_5 : w46.cell? ⟨gb302, 5, none⟩ = some (.int .i64 x303005_17) := (blk_cell BK302.out 5).trans rfl; have hcz48_6 : w46.cell? ⟨gb302, 6, none⟩ = some (.bool false) := (blk_cell BK302.out 6).trans rfl; have hfz48_0 := blk_frozen BK302.out 0; have hfz48_1 := blk_frozen BK302.out 1; have hfz48_2 := blk_frozen BK302.out 2; have hfz48_3 := blk_frozen BK302.out 3; have hfz48_4 := blk_frozen BK302.out 4; have hfz48_5 := blk_frozen BK302.out 5; have hfz48_6 := blk_frozen BK302.out 6))
         go_roundg k3
         case measure => have := HJ5.out; have := HJ17.out; have := HK3.out; omega
         case rel => exact ⟨(wrap64 (x6_3 + 1)), (t314), (t315), (y316), (.slice Ao47 y316.length co47), (by first | rfl | (simp; done) | (simp [*]; done)), H', ⟨by have := HJ5.out; have := HJ17.out; have := HK3.out; omega⟩, ⟨by (with_reducible repeat (first | apply Kd.R_alloc | apply Kd.R_drewN | apply Kd.R_drew)); exact Kd.R_mono (Kd.R_far (p := ⟨gb302, 3, none⟩) (Kd.R_types HO318.out BK302.out (by decide)) (fun _ hk => hk.2) (.slice Ao47 y316.length co47)) (fun _ hk => trivial)⟩, ⟨by (with_reducible repeat (first | refine blk_drewN ?_ _ | refine blk_drew ?_ | refine blk_alloc ?_ _)); refine blk_far ?_ NB292_302.out _; (with_reducible repeat (first | refine blk_drewN ?_ _ | refine blk_drew ?_ | refine blk_alloc ?_ _)); exact BK292.out⟩, ⟨by (with_reducible repeat (first | refine blk_drewN ?_ _ | refine blk_drew ?_ | refine blk_alloc ?_ _)); refine blk_put (cs := #[.int .i64 0, .int .i64 x303001_17, .int .i64 x303002_17, u303003, .int .i64 t299, .int .i64 x303005_17, .bool false]) ?_ 3 _ rfl; (with_reducible repeat (first | refine blk_drewN ?_ _ | refine blk_drew ?_ | refine blk_alloc ?_ _)); exact BK302.out⟩, ⟨by repeat (first | (with_reducible first | exact HI0.out | apply IsS185.alloc | apply IsS185.drewN | apply IsS185.drew | apply IsS185.set_1 | apply IsS185.set_2 | refine IsS185.far ?_ NB0_292.out _ | refine IsS185.far ?_ NB0_302.out _) | exact HI0.out)⟩, ⟨by repeat (first | (with_reducible first | exact HK.out | apply KeepBut.set_ | apply keep_drewN | apply keep_drew | apply keep_alloc | refine keep_far ?_ GW292.out _ | refine keep_far ?_ GW302.out _) | exact HK.out)⟩, ⟨by repeat (first | (with_reducible first | exact HB.out | apply below_alloc | apply pw_below_drewN | apply below_drew1 | refine below_set ?_ (IsS185.ge HI0.out) | refine below_set ?_ GE292.out | refine below_set ?_ GE302.out) | exact HB.out)⟩⟩
       ·have c37b0 : decide (x6_3 < 3) = false := decide_eq_false c37
        clear c37
        simp only [Option.some.injEq, Prod.mk.injEq] at H
        obtain ⟨rfl, rfl, rfl, rfl, rfl, rfl, rfl, rfl, rfl⟩ := H
        have hnb49 := NB302_292.out
        have hnc49 := NB292_302.out
        have hnb50 := NB302_0.out
        have hnc50 := NB0_302.out
        have hcz51_0 : wr.cell? ⟨gb302, 0, none⟩ = some (.int .i64 0) := (blk_cell BK302.out 0).trans rfl
        have hcz51_1 : wr.cell? ⟨gb302, 1, none⟩ = some (.int .i64 x303001_17) := (blk_cell BK302.out 1).trans rfl
        have hcz51_2 : wr.cell? ⟨gb302, 2, none⟩ = some (.int .i64 x303002_17) := (blk_cell BK302.out 2).trans rfl
        have hcz51_3 : wr.cell? ⟨gb302, 3, none⟩ = some (u303003) := (blk_cell BK302.out 3).trans rfl
        have hcz51_4 : wr.cell? ⟨gb302, 4, none⟩ = some (.int .i64 t299) := (blk_cell BK302.out 4).trans rfl
        have hcz51_5 : wr.cell? ⟨gb302, 5, none⟩ = some (.int .i64 x303005_17) := (blk_cell BK302.out 5).trans rfl
        have hcz51_6 : wr.cell? ⟨gb302, 6, none⟩ = some (.bool false) := (blk_cell BK302.out 6).trans rfl
        have hfz51_0 := blk_frozen BK302.out 0
        have hfz51_1 := blk_frozen BK302.out 1
        have hfz51_2 := blk_frozen BK302.out 2
        have hfz51_3 := blk_frozen BK302.out 3
        have hfz51_4 := blk_frozen BK302.out 4
        have hfz51_5 := blk_frozen BK302.out 5
        have hfz51_6 := blk_frozen BK302.out 6
        have hnb52 := NB292_0.out
        have hnc52 := NB0_292.out
        have hcz53_0 : wr.cell? ⟨gb292, 0, none⟩ = some (.int .i64 0) := (blk_cell BK292.out 0).trans rfl
        have hcz53_1 : wr.cell? ⟨gb292, 1, none⟩ = some (.int .i64 0) := (blk_cell BK292.out 1).trans rfl
        have hcz53_2 : wr.cell? ⟨gb292, 2, none⟩ = some (.int .i64 0) := (blk_cell BK292.out 2).trans rfl
        have hcz53_3 : wr.cell? ⟨gb292, 3, none⟩ = some (.slice none 0 0) := (blk_cell BK292.out 3).trans rfl
        have hcz53_4 : wr.cell? ⟨gb292, 4, none⟩ = some (.int .i64 0) := (blk_cell BK292.out 4).trans rfl
        have hcz53_5 : wr.cell? ⟨gb292, 5, none⟩ = some (.int .i64 0) := (blk_cell BK292.out 5).trans rfl
        have hcz53_6 : wr.cell? ⟨gb292, 6, none⟩ = some (.bool false) := (blk_cell BK292.out 6).trans rfl
        have hfz53_0 := blk_frozen BK292.out 0
        have hfz53_1 := blk_frozen BK292.out 1
        have hfz53_2 := blk_frozen BK292.out 2
        have hfz53_3 := blk_frozen BK292.out 3
        have hfz53_4 := blk_frozen BK292.out 4
        have hfz53_5 := blk_frozen BK292.out 5
        have hfz53_6 := blk_frozen BK292.out 6
        obtain ⟨Ao54, co54, eo54⟩ := Kd.R_slice HO_303003.out
        subst eo54
        go_wp2
        refine bodyPost_ret (results_cell_row rfl _ _ gb292 51 #[.int .i64 0, .int .i64 x303001_17, .int .i64 x303002_17, .slice Ao54 x303003_3.length co54, .int .i64 t299, .int .i64 x303005_17, .bool false] (0, 0) _ rfl (by (with_reducible repeat (first | refine blk_drewN ?_ _ | refine blk_drew ?_ | refine blk_alloc ?_ _)); refine blk_put (cs := #[.int .i64 0, .int .i64 x303001_17, .int .i64 x303002_17, .slice Ao54 x303003_3.length co54, .int .i64 t299, .int .i64 x303005_17, .bool false]) ?_ 6 _ rfl; (with_reducible repeat (first | refine blk_drewN ?_ _ | refine blk_drew ?_ | refine blk_alloc ?_ _)); refine blk_put (cs := #[.int .i64 0, .int .i64 x303001_17, .int .i64 x303002_17, .slice Ao54 x303003_3.length co54, .int .i64 t299, .int .i64 0, .bool false]) ?_ 5 _ rfl; (with_reducible repeat (first | refine blk_drewN ?_ _ | refine blk_drew ?_ | refine blk_alloc ?_ _)); refine blk_put (cs := #[.int .i64 0, .int .i64 x303001_17, .int .i64 x303002_17, .slice Ao54 x303003_3.length co54, .int .i64 0, .int .i64 0, .bool false]) ?_ 4 _ rfl; (with_reducible repeat (first | refine blk_drewN ?_ _ | refine blk_drew ?_ | refine blk_alloc ?_ _)); refine blk_put (cs := #[.int .i64 0, .int .i64 x303001_17, .int .i64 x303002_17, .slice none 0 0, .int .i64 0, .int .i64 0, .bool false]) ?_ 3 _ rfl; (with_reducible repeat (first | refine blk_drewN ?_ _ | refine blk_drew ?_ | refine blk_alloc ?_ _)); refine blk_put (cs := #[.int .i64 0, .int .i64 x303001_17, .int .i64 0, .slice none 0 0, .int .i64 0, .int .i64 0, .bool false]) ?_ 2 _ rfl; (with_reducible repeat (first | refine blk_drewN ?_ _ | refine blk_drew ?_ | refine blk_alloc ?_ _)); refine blk_put (cs := #[.int .i64 0, .int .i64 0, .int .i64 0, .slice none 0 0, .int .i64 0, .int .i64 0, .bool false]) ?_ 1 _ rfl; (with_reducible repeat (first | refine blk_drewN ?_ _ | refine blk_drew ?_ | refine blk_alloc ?_ _)); refine blk_put (cs := #[.int .i64 0, .int .i64 0, .int .i64 0, .slice none 0 0, .int .i64 0, .int .i64 0, .bool false]) ?_ 0 _ rfl; (with_reducible repeat (first | refine blk_drewN ?_ _ | refine blk_drew ?_ | refine blk_alloc ?_ _)); exact BK292.out) Try.underlying51 rfl (by kernel_rfl)) rfl ?_
        exact ⟨_, by first | rfl | (simp [errW_none, errW_some] <;> rfl) | (simp [*, errW_none, errW_some] <;> rfl), by (with_reducible repeat (first | apply Kd.R_alloc | apply Kd.R_drewN | apply Kd.R_drew)); exact Kd.R_mono (Kd.R_far (p := ⟨gb292, 6, none⟩) (Kd.R_far (p := ⟨gb292, 5, none⟩) (Kd.R_far (p := ⟨gb292, 4, none⟩) (Kd.R_far (p := ⟨gb292, 3, none⟩) (Kd.R_far (p := ⟨gb292, 2, none⟩) (Kd.R_far (p := ⟨gb292, 1, none⟩) (Kd.R_far (p := ⟨gb292, 0, none⟩) (Kd.R_types HO_303003.out BK292.out (by decide)) (fun _ hk => hk.2) (.int .i64 0)) (fun _ hk => hk.2) (.int .i64 x303001_17)) (fun _ hk => hk.2) (.int .i64 x303002_17)) (fun _ hk => hk.2) (.slice Ao54 x303003_3.length co54)) (fun _ hk => hk.2) (.int .i64 t299)) (fun _ hk => hk.2) (.int .i64 x303005_17)) (fun _ hk => hk.2) (.bool false)) (fun _ hk => trivial), by repeat (first | (with_reducible first | exact HI0.out | apply IsS185.alloc | apply IsS185.drewN | apply IsS185.drew | apply IsS185.set_1 | apply IsS185.set_2 | refine IsS185.far ?_ NB0_292.out _ | refine IsS185.far ?_ NB0_302.out _) | exact HI0.out), by repeat (first | (with_reducible first | exact HB.out | apply below_alloc | apply pw_below_drewN | apply below_drew1 | refine below_set ?_ (IsS185.ge HI0.out) | refine below_set ?_ GE292.out | refine below_set ?_ GE302.out) | exact HB.out), by repeat (first | (with_reducible first | exact HK.out | apply KeepBut.set_ | apply keep_drewN | apply keep_drew | apply keep_alloc | refine keep_far ?_ GW292.out _ | refine keep_far ?_ GW302.out _) | exact HK.out)⟩

/-! ### spec_l30List: function 165 -/
def spec_l30List.l0 : Nat → List (S51) → Int → List Int → Int → Int → Option ((List (S51)) × Int × Int)
 | 0, _, _, _, _, _ => none
 | k + 1, x3, x4, x1000, x1001, x1002 => if x4 > 0 then ((spec_l30Grant.f k x1000 x1001 x1002 x3).bind fun bt325 => ((spec_AddGrant.f k x3 bt325.1 bt325.2.1 bt325.2.2.1 bt325.2.2.2.1 bt325.2.2.2.2.1 bt325.2.2.2.2.2.1 bt325.2.2.2.2.2.2.1).bind fun bt336 => (spec_l30List.l0 k bt336.1 (wrap64 (x4 - 1)) x1000 bt325.2.2.2.2.2.2.2.1 bt325.2.2.2.2.2.2.2.2))) else ((spec_l1Once.f x1000 x1001 x1002 3).bind fun bt340 => (if bt340.1 = true then ((spec_l1Below.f x1000 bt340.2.1 bt340.2.2 4).bind fun bt343 => ((spec_TakeBack.f k x3 (wrap64 (1 + bt343.1))).bind fun bt346 => (some (bt346.1, bt343.2.1, bt343.2.2)))) else (some (x3, bt340.2.1, bt340.2.2))))
def spec_l30List.f (k : Nat) (s0_0 : List Int) (s0_1 : Int) (s0_2 : Int) : Option ((List (S51)) × Int × Int) := (spec_l1Below.f s0_0 s0_1 s0_2 6).bind fun bt322 => (spec_l30List.l0 k (([] : List (S51))) bt322.1 s0_0 bt322.2.1 bt322.2.2)
set_option maxHeartbeats 8000000 in
set_option maxRecDepth 100000 in
theorem spec_l30List.calls (k : Nat) (g : Nat) (s0_0 : List Int) (s0_1 : Int) (s0_2 : Int) (r1 : List (S51)) (r2 : Int) (r3 : Int) (w0 w : World) (hI : IsS185 w0 w g s0_0 s0_1 s0_2) (hB : Below w0.heap.size w0 w) (h : spec_l30List.f k s0_0 s0_1 s0_2 = some (r1, r2, r3)) :
  Calls Try.prog 165 #[.pointer (some ⟨g, 0, none⟩)] w fun e w' => ∃ v0_ : Value, e = .returned (v0_) ∧ Kd.S k51 51 w' w.heap.size (fun _ => True) v0_ r1 ∧ IsS185 w0 w' g s0_0 r2 r3 ∧ Below w0.heap.size w0 w' ∧ KeepBut w w' g none := by
 have HI0 := Aside0.mk hI
 have HK := Aside0.mk (KeepBut.refl w g none)
 have HL := Aside0.mk hB.size
 clear hI
 have HW0 := Aside0.mk hB.size
 have HB := Aside0.mk hB
 clear hB
 have H : ((spec_l1Below.f s0_0 s0_1 s0_2 6).bind fun bt322 => (spec_l30List.l0 k (([] : List (S51))) bt322.1 s0_0 bt322.2.1 bt322.2.2)) = some (r1, r2, r3) := h
 clear h
 obtain ⟨y319, hy319⟩ : ∃ y_ : List (S51), y_ = (([] : List (S51))) := ⟨_, rfl⟩
 replace H : ((spec_l1Below.f s0_0 s0_1 s0_2 6).bind fun bt322 => (spec_l30List.l0 k y319 bt322.1 s0_0 bt322.2.1 bt322.2.2)) = some (r1, r2, r3) := by first | (rw [hy319]; with_reducible exact H) | (have H2_ := (Option.bind_some _ _).symm.trans H; rw [hy319]; with_reducible exact H2_) | (have H2_ := (Option.bind_some _ _).symm.trans H; with_reducible exact H2_) | with_reducible exact H | (rw [hy319]; exact H) | exact H
 have Ny319 := Aside0.mk hy319
 clear hy319
 replace H := Option.bind_eq_some_iff.mp H
 obtain ⟨⟨t322, t323, t324⟩, A20, H⟩ := H
 replace H : (spec_l30List.l0 k y319 t322 s0_0 t323 t324) = some (r1, r2, r3) := H
 have A2 := Aside0.mk A20
 clear A20
 have H' := Aside0.mk H
 clear H
 go_enter Try.func165, Try.ntmps165
 go_wp2_with (first | ((with_reducible refine gate_dst (N := 5) rfl ?_); refine Kd.S_lit k51 _ 51 ?hg (N := 5) ?hd (xs := ([] : List (S51))) (inner := []) (ok := fun _ => True) (okp := fun _ => True) ?hr ?hp (fun _ hk => hk) trivial (Below.refl _ _) (Nat.le_refl _) (by simp) ?_; (case hd => rfl); (case hg => rfl); (case hr => first | (go_simp; done) | (go_simp; rfl)); (case hp => exact (Reps.none _ _)); intro v320 w3 ho4 hb hg_ hnew_; clear hg_ hnew_; (first | rw [← Ny319.out] at ho4 | (simp only [Int.reduceToNat] at ho4; rw [← Ny319.out] at ho4)); have n0_ := Aside0.mk (Kd.S_lower ho4 (keep_size (w := w) (g := g) (row := none) (by repeat (first | (with_reducible first | exact HK.out | apply KeepBut.set_ | apply keep_drewN | apply keep_drew | apply keep_alloc) | exact HK.out)))); have n1_ := Aside0.mk (IsS185.below (by repeat (first | (with_reducible first | exact HI0.out | apply IsS185.alloc | apply IsS185.drewN | apply IsS185.drew | apply IsS185.set_1 | apply IsS185.set_2) | exact HI0.out)) hb); have n2_ := Aside0.mk (KeepBut.trans (by repeat (first | (with_reducible first | exact HK.out | apply KeepBut.set_ | apply keep_drewN | apply keep_drew | apply keep_alloc) | exact HK.out)) (KeepBut.of_below hb g none) (.inl rfl)); have n3_ := Aside0.mk (below_step (by repeat (first | (with_reducible first | exact HB.out | apply below_alloc | apply pw_below_drewN | apply below_drew1 | refine below_set ?_ (IsS185.ge HI0.out)) | exact HB.out)) hb); clear HI0; clear HK; clear HB; have HO321 := n0_; have HI0 := n1_; have HK := n2_; have HB := n3_; clear n0_ n1_ n2_ n3_; clear hb ho4) | ((with_reducible refine gate_callee (f := 119) rfl ?_); refine goesL_ (some 7) rfl rfl Try.func119 (by kernel_rfl) rfl #[.pointer (some ⟨g, 0, none⟩), .int .i64 6] rfl (by (try simp only [List.map_toArray, List.map_cons, List.map_nil]); first | done | rfl | (simp only [List.length_drop, List.length_take]; rfl)) ?_; (with_reducible refine (spec_l1Below.calls g s0_0 s0_1 s0_2 6 t322 t323 t324 w0 _ ?side1 ?side2 A2.out).mono ?_); (case side1 => repeat (first | (with_reducible first | exact HI0.out | apply IsS185.alloc | apply IsS185.drewN | apply IsS185.drew | apply IsS185.set_1 | apply IsS185.set_2) | exact HI0.out)); (case side2 => repeat (first | (with_reducible first | exact HB.out | apply below_alloc | apply pw_below_drewN | apply below_drew1 | refine below_set ?_ (IsS185.ge HI0.out)) | exact HB.out)); rintro e w5 ⟨rfl, hi, hb, hk⟩; refine ⟨_, rfl, ?_⟩; have n0_ := Aside0.mk (Kd.S_mono (Kd.S_keep (IsS185.apartS (show IsS185 w0 _ g s0_0 s0_1 s0_2 from by repeat (first | (with_reducible first | exact HI0.out | apply IsS185.alloc | apply IsS185.drewN | apply IsS185.drew | apply IsS185.set_1 | apply IsS185.set_2) | exact HI0.out)) (by (with_reducible repeat (first | apply Kd.S_alloc | apply Kd.S_drewN | apply Kd.S_drew)); exact HO321.out) (by decide)) hk (fun _ h => h.2)) (fun _ h => h.1)); have n1_ := Aside0.mk (KeepBut.trans (by repeat (first | (with_reducible first | exact HK.out | apply KeepBut.set_ | apply keep_drewN | apply keep_drew | apply keep_alloc) | exact HK.out)) hk (.inl rfl)); have n2_ := Aside0.mk (hb); have n3_ := Aside0.mk (hi); clear HO321; clear HK; clear HB; clear HI0; have HO321 := n0_; have HK := n1_; have HB := n2_; have HI0 := n3_; clear n0_ n1_ n2_ n3_; (try clear hb); (try clear hb2); (try clear hk); (try clear hi)))
 go_loopg [3, 4] k (fun kq v3 v4 w' => ∃ (x3_1 : List (S51)) (x4_1 : Int) (x1001_1 : Int) (x1002_1 : Int), v4 = .int .i64 x4_1 ∧ Aside0 (spec_l30List.l0 kq x3_1 x4_1 s0_0 x1001_1 x1002_1 = some (r1, r2, r3)) ∧ Aside0 (kq ≤ k) ∧ Aside0 (Kd.S k51 51 w' w.heap.size (fun _ => True) v3 x3_1) ∧ Aside0 (IsS185 w0 w' g s0_0 x1001_1 x1002_1) ∧ Aside0 (KeepBut w w' g none) ∧ Aside0 (Below w0.heap.size w0 w'))
 case atStart => exact ⟨(y319), (t322), (t323), (t324), (by first | rfl | (simp; done) | (simp [*]; done)), H', ⟨Nat.le_refl _⟩, ⟨by (with_reducible repeat (first | apply Kd.S_alloc | apply Kd.S_drewN | apply Kd.S_drew)); exact HO321.out⟩, ⟨by repeat (first | (with_reducible first | exact HI0.out | apply IsS185.alloc | apply IsS185.drewN | apply IsS185.drew | apply IsS185.set_1 | apply IsS185.set_2) | exact HI0.out)⟩, ⟨by repeat (first | (with_reducible first | exact HK.out | apply KeepBut.set_ | apply keep_drewN | apply keep_drew | apply keep_alloc) | exact HK.out)⟩, ⟨by repeat (first | (with_reducible first | exact HB.out | apply below_alloc | apply pw_below_drewN | apply below_drew1 | refine below_set ?_ (IsS185.ge HI0.out)) | exact HB.out)⟩⟩
 case round =>
  clear H'
  try clear c1
  try clear p2
  obtain ⟨x3_1, x4_1, x1001_1, x1002_1, rfl, HA, HK1, HO_3, HI0, HK, HB⟩ := hrel
  cases gk with
  | zero => exact absurd HA.out (by simp [spec_l30List.l0])
  | succ k1 =>
   have H := HA.out
   clear HA
   simp only [spec_l30List.l0] at H
   replace H := ifD H; rcases H with ⟨c6, H⟩ | ⟨c6, H⟩
   ·have c6b0 : decide (0 < x4_1) = true := decide_eq_true c6
    clear c6
    replace H := Option.bind_eq_some_iff.mp H
    obtain ⟨⟨t325, t326, t327, t328, t331, t332, t333, t334, t335⟩, A70, H⟩ := H
    replace H : ((spec_AddGrant.f k1 x3_1 t325 t326 t327 t328 t331 t332 t333).bind fun bt336 => (spec_l30List.l0 k1 bt336.1 (wrap64 (x4_1 - 1)) s0_0 t334 t335)) = some (r1, r2, r3) := H
    have A7 := Aside0.mk A70
    clear A70
    replace H := Option.bind_eq_some_iff.mp H
    obtain ⟨⟨t336, t339⟩, A80, H⟩ := H
    replace H : (spec_l30List.l0 k1 t336 (wrap64 (x4_1 - 1)) s0_0 t334 t335) = some (r1, r2, r3) := H
    have A8 := Aside0.mk A80
    clear A80
    have H' := Aside0.mk H
    clear H
    obtain ⟨Ao9, co9, eo9⟩ := Kd.S_slice HO_3.out
    subst eo9
    go_wp2_with (first | ((with_reducible refine gate_callee (f := 190) rfl ?_); refine goesL_ (some 16) rfl rfl Try.func190 (by kernel_rfl) rfl #[.pointer (some ⟨g, 0, none⟩), .slice Ao9 x3_1.length co9] rfl (by (try simp only [List.map_toArray, List.map_cons, List.map_nil]); first | done | rfl | (simp only [List.length_drop, List.length_take]; rfl)) ?_; (with_reducible refine (spec_l30Grant.calls k1 g s0_0 x1001_1 x1002_1 _ _ x3_1 t325 t326 t327 t328 t331 t332 t333 t334 t335 w0 _ ?side1 ?side2 ?side3 ?side4 A7.out).mono ?_); (case side1 => repeat (first | (with_reducible first | exact HI0.out | apply IsS185.alloc | apply IsS185.drewN | apply IsS185.drew | apply IsS185.set_1 | apply IsS185.set_2) | exact HI0.out)); (case side2 => repeat (first | (with_reducible first | exact HB.out | apply below_alloc | apply pw_below_drewN | apply below_drew1 | refine below_set ?_ (IsS185.ge HI0.out)) | exact HB.out)); (case side3 => exact Kd.C_foot_own ((Kd.S_R (IsS185.apartS (show IsS185 w0 _ g s0_0 x1001_1 x1002_1 from by repeat (first | (with_reducible first | exact HI0.out | apply IsS185.alloc | apply IsS185.drewN | apply IsS185.drew | apply IsS185.set_1 | apply IsS185.set_2) | exact HI0.out)) (by (with_reducible repeat (first | apply Kd.S_alloc | apply Kd.S_drewN | apply Kd.S_drew)); exact HO_3.out) (by decide)))) (fun _ h_ => h_.2)); (case side4 => exact (Kd.S_reads' HO_3.out).2.1); rintro e w10 ⟨v329, rfl, ho0, hi, hb, hk⟩; refine ⟨_, rfl, ?_⟩; have n0_ := Aside0.mk (Kd.S_mono (Kd.S_told (Kd.S_oldK (IsS185.apartS (show IsS185 w0 _ g s0_0 x1001_1 x1002_1 from by repeat (first | (with_reducible first | exact HI0.out | apply IsS185.alloc | apply IsS185.drewN | apply IsS185.drew | apply IsS185.set_1 | apply IsS185.set_2) | exact HI0.out)) (by (with_reducible repeat (first | apply Kd.S_alloc | apply Kd.S_drewN | apply Kd.S_drew)); exact HO_3.out) (by decide)) hk) (Kd.R_base ho0)) (fun _ h_ => h_.1)); have n1_ := Aside0.mk (Kd.R_lower ho0 (keep_size (w := w) (g := g) (row := none) (by repeat (first | (with_reducible first | exact HK.out | apply KeepBut.set_ | apply keep_drewN | apply keep_drew | apply keep_alloc) | exact HK.out)))); have n2_ := Aside0.mk (KeepBut.trans (by repeat (first | (with_reducible first | exact HK.out | apply KeepBut.set_ | apply keep_drewN | apply keep_drew | apply keep_alloc) | exact HK.out)) hk (.inl rfl)); have n3_ := Aside0.mk (hb); have n4_ := Aside0.mk (hi); clear HO_3; clear HK; clear HB; clear HI0; have HO_3 := n0_; have HO330 := n1_; have HK := n2_; have HB := n3_; have HI0 := n4_; clear n0_ n1_ n2_ n3_ n4_; (try clear hb); (try clear hb2); (try clear hk); (try clear hi); (try clear ho0); obtain ⟨Ao11, co11, eo11⟩ := Kd.R_slice HO330.out; subst eo11) | ((with_reducible refine gate_callee (f := 34) rfl ?_); refine goesL_ (some 17) rfl rfl Try.func34 (by kernel_rfl) rfl #[.slice Ao9 x3_1.length co9, .agg #[.int .i64 t325, .int .i64 t326, .int .i64 t327, .slice Ao11 t328.length co11, .int .i64 t331, .int .i64 t332, .bool t333]] rfl (by (try simp only [List.map_toArray, List.map_cons, List.map_nil]); first | done | rfl | (simp only [List.length_drop, List.length_take]; rfl)) ?_; (with_reducible refine (spec_AddGrant.calls k1 _ _ x3_1 t325 t326 t327 _ _ t328 t331 t332 t333 t336 t339 _ ?side1 ?side2 ?side3 ?side4 A8.out).mono ?_); (case side1 => repeat (first | exact (Kd.S_reads' HO_3.out).2.2 | (with_reducible refine Kd.C_alloc ?_ _) | (with_reducible refine Kd.C_drewN ?_ _) | (with_reducible refine Kd.C_drew ?_))); (case side2 => exact (Kd.S_reads' HO_3.out).2.1); (case side3 => repeat (first | exact (Kd.R_reads' HO330.out).2.2 | (with_reducible refine Kd.C_alloc ?_ _) | (with_reducible refine Kd.C_drewN ?_ _) | (with_reducible refine Kd.C_drew ?_))); (case side4 => exact (Kd.R_reads' HO330.out).2.1); rintro e w12 ⟨v337, rfl, ho0, hb⟩; refine ⟨_, rfl, ?_⟩; have n0_ := Aside0.mk (Kd.S_elder' (by (with_reducible repeat (first | apply Kd.S_alloc | apply Kd.S_drewN | apply Kd.S_drew)); exact HO_3.out) (Kd.S_base ho0) hb); have n1_ := Aside0.mk (Kd.R_below (by (with_reducible repeat (first | apply Kd.R_alloc | apply Kd.R_drewN | apply Kd.R_drew)); exact HO330.out) hb); have n2_ := Aside0.mk (Kd.S_lower (Kd.S_new' (Kd.S_new' ho0 (Kd.S_lt (by (with_reducible repeat (first | apply Kd.S_alloc | apply Kd.S_drewN | apply Kd.S_drew)); exact HO_3.out))) (Kd.R_lt (by (with_reducible repeat (first | apply Kd.R_alloc | apply Kd.R_drewN | apply Kd.R_drew)); exact HO330.out))) (keep_size (w := w) (g := g) (row := none) (by repeat (first | (with_reducible first | exact HK.out | apply KeepBut.set_ | apply keep_drewN | apply keep_drew | apply keep_alloc) | exact HK.out)))); have n3_ := Aside0.mk (IsS185.below (by repeat (first | (with_reducible first | exact HI0.out | apply IsS185.alloc | apply IsS185.drewN | apply IsS185.drew | apply IsS185.set_1 | apply IsS185.set_2) | exact HI0.out)) hb); have n4_ := Aside0.mk (KeepBut.trans (by repeat (first | (with_reducible first | exact HK.out | apply KeepBut.set_ | apply keep_drewN | apply keep_drew | apply keep_alloc) | exact HK.out)) (KeepBut.of_below hb g none) (.inl rfl)); have n5_ := Aside0.mk (below_step (by repeat (first | (with_reducible first | exact HB.out | apply below_alloc | apply pw_below_drewN | apply below_drew1 | refine below_set ?_ (IsS185.ge HI0.out)) | exact HB.out)) hb); clear HO_3; clear HO330; clear HI0; clear HK; clear HB; have HO_3 := n0_; have HO330 := n1_; have HO338 := n2_; have HI0 := n3_; have HK := n4_; have HB := n5_; clear n0_ n1_ n2_ n3_ n4_ n5_; (try clear hb); (try clear hb2); (try clear hk); (try clear hi); (try clear ho0)))
    go_roundg k1
    case measure => have := HK1.out; omega
    case rel => exact ⟨(t336), (wrap64 (x4_1 - 1)), (t334), (t335), (by first | rfl | (simp; done) | (simp [*]; done)), H', ⟨by have := HK1.out; omega⟩, ⟨by (with_reducible repeat (first | apply Kd.S_alloc | apply Kd.S_drewN | apply Kd.S_drew)); exact Kd.S_mono HO338.out (fun _ hk => trivial)⟩, ⟨by repeat (first | (with_reducible first | exact HI0.out | apply IsS185.alloc | apply IsS185.drewN | apply IsS185.drew | apply IsS185.set_1 | apply IsS185.set_2) | exact HI0.out)⟩, ⟨by repeat (first | (with_reducible first | exact HK.out | apply KeepBut.set_ | apply keep_drewN | apply keep_drew | apply keep_alloc) | exact HK.out)⟩, ⟨by repeat (first | (with_reducible first | exact HB.out | apply below_alloc | apply pw_below_drewN | apply below_drew1 | refine below_set ?_ (IsS185.ge HI0.out)) | exact HB.out)⟩⟩
   ·have c6b0 : decide (0 < x4_1) = false := decide_eq_false c6
    clear c6
    replace H := Option.bind_eq_some_iff.mp H
    obtain ⟨⟨t340, t341, t342⟩, A130, H⟩ := H
    replace H : (if t340 = true then ((spec_l1Below.f s0_0 t341 t342 4).bind fun bt343 => ((spec_TakeBack.f k1 x3_1 (wrap64 (1 + bt343.1))).bind fun bt346 => (some (bt346.1, bt343.2.1, bt343.2.2)))) else (some (x3_1, t341, t342))) = some (r1, r2, r3) := H
    have A13 := Aside0.mk A130
    clear A130
    by_cases c14 : t340 = true
    ·subst c14
     have H1 : ((spec_l1Below.f s0_0 t341 t342 4).bind fun bt343 => ((spec_TakeBack.f k1 x3_1 (wrap64 (1 + bt343.1))).bind fun bt346 => (some (bt346.1, bt343.2.1, bt343.2.2)))) = some (r1, r2, r3) := by rw [if_pos rfl] at H; exact H
     clear H
     have H := H1
     clear H1
     replace H := Option.bind_eq_some_iff.mp H
     obtain ⟨⟨t343, t344, t345⟩, A150, H⟩ := H
     replace H : ((spec_TakeBack.f k1 x3_1 (wrap64 (1 + t343))).bind fun bt346 => (some (bt346.1, t344, t345))) = some (r1, r2, r3) := H
     have A15 := Aside0.mk A150
     clear A150
     replace H := Option.bind_eq_some_iff.mp H
     obtain ⟨⟨t346, t347⟩, A160, H⟩ := H
     replace H : (some (t346, t344, t345)) = some (r1, r2, r3) := H
     have A16 := Aside0.mk A160
     clear A160
     simp only [Option.some.injEq, Prod.mk.injEq] at H
     obtain ⟨rfl, rfl, rfl⟩ := H
     go_wp2_with (first | ((with_reducible refine gate_callee (f := 146) rfl ?_); refine goesL_ (some 21) rfl rfl Try.func146 (by kernel_rfl) rfl #[.pointer (some ⟨g, 0, none⟩), .int .i64 3] rfl (by (try simp only [List.map_toArray, List.map_cons, List.map_nil]); first | done | rfl | (simp only [List.length_drop, List.length_take]; rfl)) ?_; (with_reducible refine (spec_l1Once.calls g s0_0 x1001_1 x1002_1 3 true t341 t342 w0 _ ?side1 ?side2 A13.out).mono ?_); (case side1 => repeat (first | (with_reducible first | exact HI0.out | apply IsS185.alloc | apply IsS185.drewN | apply IsS185.drew | apply IsS185.set_1 | apply IsS185.set_2) | exact HI0.out)); (case side2 => repeat (first | (with_reducible first | exact HB.out | apply below_alloc | apply pw_below_drewN | apply below_drew1 | refine below_set ?_ (IsS185.ge HI0.out)) | exact HB.out)); rintro e w17 ⟨rfl, hi, hb, hk⟩; refine ⟨_, rfl, ?_⟩; have n0_ := Aside0.mk (Kd.S_mono (Kd.S_keep (IsS185.apartS (show IsS185 w0 _ g s0_0 x1001_1 x1002_1 from by repeat (first | (with_reducible first | exact HI0.out | apply IsS185.alloc | apply IsS185.drewN | apply IsS185.drew | apply IsS185.set_1 | apply IsS185.set_2) | exact HI0.out)) (by (with_reducible repeat (first | apply Kd.S_alloc | apply Kd.S_drewN | apply Kd.S_drew)); exact HO_3.out) (by decide)) hk (fun _ h => h.2)) (fun _ h => h.1)); have n1_ := Aside0.mk (KeepBut.trans (by repeat (first | (with_reducible first | exact HK.out | apply KeepBut.set_ | apply keep_drewN | apply keep_drew | apply keep_alloc) | exact HK.out)) hk (.inl rfl)); have n2_ := Aside0.mk (hb); have n3_ := Aside0.mk (hi); clear HO_3; clear HK; clear HB; clear HI0; have HO_3 := n0_; have HK := n1_; have HB := n2_; have HI0 := n3_; clear n0_ n1_ n2_ n3_; (try clear hb); (try clear hb2); (try clear hk); (try clear hi)) | ((with_reducible refine gate_callee (f := 119) rfl ?_); refine goesL_ (some 25) rfl rfl Try.func119 (by kernel_rfl) rfl #[.pointer (some ⟨g, 0, none⟩), .int .i64 4] rfl (by (try simp only [List.map_toArray, List.map_cons, List.map_nil]); first | done | rfl | (simp only [List.length_drop, List.length_take]; rfl)) ?_; (with_reducible refine (spec_l1Below.calls g s0_0 t341 t342 4 t343 t344 t345 w0 _ ?side1 ?side2 A15.out).mono ?_); (case side1 => repeat (first | (with_reducible first | exact HI0.out | apply IsS185.alloc | apply IsS185.drewN | apply IsS185.drew | apply IsS185.set_1 | apply IsS185.set_2) | exact HI0.out)); (case side2 => repeat (first | (with_reducible first | exact HB.out | apply below_alloc | apply pw_below_drewN | apply below_drew1 | refine below_set ?_ (IsS185.ge HI0.out)) | exact HB.out)); rintro e w18 ⟨rfl, hi, hb, hk⟩; refine ⟨_, rfl, ?_⟩; have n0_ := Aside0.mk (Kd.S_mono (Kd.S_keep (IsS185.apartS (show IsS185 w0 _ g s0_0 t341 t342 from by repeat (first | (with_reducible first | exact HI0.out | apply IsS185.alloc | apply IsS185.drewN | apply IsS185.drew | apply IsS185.set_1 | apply IsS185.set_2) | exact HI0.out)) (by (with_reducible repeat (first | apply Kd.S_alloc | apply Kd.S_drewN | apply Kd.S_drew)); exact HO_3.out) (by decide)) hk (fun _ h => h.2)) (fun _ h => h.1)); have n1_ := Aside0.mk (KeepBut.trans (by repeat (first | (with_reducible first | exact HK.out | apply KeepBut.set_ | apply keep_drewN | apply keep_drew | apply keep_alloc) | exact HK.out)) hk (.inl rfl)); have n2_ := Aside0.mk (hb); have n3_ := Aside0.mk (hi); clear HO_3; clear HK; clear HB; clear HI0; have HO_3 := n0_; have HK := n1_; have HB := n2_; have HI0 := n3_; clear n0_ n1_ n2_ n3_; (try clear hb); (try clear hb2); (try clear hk); (try clear hi); obtain ⟨Ao19, co19, eo19⟩ := Kd.S_slice HO_3.out; subst eo19) | ((with_reducible refine gate_callee (f := 27) rfl ?_); refine goesL_ (some 27) rfl rfl Try.func27 (by kernel_rfl) rfl #[.slice Ao19 x3_1.length co19, .int .i64 (wrap64 (1 + t343))] rfl (by (try simp only [List.map_toArray, List.map_cons, List.map_nil]); first | done | rfl | (simp only [List.length_drop, List.length_take]; rfl)) ?_; (with_reducible refine (spec_TakeBack.calls k1 _ _ x3_1 (wrap64 (1 + t343)) t346 t347 _ ?side1 ?side2 A16.out).mono ?_); (case side1 => repeat (first | exact (Kd.S_reads' HO_3.out).2.2 | (with_reducible refine Kd.C_alloc ?_ _) | (with_reducible refine Kd.C_drewN ?_ _) | (with_reducible refine Kd.C_drew ?_))); (case side2 => exact (Kd.S_reads' HO_3.out).2.1); rintro e w20 ⟨v348, rfl, ho0, hb⟩; refine ⟨_, rfl, ?_⟩; have n0_ := Aside0.mk (Kd.S_elder' (by (with_reducible repeat (first | apply Kd.S_alloc | apply Kd.S_drewN | apply Kd.S_drew)); exact HO_3.out) (Kd.S_base ho0) hb); have n1_ := Aside0.mk (Kd.S_lower (Kd.S_new' ho0 (Kd.S_lt (by (with_reducible repeat (first | apply Kd.S_alloc | apply Kd.S_drewN | apply Kd.S_drew)); exact HO_3.out))) (keep_size (w := w) (g := g) (row := none) (by repeat (first | (with_reducible first | exact HK.out | apply KeepBut.set_ | apply keep_drewN | apply keep_drew | apply keep_alloc) | exact HK.out)))); have n2_ := Aside0.mk (IsS185.below (by repeat (first | (with_reducible first | exact HI0.out | apply IsS185.alloc | apply IsS185.drewN | apply IsS185.drew | apply IsS185.set_1 | apply IsS185.set_2) | exact HI0.out)) hb); have n3_ := Aside0.mk (KeepBut.trans (by repeat (first | (with_reducible first | exact HK.out | apply KeepBut.set_ | apply keep_drewN | apply keep_drew | apply keep_alloc) | exact HK.out)) (KeepBut.of_below hb g none) (.inl rfl)); have n4_ := Aside0.mk (below_step (by repeat (first | (with_reducible first | exact HB.out | apply below_alloc | apply pw_below_drewN | apply below_drew1 | refine below_set ?_ (IsS185.ge HI0.out)) | exact HB.out)) hb); clear HO_3; clear HI0; clear HK; clear HB; have HO_3 := n0_; have HO349 := n1_; have HI0 := n2_; have HK := n3_; have HB := n4_; clear n0_ n1_ n2_ n3_ n4_; (try clear hb); (try clear hb2); (try clear hk); (try clear hi); (try clear ho0)))
     go_ret
     exact ⟨_, by first | rfl | (simp [errW_none, errW_some] <;> rfl) | (simp [*, errW_none, errW_some] <;> rfl), by (with_reducible repeat (first | apply Kd.S_alloc | apply Kd.S_drewN | apply Kd.S_drew)); exact Kd.S_mono HO349.out (fun _ hk => trivial), by repeat (first | (with_reducible first | exact HI0.out | apply IsS185.alloc | apply IsS185.drewN | apply IsS185.drew | apply IsS185.set_1 | apply IsS185.set_2) | exact HI0.out), by repeat (first | (with_reducible first | exact HB.out | apply below_alloc | apply pw_below_drewN | apply below_drew1 | refine below_set ?_ (IsS185.ge HI0.out)) | exact HB.out), by repeat (first | (with_reducible first | exact HK.out | apply KeepBut.set_ | apply keep_drewN | apply keep_drew | apply keep_alloc) | exact HK.out)⟩
    ·replace c14 := Bool.eq_false_iff.mpr c14
     subst c14
     have H1 : (some (x3_1, t341, t342)) = some (r1, r2, r3) := by rw [if_neg (show ¬ (false = true) by decide)] at H; exact H
     clear H
     have H := H1
     clear H1
     simp only [Option.some.injEq, Prod.mk.injEq] at H
     obtain ⟨rfl, rfl, rfl⟩ := H
     go_wp2_with (first | ((with_reducible refine gate_callee (f := 146) rfl ?_); refine goesL_ (some 21) rfl rfl Try.func146 (by kernel_rfl) rfl #[.pointer (some ⟨g, 0, none⟩), .int .i64 3] rfl (by (try simp only [List.map_toArray, List.map_cons, List.map_nil]); first | done | rfl | (simp only [List.length_drop, List.length_take]; rfl)) ?_; (with_reducible refine (spec_l1Once.calls g s0_0 x1001_1 x1002_1 3 false t341 t342 w0 _ ?side1 ?side2 A13.out).mono ?_); (case side1 => repeat (first | (with_reducible first | exact HI0.out | apply IsS185.alloc | apply IsS185.drewN | apply IsS185.drew | apply IsS185.set_1 | apply IsS185.set_2) | exact HI0.out)); (case side2 => repeat (first | (with_reducible first | exact HB.out | apply below_alloc | apply pw_below_drewN | apply below_drew1 | refine below_set ?_ (IsS185.ge HI0.out)) | exact HB.out)); rintro e w21 ⟨rfl, hi, hb, hk⟩; refine ⟨_, rfl, ?_⟩; have n0_ := Aside0.mk (Kd.S_mono (Kd.S_keep (IsS185.apartS (show IsS185 w0 _ g s0_0 x1001_1 x1002_1 from by repeat (first | (with_reducible first | exact HI0.out | apply IsS185.alloc | apply IsS185.drewN | apply IsS185.drew | apply IsS185.set_1 | apply IsS185.set_2) | exact HI0.out)) (by (with_reducible repeat (first | apply Kd.S_alloc | apply Kd.S_drewN | apply Kd.S_drew)); exact HO_3.out) (by decide)) hk (fun _ h => h.2)) (fun _ h => h.1)); have n1_ := Aside0.mk (KeepBut.trans (by repeat (first | (with_reducible first | exact HK.out | apply KeepBut.set_ | apply keep_drewN | apply keep_drew | apply keep_alloc) | exact HK.out)) hk (.inl rfl)); have n2_ := Aside0.mk (hb); have n3_ := Aside0.mk (hi); clear HO_3; clear HK; clear HB; clear HI0; have HO_3 := n0_; have HK := n1_; have HB := n2_; have HI0 := n3_; clear n0_ n1_ n2_ n3_; (try clear hb); (try clear hb2); (try clear hk); (try clear hi)))
     go_ret
     exact ⟨_, by first | rfl | (simp [errW_none, errW_some] <;> rfl) | (simp [*, errW_none, errW_some] <;> rfl), by (with_reducible repeat (first | apply Kd.S_alloc | apply Kd.S_drewN | apply Kd.S_drew)); exact HO_3.out, by repeat (first | (with_reducible first | exact HI0.out | apply IsS185.alloc | apply IsS185.drewN | apply IsS185.drew | apply IsS185.set_1 | apply IsS185.set_2) | exact HI0.out), by repeat (first | (with_reducible first | exact HB.out | apply below_alloc | apply pw_below_drewN | apply below_drew1 | refine below_set ?_ (IsS185.ge HI0.out)) | exact HB.out), by repeat (first | (with_reducible first | exact HK.out | apply KeepBut.set_ | apply keep_drewN | apply keep_drew | apply keep_alloc) | exact HK.out)⟩

end Go.Proofs.Ytplfbjbbnjlnkaa.QFnDelegated
