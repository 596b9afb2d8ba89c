/- The machine side of FnExactSaveDecision: what each function that it reaches computes, and that the machine's call gives just that. -/
import Derived.Test.YtmgfklmhelabcaaGreatQFnExactSaveDecisionx0
import Derived.Test.YtmgfklmhelabcaaGreatQFnExactSaveDecisionx1
import Derived.Test.YtmgfklmhelabcaaGreatQFnExactSaveDecisionx2
import Derived.Test.YtmgfklmhelabcaaGreatQFnExactSaveDecisionx10
import Derived.Test.YtmgfklmhelabcaaGreatQFnExactSaveDecisionx16
namespace Go.Proofs.YtmgfklmhelabcaaGreat.QFnExactSaveDecision
open Go.RowKit Go.Proofs.YtmgfklmhelabcaaGreatW.PrintWords Go.Proofs.YtmgfklmhelabcaaGreatW.PrintLast Go.Proofs.YtmgfklmhelabcaaGreatW.PrintMore
attribute [local go_sem] max2_int min2_int max_two min_two max_three min_three max_four min_four
set_option maxHeartbeats 8000000
set_option maxRecDepth 100000
open Go.Proofs.YtmgfklmhelabcaaGreatM
set_option linter.unusedVariables false
set_option linter.unusedSimpArgs false
abbrev m1_ : Array Bool := #[true, true, true, false, true, false, true, false, true, false, true, false]
abbrev m2_ : Array Bool := #[true, true, true, true, true, false, true, false, true, false, true, false]
abbrev m3_ : Array Bool := #[true, true, true, true, true, true, false, true, false]
abbrev m4_ : Array Bool := #[true, true, true, true, true, true, true, false, true, false, true, false]
abbrev m5_ : Array Bool := #[true, true, true, true, true, true, true, true, false]
abbrev m6_ : Array Bool := #[true, true, true, true, true, true, true, true, true, false, true, false]
abbrev m7_ : Array Bool := #[true, true, true, true, true, true, true, true, true, true, true, false]
def laws_FnExactSaveDecision.f (k : Nat) (l0 : List (S156)) (l1 : List (S158)) (a2_0 : Int) (l2_1 : List (S190)) (a3_0 : Int) (a3_1 : Int) (a3_2 : Int) (a3_3 : Int) (a3_4 : Int) (a3_5 : Int) (a4 : Int) : Option (Bool) := (laws_szIncludesS.f l0 1048576).bind fun t646 => (if t646 < 0 then (some true) else ((laws_szFactS.f l1 t646).bind fun t647 => (if t647 < 0 then (some true) else ((laws_szPolicy.f k a2_0 l2_1 t647).bind fun t648 => (if t648 < 0 then (some true) else ((laws_toIncludesS.f k l0).bind fun t649 => ((laws_toFactS.f k l1).bind fun t652 => ((laws_toPolicy.f k a2_0 l2_1).bind fun bt655 => ((laws_toRequest.f a3_0 a3_1 a3_2 a3_3 a3_4 a3_5).bind fun bt659 => ((spec_SaveDecision.f k t649 t652 bt655.1 bt655.2 bt659.1 bt659.2.1 bt659.2.2.1 bt659.2.2.2.1 bt659.2.2.2.2.1 bt659.2.2.2.2.2 a4).bind fun bt665 => ((laws_toIncludesS.f k l0).bind fun t674 => ((laws_toFactS.f k l1).bind fun t677 => ((laws_toPolicy.f k a2_0 l2_1).bind fun bt680 => ((laws_toRequest.f a3_0 a3_1 a3_2 a3_3 a3_4 a3_5).bind fun bt685 => ((impl_SaveDecision.f k t674 t677 bt680.1 bt680.2 bt685.1 bt685.2.1 bt685.2.2.1 bt685.2.2.2.1 bt685.2.2.2.2.1 bt685.2.2.2.2.2 a4).bind fun bt691 => ((laws_eqSaved.f bt691.1 bt691.2.1 bt691.2.2.1 bt691.2.2.2.1 bt691.2.2.2.2.1 bt691.2.2.2.2.2.1 bt691.2.2.2.2.2.2.1 bt691.2.2.2.2.2.2.2 bt665.1 bt665.2.1 bt665.2.2.1 bt665.2.2.2.1 bt665.2.2.2.2.1 bt665.2.2.2.2.2.1 bt665.2.2.2.2.2.2.1 bt665.2.2.2.2.2.2.2).bind fun t700 => (if t700 = true then ((laws_toIncludesS.f k l0).bind fun t701 => ((laws_eqIncludesS.f k t674 t701).bind fun t704 => (if t704 = true then ((laws_toFactS.f k l1).bind fun t705 => ((laws_eqFactS.f k t677 t705).bind fun t708 => (if t708 = true then ((laws_toPolicy.f k a2_0 l2_1).bind fun bt709 => ((laws_eqPolicy.f k bt680.1 bt680.2 bt709.1 bt709.2).bind fun t713 => (if t713 = true then (some true) else (some false)))) else (some false)))) else (some false)))) else (some false))))))))))))))))))
theorem laws_FnExactSaveDecision.calls (k : Nat) (A0 : Option Addr) (c0 : Nat) (l0 : List (S156)) (A1 : Option Addr) (c1 : Nat) (l1 : List (S158)) (a2_0 : Int) (A2_1 : Option Addr) (c2_1 : Nat) (l2_1 : List (S190)) (a3_0 : Int) (a3_1 : Int) (a3_2 : Int) (a3_3 : Int) (a3_4 : Int) (a3_5 : Int) (a4 : Int) (r : Bool) (w : World) (hr0 : Kd.C k156 w A0 l0.length l0) (hc0 : l0.length ≤ c0) (hr1 : Kd.C k158 w A1 l1.length l1) (hc1 : l1.length ≤ c1) (hr2_1 : Kd.C k190 w A2_1 l2_1.length l2_1) (hc2_1 : l2_1.length ≤ c2_1) (h : laws_FnExactSaveDecision.f k l0 l1 a2_0 l2_1 a3_0 a3_1 a3_2 a3_3 a3_4 a3_5 a4 = some r) :
  Calls Tryz.prog 4 #[.slice A0 l0.length c0, .slice A1 l1.length c1, .agg #[.int .i64 a2_0, .slice A2_1 l2_1.length c2_1], .agg #[.int .i64 a3_0, .int .i64 a3_1, .int .i64 a3_2, .int .i64 a3_3, .int .i64 a3_4, .int .i64 a3_5], .int .i64 a4] w fun e w' => e = .returned (.bool r) ∧ Below w.heap.size w w' := by
 have HR0 := Aside0.mk hr0
 have HC0 := Aside0.mk hc0
 clear hr0 hc0
 have HR1 := Aside0.mk hr1
 have HC1 := Aside0.mk hc1
 clear hr1 hc1
 have HR2_1 := Aside0.mk hr2_1
 have HC2_1 := Aside0.mk hc2_1
 clear hr2_1 hc2_1
 have HB := Aside0.mk (Below.refl w.heap.size w)
 have H := h
 clear h
 unfold laws_FnExactSaveDecision.f at H
 have hu26 := Tryz.underlying26
 have hu28 := Tryz.underlying28
 have hu39 := Tryz.underlying39
 have hu48 := Tryz.underlying48
 go_enter Tryz.func4, Tryz.ntmps4
 have H'' := Aside0.mk H
 clear H
 go_wp2_with (first | ((with_reducible refine gate_dst (N := 7) rfl ?_); refine box_event ?hg (N := 7) ?hd (cs := #[.int .i64 a2_0, .slice A2_1 l2_1.length c2_1]) (t := 26) ?hr ?_; (case hd => rfl); (case hg => rfl); (case hr => first | (go_simp; done) | (go_simp; rfl)); intro gb1 hg W1 hbox hb; have Z1 := Aside0.mk hb.size; have E1 := Aside0.mk (And.intro hg (blk_lt hbox)); have BK1 := Aside0.mk hbox; have c_BK1 := blk_cell hbox; have z_BK1 := blk_frozen hbox; have hB_ := below_step HB.out hb; clear HB hb hbox hg; have HB := Aside0.mk hB_; clear hB_) | ((with_reducible refine gate_dst (N := 8) rfl ?_); refine box_event ?hg (N := 8) ?hd (cs := #[.int .i64 a3_0, .int .i64 a3_1, .int .i64 a3_2, .int .i64 a3_3, .int .i64 a3_4, .int .i64 a3_5]) (t := 28) ?hr ?_; (case hd => rfl); (case hg => rfl); (case hr => first | (go_simp; done) | (go_simp; rfl)); intro gb2 hg W2 hbox hb; have Z2 := Aside0.mk hb.size; have E2 := Aside0.mk (And.intro hg (blk_lt hbox)); have h_ := blk_below BK1.out hb; clear BK1 c_BK1 z_BK1; have BK1 := Aside0.mk h_; have c_BK1 := blk_cell h_; have z_BK1 := blk_frozen h_; clear h_; have BK2 := Aside0.mk hbox; have c_BK2 := blk_cell hbox; have z_BK2 := blk_frozen hbox; have hB_ := below_step HB.out hb; clear HB hb hbox hg; have HB := Aside0.mk hB_; clear hB_))
 have H := H''.out
 clear H''
 replace H := obs H
 obtain ⟨t646, hm, H⟩ := H
 (try dsimp only at H)
 have H' := Aside0.mk H
 clear H
 have hcall := laws_szIncludesS.calls _ _ l0 1048576 t646 W2 (Kd.C_below HR0.out HB.out) HC0.out hm
 clear hm
 try go_wp2_with fail
 refine hcall.mono ?_
 rintro e W3 ⟨rfl, hb⟩
 clear hcall
 have Z3 := Aside0.mk hb.size
 replace BK1 := bK BK1 hb; replace c_BK1 := bcl BK1; replace z_BK1 := bfr BK1
 replace BK2 := bK BK2 hb; replace c_BK2 := bcl BK2; replace z_BK2 := bfr BK2
 replace HB := bH HB hb; clear hb
 have H := H'.out
 clear H'
 replace H := ifD H; rcases H with ⟨c4, H⟩ | ⟨c4, H⟩
 ·have c4_0 := decT c4
  clear c4
  cases H
  go_wp2
  go_ret
  exact ⟨rfl, HB.out⟩
 have c4_0 := decF c4
 clear c4
 replace H := obs H
 obtain ⟨t647, hm, H⟩ := H
 (try dsimp only at H)
 have H' := Aside0.mk H
 clear H
 have hcall := laws_szFactS.calls _ _ l1 t646 t647 W3 (Kd.C_below HR1.out HB.out) HC1.out hm
 clear hm
 (go_wp2_with fail)
 refine hcall.mono ?_
 rintro e W5 ⟨rfl, hb⟩
 clear hcall
 have Z5 := Aside0.mk hb.size
 replace BK1 := bK BK1 hb; replace c_BK1 := bcl BK1; replace z_BK1 := bfr BK1
 replace BK2 := bK BK2 hb; replace c_BK2 := bcl BK2; replace z_BK2 := bfr BK2
 replace HB := bH HB hb; clear hb
 have H := H'.out
 clear H'
 replace H := ifD H; rcases H with ⟨c6, H⟩ | ⟨c6, H⟩
 ·have c6_0 := decT c6
  clear c6
  cases H
  go_wp2
  go_ret
  exact ⟨rfl, HB.out⟩
 have c6_0 := decF c6
 clear c6
 replace H := obs H
 obtain ⟨t648, hm, H⟩ := H
 (try dsimp only at H)
 have H' := Aside0.mk H
 clear H
 have hcall := laws_szPolicy.calls k a2_0 _ _ l2_1 t647 t648 W5 (Kd.C_below HR2_1.out HB.out) HC2_1.out hm
 clear hm
 (go_wp2_with fail)
 refine hcall.mono ?_
 rintro e W7 ⟨rfl, hb⟩
 clear hcall
 have Z7 := Aside0.mk hb.size
 replace BK1 := bK BK1 hb; replace c_BK1 := bcl BK1; replace z_BK1 := bfr BK1
 replace BK2 := bK BK2 hb; replace c_BK2 := bcl BK2; replace z_BK2 := bfr BK2
 replace HB := bH HB hb; clear hb
 have H := H'.out
 clear H'
 replace H := ifD H; rcases H with ⟨c8, H⟩ | ⟨c8, H⟩
 ·have c8_0 := decT c8
  clear c8
  cases H
  go_wp2
  go_ret
  exact ⟨rfl, HB.out⟩
 have c8_0 := decF c8
 clear c8
 replace H := obs H
 obtain ⟨t649, hm, H⟩ := H
 (try dsimp only at H)
 have HM9 := Aside0.mk hm
 clear hm
 replace H := obs H
 obtain ⟨t652, hm, H⟩ := H
 (try dsimp only at H)
 have HM10 := Aside0.mk hm
 clear hm
 replace H := obs H
 obtain ⟨⟨t655, t656⟩, hm, H⟩ := H
 (try dsimp only at H)
 have HM11 := Aside0.mk hm
 clear hm
 replace H := obs H
 obtain ⟨⟨t659, t660, t661, t662, t663, t664⟩, hm, H⟩ := H
 (try dsimp only at H)
 have HM12 := Aside0.mk hm
 clear hm
 replace H := obs H
 obtain ⟨⟨t665, t666, t667, t668, t669, t670, t671, t672⟩, hm, H⟩ := H
 (try dsimp only at H)
 have HM13 := Aside0.mk hm
 clear hm
 have H' := Aside0.mk H
 clear H
 try go_wp2
 have h_ := blk_drew BK1.out
 clear BK1 c_BK1 z_BK1
 have BK1 := Aside0.mk h_
 clear h_
 have h_ := blk_drew BK2.out
 clear BK2 c_BK2 z_BK2
 have BK2 := Aside0.mk h_
 clear h_
 replace HB := dH HB
 have Z14 : Aside0 (W7.heap.size ≤ W7.drew.heap.size) := ⟨Nat.le_refl _⟩
 refine start_ (n := 12) (S := fun w' => w'.cell? ⟨gb1, 0, none⟩ = some (.int .i64 a2_0) ∧ w'.cell? ⟨gb1, 1, none⟩ = some (.slice A2_1 l2_1.length c2_1) ∧ w'.cell? ⟨gb2, 0, none⟩ = some (.int .i64 a3_0) ∧ w'.cell? ⟨gb2, 1, none⟩ = some (.int .i64 a3_1) ∧ w'.cell? ⟨gb2, 2, none⟩ = some (.int .i64 a3_2) ∧ w'.cell? ⟨gb2, 3, none⟩ = some (.int .i64 a3_3) ∧ w'.cell? ⟨gb2, 4, none⟩ = some (.int .i64 a3_4) ∧ w'.cell? ⟨gb2, 5, none⟩ = some (.int .i64 a3_5)) (ds := []) #[false, false, false, false, false, false, false, false, false, false, false, false] (by kernel_rfl) rfl rfl ⟨(blk_cell BK1.out 0).trans rfl, (blk_cell BK1.out 1).trans rfl, (blk_cell BK2.out 0).trans rfl, (blk_cell BK2.out 1).trans rfl, (blk_cell BK2.out 2).trans rfl, (blk_cell BK2.out 3).trans rfl, (blk_cell BK2.out 4).trans rfl, (blk_cell BK2.out 5).trans rfl⟩ (fun hHeld => ?_)
 generalize W7.drew = W14 at Z14 HB BK1 BK2 hHeld ⊢
 have c_BK1 := blk_cell BK1.out
 have z_BK1 := blk_frozen BK1.out
 have c_BK2 := blk_cell BK2.out
 have z_BK2 := blk_frozen BK2.out
 refine puA 0 (some 32) #[true, false, false, false, false, false, false, false, false, false, false, false] ?_
 refine puA 2 (some 34) #[true, false, true, false, false, false, false, false, false, false, false, false] ?_
 refine puA 8 (some 40) #[true, false, true, false, false, false, false, false, true, false, false, false] ?_
 refine taA 4 (some 36) #[true, false, true, false, true, false, false, false, true, false, false, false] hHeld ?_
 refine taA 6 (some 38) #[true, false, true, false, true, false, true, false, true, false, false, false] hHeld ?_
 refine join_ (σ := Nat × Nat × Option Addr × Nat × Nat × Nat × Nat × Option Addr × Nat × Nat × Nat × Nat × Option Addr × Nat × Nat × Nat × Nat × Nat × Nat × Nat) 1 m7_ (fun s_ => [(33, .slice s_.2.2.1 s_.2.2.2.1 s_.2.2.2.2.1), (35, .slice s_.2.2.2.2.2.2.2.1 s_.2.2.2.2.2.2.2.2.1 s_.2.2.2.2.2.2.2.2.2.1), (37, .agg #[.int .i64 t655, .slice s_.2.2.2.2.2.2.2.2.2.2.2.2.1 s_.2.2.2.2.2.2.2.2.2.2.2.2.2.1 s_.2.2.2.2.2.2.2.2.2.2.2.2.2.2.1]), (39, .agg #[.int .i64 t659, .int .i64 t660, .int .i64 t661, .int .i64 t662, .int .i64 t663, .int .i64 t664]), (41, .agg #[.int .i64 t665, .int .i64 t666, .int .i64 t667, .int .i64 t668, .int .i64 t669, .int .i64 t670, .int .i64 t671, .int .i64 t672]), (12, .pointer (some ⟨s_.2.2.2.2.2.2.2.2.2.2.2.2.2.2.2.2.2.2.2, 0, none⟩))]) (fun s_ w' => (Below w.heap.size w w') ∧ (w'.heap[gb1]? = some (.cells #[.int .i64 a2_0, .slice A2_1 l2_1.length c2_1] 26 (0, 0))) ∧ (w'.heap[gb2]? = some (.cells #[.int .i64 a3_0, .int .i64 a3_1, .int .i64 a3_2, .int .i64 a3_3, .int .i64 a3_4, .int .i64 a3_5] 28 (0, 0))) ∧ (Kd.R k154 154 w' w.heap.size (fun k_ => s_.1 ≤ k_ ∧ k_ < s_.2.1) (.slice s_.2.2.1 s_.2.2.2.1 s_.2.2.2.2.1) t649) ∧ (Kd.R k136 136 w' w.heap.size (fun k_ => s_.2.2.2.2.2.1 ≤ k_ ∧ k_ < s_.2.2.2.2.2.2.1) (.slice s_.2.2.2.2.2.2.2.1 s_.2.2.2.2.2.2.2.2.1 s_.2.2.2.2.2.2.2.2.2.1) t652) ∧ (Kd.R k174 174 w' w.heap.size (fun k_ => s_.2.2.2.2.2.2.2.2.2.2.1 ≤ k_ ∧ k_ < s_.2.2.2.2.2.2.2.2.2.2.2.1) (.slice s_.2.2.2.2.2.2.2.2.2.2.2.2.1 s_.2.2.2.2.2.2.2.2.2.2.2.2.2.1 s_.2.2.2.2.2.2.2.2.2.2.2.2.2.2.1) t656) ∧ (w'.heap[s_.2.2.2.2.2.2.2.2.2.2.2.2.2.2.2.2.2.2.2]? = some (.cells #[.int .i64 0, .int .i64 0, .int .i64 0, .int .i64 0, .int .i64 0, .int .i64 0, .int .i64 0, .int .i64 0] 48 (0, 0))) ∧ (W14.heap.size ≤ w'.heap.size ∧ W14.heap.size ≤ s_.1 ∧ s_.1 ≤ s_.2.1 ∧ s_.2.1 ≤ w'.heap.size ∧ W14.heap.size ≤ s_.2.2.2.2.2.1 ∧ s_.2.2.2.2.2.1 ≤ s_.2.2.2.2.2.2.1 ∧ s_.2.2.2.2.2.2.1 ≤ w'.heap.size ∧ W14.heap.size ≤ s_.2.2.2.2.2.2.2.2.2.2.1 ∧ s_.2.2.2.2.2.2.2.2.2.2.1 ≤ s_.2.2.2.2.2.2.2.2.2.2.2.1 ∧ s_.2.2.2.2.2.2.2.2.2.2.2.1 ≤ w'.heap.size ∧ W14.heap.size ≤ s_.2.2.2.2.2.2.2.2.2.2.2.2.2.2.2.1 ∧ s_.2.2.2.2.2.2.2.2.2.2.2.2.2.2.2.1 ≤ s_.2.2.2.2.2.2.2.2.2.2.2.2.2.2.2.2.1 ∧ s_.2.2.2.2.2.2.2.2.2.2.2.2.2.2.2.2.1 ≤ w'.heap.size ∧ W14.heap.size ≤ s_.2.2.2.2.2.2.2.2.2.2.2.2.2.2.2.2.2.1 ∧ s_.2.2.2.2.2.2.2.2.2.2.2.2.2.2.2.2.2.1 ≤ s_.2.2.2.2.2.2.2.2.2.2.2.2.2.2.2.2.2.2.1 ∧ s_.2.2.2.2.2.2.2.2.2.2.2.2.2.2.2.2.2.2.1 ≤ w'.heap.size ∧ s_.2.1 ≤ s_.2.2.2.2.2.1 ∧ s_.2.2.2.2.2.2.1 ≤ s_.2.2.2.2.2.2.2.2.2.2.1 ∧ s_.2.2.2.2.2.2.2.2.2.2.2.1 ≤ s_.2.2.2.2.2.2.2.2.2.2.2.2.2.2.2.1 ∧ s_.2.2.2.2.2.2.2.2.2.2.2.2.2.2.2.2.1 ≤ s_.2.2.2.2.2.2.2.2.2.2.2.2.2.2.2.2.2.1 ∧ W14.heap.size ≤ s_.2.2.2.2.2.2.2.2.2.2.2.2.2.2.2.2.2.2.2 ∧ s_.2.2.2.2.2.2.2.2.2.2.2.2.2.2.2.2.2.2.2 < w'.heap.size ∧ (s_.2.2.2.2.2.2.2.2.2.2.2.2.2.2.2.2.2.2.2 < s_.1 ∨ s_.2.1 ≤ s_.2.2.2.2.2.2.2.2.2.2.2.2.2.2.2.2.2.2.2) ∧ (s_.2.2.2.2.2.2.2.2.2.2.2.2.2.2.2.2.2.2.2 < s_.2.2.2.2.2.1 ∨ s_.2.2.2.2.2.2.1 ≤ s_.2.2.2.2.2.2.2.2.2.2.2.2.2.2.2.2.2.2.2) ∧ (s_.2.2.2.2.2.2.2.2.2.2.2.2.2.2.2.2.2.2.2 < s_.2.2.2.2.2.2.2.2.2.2.1 ∨ s_.2.2.2.2.2.2.2.2.2.2.2.1 ≤ s_.2.2.2.2.2.2.2.2.2.2.2.2.2.2.2.2.2.2.2) ∧ (s_.2.2.2.2.2.2.2.2.2.2.2.2.2.2.2.2.2.2.2 < s_.2.2.2.2.2.2.2.2.2.2.2.2.2.2.2.1 ∨ s_.2.2.2.2.2.2.2.2.2.2.2.2.2.2.2.2.1 ≤ s_.2.2.2.2.2.2.2.2.2.2.2.2.2.2.2.2.2.2.2) ∧ (s_.2.2.2.2.2.2.2.2.2.2.2.2.2.2.2.2.2.2.2 < s_.2.2.2.2.2.2.2.2.2.2.2.2.2.2.2.2.2.1 ∨ s_.2.2.2.2.2.2.2.2.2.2.2.2.2.2.2.2.2.2.1 ≤ s_.2.2.2.2.2.2.2.2.2.2.2.2.2.2.2.2.2.2.2))) ?_ ?_
 rotate_left
 ·intro hCont
  refine two_ (i := 1) (j := 10) (Ni := some 33) (Nj := some 12) #[true, true, true, false, true, false, true, false, true, false, false, false] #[true, false, true, false, true, false, true, false, true, false, true, false] rfl rfl rfl rfl (by kernel_rfl) (by decide) (by decide) (fun K hK => ?_) (fun K hK => ?_)
  ·skip
   have hcall := laws_toIncludesS.calls k _ _ l0 t649 W14 (Kd.C_below HR0.out HB.out) HC0.out HM9.out; refine goes_ Tryz.func18 (by kernel_rfl) rfl #[.slice A0 l0.length c0] (by rfl) rfl rfl zM ?_; refine hcall.mono ?_; rintro e W17 ⟨v650, rfl, ho0, hb⟩; refine ⟨_, rfl, ?_⟩; clear hcall; have Z17 := Aside0.mk hb.size; obtain ⟨A17_0, n17_0, c17_0, rfl, hn_, hr_⟩ := Go.Proofs.YtmgfklmhelabcaaGreatM.R_made ho0 HB.out.size; clear hn_ ho0; have HO17_0 := Aside0.mk hr_; clear hr_; replace BK1 := bK BK1 hb; replace c_BK1 := bcl BK1; replace z_BK1 := bfr BK1; replace BK2 := bK BK2 hb; replace c_BK2 := bcl BK2; replace z_BK2 := bfr BK2; replace HB := bH HB hb; clear hb; refine hK.out _ _ ⟨(blk_cell BK1.out 0).trans rfl, (blk_cell BK1.out 1).trans rfl, (blk_cell BK2.out 0).trans rfl, (blk_cell BK2.out 1).trans rfl, (blk_cell BK2.out 2).trans rfl, (blk_cell BK2.out 3).trans rfl, (blk_cell BK2.out 4).trans rfl, (blk_cell BK2.out 5).trans rfl⟩ (fun hHeld => nrA 33 ?_); clear hK K; refine two_ (i := 3) (j := 10) (Ni := some 35) (Nj := some 12) #[true, true, true, true, true, false, true, false, true, false, false, false] m1_ rfl rfl rfl rfl (by kernel_rfl) (by decide) (by decide) (fun K hK => ?_) (fun K hK => ?_)
   ·skip
    have hcall := laws_toFactS.calls k _ _ l1 t652 W17 (Kd.C_below HR1.out HB.out) HC1.out HM10.out; refine goes_ Tryz.func19 (by kernel_rfl) rfl #[.slice A1 l1.length c1] (by rfl) rfl rfl zM ?_; refine hcall.mono ?_; rintro e W18 ⟨v653, rfl, ho0, hb⟩; refine ⟨_, rfl, ?_⟩; clear hcall; have Z18 := Aside0.mk hb.size; replace HO17_0 := bR HO17_0 hb; obtain ⟨A18_0, n18_0, c18_0, rfl, hn_, hr_⟩ := Go.Proofs.YtmgfklmhelabcaaGreatM.R_made ho0 HB.out.size; clear hn_ ho0; have HO18_0 := Aside0.mk hr_; clear hr_; replace BK1 := bK BK1 hb; replace c_BK1 := bcl BK1; replace z_BK1 := bfr BK1; replace BK2 := bK BK2 hb; replace c_BK2 := bcl BK2; replace z_BK2 := bfr BK2; replace HB := bH HB hb; clear hb; refine hK.out _ _ ⟨(blk_cell BK1.out 0).trans rfl, (blk_cell BK1.out 1).trans rfl, (blk_cell BK2.out 0).trans rfl, (blk_cell BK2.out 1).trans rfl, (blk_cell BK2.out 2).trans rfl, (blk_cell BK2.out 3).trans rfl, (blk_cell BK2.out 4).trans rfl, (blk_cell BK2.out 5).trans rfl⟩ (fun hHeld => nrA 35 ?_); clear hK K; refine two_ (i := 5) (j := 10) (Ni := some 37) (Nj := some 12) #[true, true, true, true, true, true, true, false, true, false, false, false] m2_ rfl rfl rfl rfl (by kernel_rfl) (by decide) (by decide) (fun K hK => ?_) (fun K hK => ?_)
    ·skip
     have hcall := laws_toPolicy.calls k a2_0 _ _ l2_1 t655 t656 W18 (Kd.C_below HR2_1.out HB.out) HC2_1.out HM11.out; refine goes_ Tryz.func20 (by kernel_rfl) rfl #[.agg #[.int .i64 a2_0, .slice A2_1 l2_1.length c2_1]] (by rfl) rfl rfl zM ?_; refine hcall.mono ?_; rintro e W19 ⟨v657, rfl, ho0, hb⟩; refine ⟨_, rfl, ?_⟩; clear hcall; have Z19 := Aside0.mk hb.size; replace HO17_0 := bR HO17_0 hb; replace HO18_0 := bR HO18_0 hb; obtain ⟨A19_0, n19_0, c19_0, rfl, hn_, hr_⟩ := Go.Proofs.YtmgfklmhelabcaaGreatM.R_made ho0 HB.out.size; clear hn_ ho0; have HO19_0 := Aside0.mk hr_; clear hr_; replace BK1 := bK BK1 hb; replace c_BK1 := bcl BK1; replace z_BK1 := bfr BK1; replace BK2 := bK BK2 hb; replace c_BK2 := bcl BK2; replace z_BK2 := bfr BK2; replace HB := bH HB hb; clear hb; refine hK.out _ _ ⟨(blk_cell BK1.out 0).trans rfl, (blk_cell BK1.out 1).trans rfl, (blk_cell BK2.out 0).trans rfl, (blk_cell BK2.out 1).trans rfl, (blk_cell BK2.out 2).trans rfl, (blk_cell BK2.out 3).trans rfl, (blk_cell BK2.out 4).trans rfl, (blk_cell BK2.out 5).trans rfl⟩ (fun hHeld => nrA 37 ?_); clear hK K; refine two_ (i := 7) (j := 10) (Ni := some 39) (Nj := some 12) #[true, true, true, true, true, true, true, true, true, false, false, false] m4_ rfl rfl rfl rfl (by kernel_rfl) (by decide) (by decide) (fun K hK => ?_) (fun K hK => ?_)
     ·skip
      have hcall := laws_toRequest.calls a3_0 a3_1 a3_2 a3_3 a3_4 a3_5 t659 t660 t661 t662 t663 t664 W19  HM12.out; refine goes_ Tryz.func21 (by kernel_rfl) rfl #[.agg #[.int .i64 a3_0, .int .i64 a3_1, .int .i64 a3_2, .int .i64 a3_3, .int .i64 a3_4, .int .i64 a3_5]] (by rfl) rfl rfl zM ?_; refine hcall.mono ?_; rintro e W20 ⟨rfl, hb⟩; refine ⟨_, rfl, ?_⟩; clear hcall; have Z20 := Aside0.mk hb.size; replace HO17_0 := bR HO17_0 hb; replace HO18_0 := bR HO18_0 hb; replace HO19_0 := bR HO19_0 hb; replace BK1 := bK BK1 hb; replace c_BK1 := bcl BK1; replace z_BK1 := bfr BK1; replace BK2 := bK BK2 hb; replace c_BK2 := bcl BK2; replace z_BK2 := bfr BK2; replace HB := bH HB hb; clear hb; refine hK.out _ _ ⟨(blk_cell BK1.out 0).trans rfl, (blk_cell BK1.out 1).trans rfl, (blk_cell BK2.out 0).trans rfl, (blk_cell BK2.out 1).trans rfl, (blk_cell BK2.out 2).trans rfl, (blk_cell BK2.out 3).trans rfl, (blk_cell BK2.out 4).trans rfl, (blk_cell BK2.out 5).trans rfl⟩ (fun hHeld => nrA 39 ?_); clear hK K; refine two_ (i := 9) (j := 10) (Ni := some 41) (Nj := some 12) #[true, true, true, true, true, true, true, true, true, true, false, false] m6_ rfl rfl rfl rfl (by kernel_rfl) (by decide) (by decide) (fun K hK => ?_) (fun K hK => ?_)
      ·skip
       have hcall := spec_SaveDecision.calls k _ _ t649 _ _ t652 t655 _ _ t656 t659 t660 t661 t662 t663 t664 a4 t665 t666 t667 t668 t669 t670 t671 t672 W20 (Go.Proofs.YtmgfklmhelabcaaGreatM.R_C HO17_0.out) (Go.Proofs.YtmgfklmhelabcaaGreatM.R_len HO17_0.out) (Go.Proofs.YtmgfklmhelabcaaGreatM.R_C HO18_0.out) (Go.Proofs.YtmgfklmhelabcaaGreatM.R_len HO18_0.out) (Go.Proofs.YtmgfklmhelabcaaGreatM.R_C HO19_0.out) (Go.Proofs.YtmgfklmhelabcaaGreatM.R_len HO19_0.out) HM13.out; rw [Go.Proofs.YtmgfklmhelabcaaGreatM.R_n HO17_0.out, Go.Proofs.YtmgfklmhelabcaaGreatM.R_n HO18_0.out, Go.Proofs.YtmgfklmhelabcaaGreatM.R_n HO19_0.out] at hcall; refine goes_ Tryz.func26 (by kernel_rfl) rfl #[.slice A17_0 n17_0 c17_0, .slice A18_0 n18_0 c18_0, .agg #[.int .i64 t655, .slice A19_0 n19_0 c19_0], .agg #[.int .i64 t659, .int .i64 t660, .int .i64 t661, .int .i64 t662, .int .i64 t663, .int .i64 t664], .int .i64 a4] (by rfl) rfl rfl zM ?_; refine hcall.mono ?_; rintro e W21 ⟨rfl, hb⟩; refine ⟨_, rfl, ?_⟩; clear hcall; have Z21 := Aside0.mk hb.size; replace HO17_0 := bR HO17_0 hb; replace HO18_0 := bR HO18_0 hb; replace HO19_0 := bR HO19_0 hb; replace BK1 := bK BK1 hb; replace c_BK1 := bcl BK1; replace z_BK1 := bfr BK1; replace BK2 := bK BK2 hb; replace c_BK2 := bcl BK2; replace z_BK2 := bfr BK2; replace HB := bH HB hb; clear hb; refine hK.out _ _ ⟨(blk_cell BK1.out 0).trans rfl, (blk_cell BK1.out 1).trans rfl, (blk_cell BK2.out 0).trans rfl, (blk_cell BK2.out 1).trans rfl, (blk_cell BK2.out 2).trans rfl, (blk_cell BK2.out 3).trans rfl, (blk_cell BK2.out 4).trans rfl, (blk_cell BK2.out 5).trans rfl⟩ (fun hHeld => nrA 41 ?_); clear hK K; refine one_ (i := 10) (N := some 12) m7_ rfl rfl (by kernel_rfl) (by decide) (fun K hK => ?_); refine value_ (w1 := W21.alloc (.cells #[.int .i64 0, .int .i64 0, .int .i64 0, .int .i64 0, .int .i64 0, .int .i64 0, .int .i64 0, .int .i64 0] 48)) (v := .pointer (some ⟨W21.heap.size, 0, none⟩)) (by rfl) rfl ?_ ?_
       ·go_simp
        first | done | rfl
       obtain ⟨W22, hw_⟩ : ∃ W_, W_ = W21.alloc (.cells #[.int .i64 0, .int .i64 0, .int .i64 0, .int .i64 0, .int .i64 0, .int .i64 0, .int .i64 0, .int .i64 0] 48) := ⟨_, rfl⟩; rw [← hw_]; have hbox : W22.heap[W21.heap.size]? = some (.cells #[.int .i64 0, .int .i64 0, .int .i64 0, .int .i64 0, .int .i64 0, .int .i64 0, .int .i64 0, .int .i64 0] 48 (0, 0)) := (by rw [hw_]; exact blk_new _ _); have hb : Below W21.heap.size W21 W22 := (by rw [hw_]; exact below_alloc (Below.refl _ _) _); clear hw_; obtain ⟨gb22, hg_⟩ : ∃ g_, g_ = W21.heap.size := ⟨_, rfl⟩; rw [← hg_] at hbox ⊢; have Z22 := Aside0.mk hb.size; have E22 := Aside0.mk (And.intro hg_ (blk_lt hbox)); replace HO17_0 := bR HO17_0 hb; replace HO18_0 := bR HO18_0 hb; replace HO19_0 := bR HO19_0 hb; replace BK1 := bK BK1 hb; replace c_BK1 := bcl BK1; replace z_BK1 := bfr BK1; replace BK2 := bK BK2 hb; replace c_BK2 := bcl BK2; replace z_BK2 := bfr BK2; have BK22 := Aside0.mk hbox; have c_BK22 := blk_cell hbox; have z_BK22 := blk_frozen hbox; have hB_ := below_step HB.out hb; clear HB hb hbox hg_; have HB := Aside0.mk hB_; clear hB_; refine hK.out _ _ ⟨(blk_cell BK1.out 0).trans rfl, (blk_cell BK1.out 1).trans rfl, (blk_cell BK2.out 0).trans rfl, (blk_cell BK2.out 1).trans rfl, (blk_cell BK2.out 2).trans rfl, (blk_cell BK2.out 3).trans rfl, (blk_cell BK2.out 4).trans rfl, (blk_cell BK2.out 5).trans rfl⟩ (fun hHeld => nrA 12 ?_); clear hK K; exact norm_ (by simp only [putAll, Act.put, List.setIfInBounds_toArray, List.set_cons_zero, List.set_cons_succ]) (hCont (W14.heap.size, W17.heap.size, A17_0, n17_0, c17_0, W17.heap.size, W18.heap.size, A18_0, n18_0, c18_0, W18.heap.size, W19.heap.size, A19_0, n19_0, c19_0, W19.heap.size, W20.heap.size, W20.heap.size, W21.heap.size, gb22) _ ⟨HB.out, BK1.out, BK2.out, HO17_0.out, HO18_0.out, HO19_0.out, BK22.out, (by have := Z1.out; have := Z2.out; have := Z3.out; have := Z5.out; have := Z7.out; have := Z14.out; have := Z17.out; have := Z18.out; have := Z19.out; have := Z20.out; have := Z21.out; have := Z22.out; have := E22.out; (try dsimp only); omega)⟩)
      ·skip
       refine value_ (w1 := W20.alloc (.cells #[.int .i64 0, .int .i64 0, .int .i64 0, .int .i64 0, .int .i64 0, .int .i64 0, .int .i64 0, .int .i64 0] 48)) (v := .pointer (some ⟨W20.heap.size, 0, none⟩)) (by rfl) rfl ?_ ?_
       ·go_simp
        first | done | rfl
       obtain ⟨W23, hw_⟩ : ∃ W_, W_ = W20.alloc (.cells #[.int .i64 0, .int .i64 0, .int .i64 0, .int .i64 0, .int .i64 0, .int .i64 0, .int .i64 0, .int .i64 0] 48) := ⟨_, rfl⟩; rw [← hw_]; have hbox : W23.heap[W20.heap.size]? = some (.cells #[.int .i64 0, .int .i64 0, .int .i64 0, .int .i64 0, .int .i64 0, .int .i64 0, .int .i64 0, .int .i64 0] 48 (0, 0)) := (by rw [hw_]; exact blk_new _ _); have hb : Below W20.heap.size W20 W23 := (by rw [hw_]; exact below_alloc (Below.refl _ _) _); clear hw_; obtain ⟨gb23, hg_⟩ : ∃ g_, g_ = W20.heap.size := ⟨_, rfl⟩; rw [← hg_] at hbox ⊢; have Z23 := Aside0.mk hb.size; have E23 := Aside0.mk (And.intro hg_ (blk_lt hbox)); replace HO17_0 := bR HO17_0 hb; replace HO18_0 := bR HO18_0 hb; replace HO19_0 := bR HO19_0 hb; replace BK1 := bK BK1 hb; replace c_BK1 := bcl BK1; replace z_BK1 := bfr BK1; replace BK2 := bK BK2 hb; replace c_BK2 := bcl BK2; replace z_BK2 := bfr BK2; have BK23 := Aside0.mk hbox; have c_BK23 := blk_cell hbox; have z_BK23 := blk_frozen hbox; have hB_ := below_step HB.out hb; clear HB hb hbox hg_; have HB := Aside0.mk hB_; clear hB_; refine hK.out _ _ ⟨(blk_cell BK1.out 0).trans rfl, (blk_cell BK1.out 1).trans rfl, (blk_cell BK2.out 0).trans rfl, (blk_cell BK2.out 1).trans rfl, (blk_cell BK2.out 2).trans rfl, (blk_cell BK2.out 3).trans rfl, (blk_cell BK2.out 4).trans rfl, (blk_cell BK2.out 5).trans rfl⟩ (fun hHeld => nrA 12 ?_); clear hK K; refine one_ (i := 9) (N := some 41) m7_ rfl rfl (by kernel_rfl) (by decide) (fun K hK => ?_); have hcall := spec_SaveDecision.calls k _ _ t649 _ _ t652 t655 _ _ t656 t659 t660 t661 t662 t663 t664 a4 t665 t666 t667 t668 t669 t670 t671 t672 W23 (Go.Proofs.YtmgfklmhelabcaaGreatM.R_C HO17_0.out) (Go.Proofs.YtmgfklmhelabcaaGreatM.R_len HO17_0.out) (Go.Proofs.YtmgfklmhelabcaaGreatM.R_C HO18_0.out) (Go.Proofs.YtmgfklmhelabcaaGreatM.R_len HO18_0.out) (Go.Proofs.YtmgfklmhelabcaaGreatM.R_C HO19_0.out) (Go.Proofs.YtmgfklmhelabcaaGreatM.R_len HO19_0.out) HM13.out; rw [Go.Proofs.YtmgfklmhelabcaaGreatM.R_n HO17_0.out, Go.Proofs.YtmgfklmhelabcaaGreatM.R_n HO18_0.out, Go.Proofs.YtmgfklmhelabcaaGreatM.R_n HO19_0.out] at hcall; refine goes_ Tryz.func26 (by kernel_rfl) rfl #[.slice A17_0 n17_0 c17_0, .slice A18_0 n18_0 c18_0, .agg #[.int .i64 t655, .slice A19_0 n19_0 c19_0], .agg #[.int .i64 t659, .int .i64 t660, .int .i64 t661, .int .i64 t662, .int .i64 t663, .int .i64 t664], .int .i64 a4] (by rfl) rfl rfl zM ?_; refine hcall.mono ?_; rintro e W24 ⟨rfl, hb⟩; refine ⟨_, rfl, ?_⟩; clear hcall; have Z24 := Aside0.mk hb.size; replace HO17_0 := bR HO17_0 hb; replace HO18_0 := bR HO18_0 hb; replace HO19_0 := bR HO19_0 hb; replace BK1 := bK BK1 hb; replace c_BK1 := bcl BK1; replace z_BK1 := bfr BK1; replace BK2 := bK BK2 hb; replace c_BK2 := bcl BK2; replace z_BK2 := bfr BK2; replace BK23 := bK BK23 hb; replace c_BK23 := bcl BK23; replace z_BK23 := bfr BK23; replace HB := bH HB hb; clear hb; refine hK.out _ _ ⟨(blk_cell BK1.out 0).trans rfl, (blk_cell BK1.out 1).trans rfl, (blk_cell BK2.out 0).trans rfl, (blk_cell BK2.out 1).trans rfl, (blk_cell BK2.out 2).trans rfl, (blk_cell BK2.out 3).trans rfl, (blk_cell BK2.out 4).trans rfl, (blk_cell BK2.out 5).trans rfl⟩ (fun hHeld => nrA 41 ?_); clear hK K; exact norm_ (by simp only [putAll, Act.put, List.setIfInBounds_toArray, List.set_cons_zero, List.set_cons_succ]) (hCont (W14.heap.size, W17.heap.size, A17_0, n17_0, c17_0, W17.heap.size, W18.heap.size, A18_0, n18_0, c18_0, W18.heap.size, W19.heap.size, A19_0, n19_0, c19_0, W19.heap.size, W20.heap.size, W23.heap.size, W24.heap.size, gb23) _ ⟨HB.out, BK1.out, BK2.out, HO17_0.out, HO18_0.out, HO19_0.out, BK23.out, (by have := Z1.out; have := Z2.out; have := Z3.out; have := Z5.out; have := Z7.out; have := Z14.out; have := Z17.out; have := Z18.out; have := Z19.out; have := Z20.out; have := Z23.out; have := Z24.out; have := E23.out; (try dsimp only); omega)⟩)
     ·skip
      refine value_ (w1 := W19.alloc (.cells #[.int .i64 0, .int .i64 0, .int .i64 0, .int .i64 0, .int .i64 0, .int .i64 0, .int .i64 0, .int .i64 0] 48)) (v := .pointer (some ⟨W19.heap.size, 0, none⟩)) (by rfl) rfl ?_ ?_
      ·go_simp
       first | done | rfl
      obtain ⟨W25, hw_⟩ : ∃ W_, W_ = W19.alloc (.cells #[.int .i64 0, .int .i64 0, .int .i64 0, .int .i64 0, .int .i64 0, .int .i64 0, .int .i64 0, .int .i64 0] 48) := ⟨_, rfl⟩; rw [← hw_]; have hbox : W25.heap[W19.heap.size]? = some (.cells #[.int .i64 0, .int .i64 0, .int .i64 0, .int .i64 0, .int .i64 0, .int .i64 0, .int .i64 0, .int .i64 0] 48 (0, 0)) := (by rw [hw_]; exact blk_new _ _); have hb : Below W19.heap.size W19 W25 := (by rw [hw_]; exact below_alloc (Below.refl _ _) _); clear hw_; obtain ⟨gb25, hg_⟩ : ∃ g_, g_ = W19.heap.size := ⟨_, rfl⟩; rw [← hg_] at hbox ⊢; have Z25 := Aside0.mk hb.size; have E25 := Aside0.mk (And.intro hg_ (blk_lt hbox)); replace HO17_0 := bR HO17_0 hb; replace HO18_0 := bR HO18_0 hb; replace HO19_0 := bR HO19_0 hb; replace BK1 := bK BK1 hb; replace c_BK1 := bcl BK1; replace z_BK1 := bfr BK1; replace BK2 := bK BK2 hb; replace c_BK2 := bcl BK2; replace z_BK2 := bfr BK2; have BK25 := Aside0.mk hbox; have c_BK25 := blk_cell hbox; have z_BK25 := blk_frozen hbox; have hB_ := below_step HB.out hb; clear HB hb hbox hg_; have HB := Aside0.mk hB_; clear hB_; refine hK.out _ _ ⟨(blk_cell BK1.out 0).trans rfl, (blk_cell BK1.out 1).trans rfl, (blk_cell BK2.out 0).trans rfl, (blk_cell BK2.out 1).trans rfl, (blk_cell BK2.out 2).trans rfl, (blk_cell BK2.out 3).trans rfl, (blk_cell BK2.out 4).trans rfl, (blk_cell BK2.out 5).trans rfl⟩ (fun hHeld => nrA 12 ?_); clear hK K; refine one_ (i := 7) (N := some 39) m6_ rfl rfl (by kernel_rfl) (by decide) (fun K hK => ?_); have hcall := laws_toRequest.calls a3_0 a3_1 a3_2 a3_3 a3_4 a3_5 t659 t660 t661 t662 t663 t664 W25  HM12.out; refine goes_ Tryz.func21 (by kernel_rfl) rfl #[.agg #[.int .i64 a3_0, .int .i64 a3_1, .int .i64 a3_2, .int .i64 a3_3, .int .i64 a3_4, .int .i64 a3_5]] (by rfl) rfl rfl zM ?_; refine hcall.mono ?_; rintro e W26 ⟨rfl, hb⟩; refine ⟨_, rfl, ?_⟩; clear hcall; have Z26 := Aside0.mk hb.size; replace HO17_0 := bR HO17_0 hb; replace HO18_0 := bR HO18_0 hb; replace HO19_0 := bR HO19_0 hb; replace BK1 := bK BK1 hb; replace c_BK1 := bcl BK1; replace z_BK1 := bfr BK1; replace BK2 := bK BK2 hb; replace c_BK2 := bcl BK2; replace z_BK2 := bfr BK2; replace BK25 := bK BK25 hb; replace c_BK25 := bcl BK25; replace z_BK25 := bfr BK25; replace HB := bH HB hb; clear hb; refine hK.out _ _ ⟨(blk_cell BK1.out 0).trans rfl, (blk_cell BK1.out 1).trans rfl, (blk_cell BK2.out 0).trans rfl, (blk_cell BK2.out 1).trans rfl, (blk_cell BK2.out 2).trans rfl, (blk_cell BK2.out 3).trans rfl, (blk_cell BK2.out 4).trans rfl, (blk_cell BK2.out 5).trans rfl⟩ (fun hHeld => nrA 39 ?_); clear hK K; refine one_ (i := 9) (N := some 41) m7_ rfl rfl (by kernel_rfl) (by decide) (fun K hK => ?_); have hcall := spec_SaveDecision.calls k _ _ t649 _ _ t652 t655 _ _ t656 t659 t660 t661 t662 t663 t664 a4 t665 t666 t667 t668 t669 t670 t671 t672 W26 (Go.Proofs.YtmgfklmhelabcaaGreatM.R_C HO17_0.out) (Go.Proofs.YtmgfklmhelabcaaGreatM.R_len HO17_0.out) (Go.Proofs.YtmgfklmhelabcaaGreatM.R_C HO18_0.out) (Go.Proofs.YtmgfklmhelabcaaGreatM.R_len HO18_0.out) (Go.Proofs.YtmgfklmhelabcaaGreatM.R_C HO19_0.out) (Go.Proofs.YtmgfklmhelabcaaGreatM.R_len HO19_0.out) HM13.out; rw [Go.Proofs.YtmgfklmhelabcaaGreatM.R_n HO17_0.out, Go.Proofs.YtmgfklmhelabcaaGreatM.R_n HO18_0.out, Go.Proofs.YtmgfklmhelabcaaGreatM.R_n HO19_0.out] at hcall; refine goes_ Tryz.func26 (by kernel_rfl) rfl #[.slice A17_0 n17_0 c17_0, .slice A18_0 n18_0 c18_0, .agg #[.int .i64 t655, .slice A19_0 n19_0 c19_0], .agg #[.int .i64 t659, .int .i64 t660, .int .i64 t661, .int .i64 t662, .int .i64 t663, .int .i64 t664], .int .i64 a4] (by rfl) rfl rfl zM ?_; refine hcall.mono ?_; rintro e W27 ⟨rfl, hb⟩; refine ⟨_, rfl, ?_⟩; clear hcall; have Z27 := Aside0.mk hb.size; replace HO17_0 := bR HO17_0 hb; replace HO18_0 := bR HO18_0 hb; replace HO19_0 := bR HO19_0 hb; replace BK1 := bK BK1 hb; replace c_BK1 := bcl BK1; replace z_BK1 := bfr BK1; replace BK2 := bK BK2 hb; replace c_BK2 := bcl BK2; replace z_BK2 := bfr BK2; replace BK25 := bK BK25 hb; replace c_BK25 := bcl BK25; replace z_BK25 := bfr BK25
      replace HB := bH HB hb; clear hb; refine hK.out _ _ ⟨(blk_cell BK1.out 0).trans rfl, (blk_cell BK1.out 1).trans rfl, (blk_cell BK2.out 0).trans rfl, (blk_cell BK2.out 1).trans rfl, (blk_cell BK2.out 2).trans rfl, (blk_cell BK2.out 3).trans rfl, (blk_cell BK2.out 4).trans rfl, (blk_cell BK2.out 5).trans rfl⟩ (fun hHeld => nrA 41 ?_); clear hK K; exact norm_ (by simp only [putAll, Act.put, List.setIfInBounds_toArray, List.set_cons_zero, List.set_cons_succ]) (hCont (W14.heap.size, W17.heap.size, A17_0, n17_0, c17_0, W17.heap.size, W18.heap.size, A18_0, n18_0, c18_0, W18.heap.size, W19.heap.size, A19_0, n19_0, c19_0, W25.heap.size, W26.heap.size, W26.heap.size, W27.heap.size, gb25) _ ⟨HB.out, BK1.out, BK2.out, HO17_0.out, HO18_0.out, HO19_0.out, BK25.out, (by have := Z1.out; have := Z2.out; have := Z3.out; have := Z5.out; have := Z7.out; have := Z14.out; have := Z17.out; have := Z18.out; have := Z19.out; have := Z25.out; have := Z26.out; have := Z27.out; have := E25.out; (try dsimp only); omega)⟩)
    ·skip
     refine value_ (w1 := W18.alloc (.cells #[.int .i64 0, .int .i64 0, .int .i64 0, .int .i64 0, .int .i64 0, .int .i64 0, .int .i64 0, .int .i64 0] 48)) (v := .pointer (some ⟨W18.heap.size, 0, none⟩)) (by rfl) rfl ?_ ?_
     ·go_simp
      first | done | rfl
     obtain ⟨W28, hw_⟩ : ∃ W_, W_ = W18.alloc (.cells #[.int .i64 0, .int .i64 0, .int .i64 0, .int .i64 0, .int .i64 0, .int .i64 0, .int .i64 0, .int .i64 0] 48) := ⟨_, rfl⟩; rw [← hw_]; have hbox : W28.heap[W18.heap.size]? = some (.cells #[.int .i64 0, .int .i64 0, .int .i64 0, .int .i64 0, .int .i64 0, .int .i64 0, .int .i64 0, .int .i64 0] 48 (0, 0)) := (by rw [hw_]; exact blk_new _ _); have hb : Below W18.heap.size W18 W28 := (by rw [hw_]; exact below_alloc (Below.refl _ _) _); clear hw_; obtain ⟨gb28, hg_⟩ : ∃ g_, g_ = W18.heap.size := ⟨_, rfl⟩; rw [← hg_] at hbox ⊢; have Z28 := Aside0.mk hb.size; have E28 := Aside0.mk (And.intro hg_ (blk_lt hbox)); replace HO17_0 := bR HO17_0 hb; replace HO18_0 := bR HO18_0 hb; replace BK1 := bK BK1 hb; replace c_BK1 := bcl BK1; replace z_BK1 := bfr BK1; replace BK2 := bK BK2 hb; replace c_BK2 := bcl BK2; replace z_BK2 := bfr BK2; have BK28 := Aside0.mk hbox; have c_BK28 := blk_cell hbox; have z_BK28 := blk_frozen hbox; have hB_ := below_step HB.out hb; clear HB hb hbox hg_; have HB := Aside0.mk hB_; clear hB_; refine hK.out _ _ ⟨(blk_cell BK1.out 0).trans rfl, (blk_cell BK1.out 1).trans rfl, (blk_cell BK2.out 0).trans rfl, (blk_cell BK2.out 1).trans rfl, (blk_cell BK2.out 2).trans rfl, (blk_cell BK2.out 3).trans rfl, (blk_cell BK2.out 4).trans rfl, (blk_cell BK2.out 5).trans rfl⟩ (fun hHeld => nrA 12 ?_); clear hK K; refine one_ (i := 5) (N := some 37) m4_ rfl rfl (by kernel_rfl) (by decide) (fun K hK => ?_); have hcall := laws_toPolicy.calls k a2_0 _ _ l2_1 t655 t656 W28 (Kd.C_below HR2_1.out HB.out) HC2_1.out HM11.out; refine goes_ Tryz.func20 (by kernel_rfl) rfl #[.agg #[.int .i64 a2_0, .slice A2_1 l2_1.length c2_1]] (by rfl) rfl rfl zM ?_; refine hcall.mono ?_; rintro e W29 ⟨v657, rfl, ho0, hb⟩; refine ⟨_, rfl, ?_⟩; clear hcall; have Z29 := Aside0.mk hb.size; replace HO17_0 := bR HO17_0 hb; replace HO18_0 := bR HO18_0 hb; obtain ⟨A29_0, n29_0, c29_0, rfl, hn_, hr_⟩ := Go.Proofs.YtmgfklmhelabcaaGreatM.R_made ho0 HB.out.size; clear hn_ ho0; have HO29_0 := Aside0.mk hr_; clear hr_; replace BK1 := bK BK1 hb; replace c_BK1 := bcl BK1; replace z_BK1 := bfr BK1; replace BK2 := bK BK2 hb; replace c_BK2 := bcl BK2; replace z_BK2 := bfr BK2; replace BK28 := bK BK28 hb; replace c_BK28 := bcl BK28; replace z_BK28 := bfr BK28; replace HB := bH HB hb; clear hb; refine hK.out _ _ ⟨(blk_cell BK1.out 0).trans rfl, (blk_cell BK1.out 1).trans rfl, (blk_cell BK2.out 0).trans rfl, (blk_cell BK2.out 1).trans rfl, (blk_cell BK2.out 2).trans rfl, (blk_cell BK2.out 3).trans rfl, (blk_cell BK2.out 4).trans rfl, (blk_cell BK2.out 5).trans rfl⟩ (fun hHeld => nrA 37 ?_); clear hK K; refine one_ (i := 7) (N := some 39) m6_ rfl rfl (by kernel_rfl) (by decide) (fun K hK => ?_); have hcall := laws_toRequest.calls a3_0 a3_1 a3_2 a3_3 a3_4 a3_5 t659 t660 t661 t662 t663 t664 W29  HM12.out; refine goes_ Tryz.func21 (by kernel_rfl) rfl #[.agg #[.int .i64 a3_0, .int .i64 a3_1, .int .i64 a3_2, .int .i64 a3_3, .int .i64 a3_4, .int .i64 a3_5]] (by rfl) rfl rfl zM ?_; refine hcall.mono ?_; rintro e W30 ⟨rfl, hb⟩; refine ⟨_, rfl, ?_⟩; clear hcall; have Z30 := Aside0.mk hb.size; replace HO17_0 := bR HO17_0 hb; replace HO18_0 := bR HO18_0 hb; replace HO29_0 := bR HO29_0 hb; replace BK1 := bK BK1 hb; replace c_BK1 := bcl BK1; replace z_BK1 := bfr BK1; replace BK2 := bK BK2 hb; replace c_BK2 := bcl BK2; replace z_BK2 := bfr BK2; replace BK28 := bK BK28 hb; replace c_BK28 := bcl BK28; replace z_BK28 := bfr BK28; replace HB := bH HB hb; clear hb; refine hK.out _ _ ⟨(blk_cell BK1.out 0).trans rfl, (blk_cell BK1.out 1).trans rfl, (blk_cell BK2.out 0).trans rfl, (blk_cell BK2.out 1).trans rfl, (blk_cell BK2.out 2).trans rfl, (blk_cell BK2.out 3).trans rfl, (blk_cell BK2.out 4).trans rfl, (blk_cell BK2.out 5).trans rfl⟩ (fun hHeld => nrA 39 ?_); clear hK K; refine one_ (i := 9) (N := some 41) m7_ rfl rfl (by kernel_rfl) (by decide) (fun K hK => ?_); have hcall := spec_SaveDecision.calls k _ _ t649 _ _ t652 t655 _ _ t656 t659 t660 t661 t662 t663 t664 a4 t665 t666 t667 t668 t669 t670 t671 t672 W30 (Go.Proofs.YtmgfklmhelabcaaGreatM.R_C HO17_0.out) (Go.Proofs.YtmgfklmhelabcaaGreatM.R_len HO17_0.out) (Go.Proofs.YtmgfklmhelabcaaGreatM.R_C HO18_0.out) (Go.Proofs.YtmgfklmhelabcaaGreatM.R_len HO18_0.out) (Go.Proofs.YtmgfklmhelabcaaGreatM.R_C HO29_0.out) (Go.Proofs.YtmgfklmhelabcaaGreatM.R_len HO29_0.out) HM13.out
     rw [Go.Proofs.YtmgfklmhelabcaaGreatM.R_n HO17_0.out, Go.Proofs.YtmgfklmhelabcaaGreatM.R_n HO18_0.out, Go.Proofs.YtmgfklmhelabcaaGreatM.R_n HO29_0.out] at hcall; refine goes_ Tryz.func26 (by kernel_rfl) rfl #[.slice A17_0 n17_0 c17_0, .slice A18_0 n18_0 c18_0, .agg #[.int .i64 t655, .slice A29_0 n29_0 c29_0], .agg #[.int .i64 t659, .int .i64 t660, .int .i64 t661, .int .i64 t662, .int .i64 t663, .int .i64 t664], .int .i64 a4] (by rfl) rfl rfl zM ?_; refine hcall.mono ?_; rintro e W31 ⟨rfl, hb⟩; refine ⟨_, rfl, ?_⟩; clear hcall; have Z31 := Aside0.mk hb.size; replace HO17_0 := bR HO17_0 hb; replace HO18_0 := bR HO18_0 hb; replace HO29_0 := bR HO29_0 hb; replace BK1 := bK BK1 hb; replace c_BK1 := bcl BK1; replace z_BK1 := bfr BK1; replace BK2 := bK BK2 hb; replace c_BK2 := bcl BK2; replace z_BK2 := bfr BK2; replace BK28 := bK BK28 hb; replace c_BK28 := bcl BK28; replace z_BK28 := bfr BK28; replace HB := bH HB hb; clear hb; refine hK.out _ _ ⟨(blk_cell BK1.out 0).trans rfl, (blk_cell BK1.out 1).trans rfl, (blk_cell BK2.out 0).trans rfl, (blk_cell BK2.out 1).trans rfl, (blk_cell BK2.out 2).trans rfl, (blk_cell BK2.out 3).trans rfl, (blk_cell BK2.out 4).trans rfl, (blk_cell BK2.out 5).trans rfl⟩ (fun hHeld => nrA 41 ?_); clear hK K; exact norm_ (by simp only [putAll, Act.put, List.setIfInBounds_toArray, List.set_cons_zero, List.set_cons_succ]) (hCont (W14.heap.size, W17.heap.size, A17_0, n17_0, c17_0, W17.heap.size, W18.heap.size, A18_0, n18_0, c18_0, W28.heap.size, W29.heap.size, A29_0, n29_0, c29_0, W29.heap.size, W30.heap.size, W30.heap.size, W31.heap.size, gb28) _ ⟨HB.out, BK1.out, BK2.out, HO17_0.out, HO18_0.out, HO29_0.out, BK28.out, (by have := Z1.out; have := Z2.out; have := Z3.out; have := Z5.out; have := Z7.out; have := Z14.out; have := Z17.out; have := Z18.out; have := Z28.out; have := Z29.out; have := Z30.out; have := Z31.out; have := E28.out; (try dsimp only); omega)⟩)
   ·skip
    refine value_ (w1 := W17.alloc (.cells #[.int .i64 0, .int .i64 0, .int .i64 0, .int .i64 0, .int .i64 0, .int .i64 0, .int .i64 0, .int .i64 0] 48)) (v := .pointer (some ⟨W17.heap.size, 0, none⟩)) (by rfl) rfl ?_ ?_
    ·go_simp
     first | done | rfl
    obtain ⟨W32, hw_⟩ : ∃ W_, W_ = W17.alloc (.cells #[.int .i64 0, .int .i64 0, .int .i64 0, .int .i64 0, .int .i64 0, .int .i64 0, .int .i64 0, .int .i64 0] 48) := ⟨_, rfl⟩; rw [← hw_]; have hbox : W32.heap[W17.heap.size]? = some (.cells #[.int .i64 0, .int .i64 0, .int .i64 0, .int .i64 0, .int .i64 0, .int .i64 0, .int .i64 0, .int .i64 0] 48 (0, 0)) := (by rw [hw_]; exact blk_new _ _); have hb : Below W17.heap.size W17 W32 := (by rw [hw_]; exact below_alloc (Below.refl _ _) _); clear hw_; obtain ⟨gb32, hg_⟩ : ∃ g_, g_ = W17.heap.size := ⟨_, rfl⟩; rw [← hg_] at hbox ⊢; have Z32 := Aside0.mk hb.size; have E32 := Aside0.mk (And.intro hg_ (blk_lt hbox)); replace HO17_0 := bR HO17_0 hb; replace BK1 := bK BK1 hb; replace c_BK1 := bcl BK1; replace z_BK1 := bfr BK1; replace BK2 := bK BK2 hb; replace c_BK2 := bcl BK2; replace z_BK2 := bfr BK2; have BK32 := Aside0.mk hbox; have c_BK32 := blk_cell hbox; have z_BK32 := blk_frozen hbox; have hB_ := below_step HB.out hb; clear HB hb hbox hg_; have HB := Aside0.mk hB_; clear hB_; refine hK.out _ _ ⟨(blk_cell BK1.out 0).trans rfl, (blk_cell BK1.out 1).trans rfl, (blk_cell BK2.out 0).trans rfl, (blk_cell BK2.out 1).trans rfl, (blk_cell BK2.out 2).trans rfl, (blk_cell BK2.out 3).trans rfl, (blk_cell BK2.out 4).trans rfl, (blk_cell BK2.out 5).trans rfl⟩ (fun hHeld => nrA 12 ?_); clear hK K; refine one_ (i := 3) (N := some 35) m2_ rfl rfl (by kernel_rfl) (by decide) (fun K hK => ?_); have hcall := laws_toFactS.calls k _ _ l1 t652 W32 (Kd.C_below HR1.out HB.out) HC1.out HM10.out; refine goes_ Tryz.func19 (by kernel_rfl) rfl #[.slice A1 l1.length c1] (by rfl) rfl rfl zM ?_; refine hcall.mono ?_; rintro e W33 ⟨v653, rfl, ho0, hb⟩; refine ⟨_, rfl, ?_⟩; clear hcall; have Z33 := Aside0.mk hb.size; replace HO17_0 := bR HO17_0 hb; obtain ⟨A33_0, n33_0, c33_0, rfl, hn_, hr_⟩ := Go.Proofs.YtmgfklmhelabcaaGreatM.R_made ho0 HB.out.size; clear hn_ ho0; have HO33_0 := Aside0.mk hr_; clear hr_; replace BK1 := bK BK1 hb; replace c_BK1 := bcl BK1; replace z_BK1 := bfr BK1; replace BK2 := bK BK2 hb; replace c_BK2 := bcl BK2; replace z_BK2 := bfr BK2; replace BK32 := bK BK32 hb; replace c_BK32 := bcl BK32; replace z_BK32 := bfr BK32; replace HB := bH HB hb; clear hb; refine hK.out _ _ ⟨(blk_cell BK1.out 0).trans rfl, (blk_cell BK1.out 1).trans rfl, (blk_cell BK2.out 0).trans rfl, (blk_cell BK2.out 1).trans rfl, (blk_cell BK2.out 2).trans rfl, (blk_cell BK2.out 3).trans rfl, (blk_cell BK2.out 4).trans rfl, (blk_cell BK2.out 5).trans rfl⟩ (fun hHeld => nrA 35 ?_); clear hK K; refine one_ (i := 5) (N := some 37) m4_ rfl rfl (by kernel_rfl) (by decide) (fun K hK => ?_); have hcall := laws_toPolicy.calls k a2_0 _ _ l2_1 t655 t656 W33 (Kd.C_below HR2_1.out HB.out) HC2_1.out HM11.out; refine goes_ Tryz.func20 (by kernel_rfl) rfl #[.agg #[.int .i64 a2_0, .slice A2_1 l2_1.length c2_1]] (by rfl) rfl rfl zM ?_; refine hcall.mono ?_; rintro e W34 ⟨v657, rfl, ho0, hb⟩; refine ⟨_, rfl, ?_⟩; clear hcall; have Z34 := Aside0.mk hb.size; replace HO17_0 := bR HO17_0 hb; replace HO33_0 := bR HO33_0 hb; obtain ⟨A34_0, n34_0, c34_0, rfl, hn_, hr_⟩ := Go.Proofs.YtmgfklmhelabcaaGreatM.R_made ho0 HB.out.size; clear hn_ ho0; have HO34_0 := Aside0.mk hr_; clear hr_; replace BK1 := bK BK1 hb; replace c_BK1 := bcl BK1; replace z_BK1 := bfr BK1; replace BK2 := bK BK2 hb; replace c_BK2 := bcl BK2; replace z_BK2 := bfr BK2; replace BK32 := bK BK32 hb; replace c_BK32 := bcl BK32; replace z_BK32 := bfr BK32; replace HB := bH HB hb; clear hb; refine hK.out _ _ ⟨(blk_cell BK1.out 0).trans rfl, (blk_cell BK1.out 1).trans rfl, (blk_cell BK2.out 0).trans rfl, (blk_cell BK2.out 1).trans rfl, (blk_cell BK2.out 2).trans rfl, (blk_cell BK2.out 3).trans rfl, (blk_cell BK2.out 4).trans rfl, (blk_cell BK2.out 5).trans rfl⟩ (fun hHeld => nrA 37 ?_); clear hK K; refine one_ (i := 7) (N := some 39) m6_ rfl rfl (by kernel_rfl) (by decide) (fun K hK => ?_); have hcall := laws_toRequest.calls a3_0 a3_1 a3_2 a3_3 a3_4 a3_5 t659 t660 t661 t662 t663 t664 W34  HM12.out
    refine goes_ Tryz.func21 (by kernel_rfl) rfl #[.agg #[.int .i64 a3_0, .int .i64 a3_1, .int .i64 a3_2, .int .i64 a3_3, .int .i64 a3_4, .int .i64 a3_5]] (by rfl) rfl rfl zM ?_; refine hcall.mono ?_; rintro e W35 ⟨rfl, hb⟩; refine ⟨_, rfl, ?_⟩; clear hcall; have Z35 := Aside0.mk hb.size; replace HO17_0 := bR HO17_0 hb; replace HO33_0 := bR HO33_0 hb; replace HO34_0 := bR HO34_0 hb; replace BK1 := bK BK1 hb; replace c_BK1 := bcl BK1; replace z_BK1 := bfr BK1; replace BK2 := bK BK2 hb; replace c_BK2 := bcl BK2; replace z_BK2 := bfr BK2; replace BK32 := bK BK32 hb; replace c_BK32 := bcl BK32; replace z_BK32 := bfr BK32; replace HB := bH HB hb; clear hb; refine hK.out _ _ ⟨(blk_cell BK1.out 0).trans rfl, (blk_cell BK1.out 1).trans rfl, (blk_cell BK2.out 0).trans rfl, (blk_cell BK2.out 1).trans rfl, (blk_cell BK2.out 2).trans rfl, (blk_cell BK2.out 3).trans rfl, (blk_cell BK2.out 4).trans rfl, (blk_cell BK2.out 5).trans rfl⟩ (fun hHeld => nrA 39 ?_); clear hK K; refine one_ (i := 9) (N := some 41) m7_ rfl rfl (by kernel_rfl) (by decide) (fun K hK => ?_); have hcall := spec_SaveDecision.calls k _ _ t649 _ _ t652 t655 _ _ t656 t659 t660 t661 t662 t663 t664 a4 t665 t666 t667 t668 t669 t670 t671 t672 W35 (Go.Proofs.YtmgfklmhelabcaaGreatM.R_C HO17_0.out) (Go.Proofs.YtmgfklmhelabcaaGreatM.R_len HO17_0.out) (Go.Proofs.YtmgfklmhelabcaaGreatM.R_C HO33_0.out) (Go.Proofs.YtmgfklmhelabcaaGreatM.R_len HO33_0.out) (Go.Proofs.YtmgfklmhelabcaaGreatM.R_C HO34_0.out) (Go.Proofs.YtmgfklmhelabcaaGreatM.R_len HO34_0.out) HM13.out; rw [Go.Proofs.YtmgfklmhelabcaaGreatM.R_n HO17_0.out, Go.Proofs.YtmgfklmhelabcaaGreatM.R_n HO33_0.out, Go.Proofs.YtmgfklmhelabcaaGreatM.R_n HO34_0.out] at hcall; refine goes_ Tryz.func26 (by kernel_rfl) rfl #[.slice A17_0 n17_0 c17_0, .slice A33_0 n33_0 c33_0, .agg #[.int .i64 t655, .slice A34_0 n34_0 c34_0], .agg #[.int .i64 t659, .int .i64 t660, .int .i64 t661, .int .i64 t662, .int .i64 t663, .int .i64 t664], .int .i64 a4] (by rfl) rfl rfl zM ?_; refine hcall.mono ?_; rintro e W36 ⟨rfl, hb⟩; refine ⟨_, rfl, ?_⟩; clear hcall; have Z36 := Aside0.mk hb.size; replace HO17_0 := bR HO17_0 hb; replace HO33_0 := bR HO33_0 hb; replace HO34_0 := bR HO34_0 hb; replace BK1 := bK BK1 hb; replace c_BK1 := bcl BK1; replace z_BK1 := bfr BK1; replace BK2 := bK BK2 hb; replace c_BK2 := bcl BK2; replace z_BK2 := bfr BK2; replace BK32 := bK BK32 hb; replace c_BK32 := bcl BK32; replace z_BK32 := bfr BK32; replace HB := bH HB hb; clear hb; refine hK.out _ _ ⟨(blk_cell BK1.out 0).trans rfl, (blk_cell BK1.out 1).trans rfl, (blk_cell BK2.out 0).trans rfl, (blk_cell BK2.out 1).trans rfl, (blk_cell BK2.out 2).trans rfl, (blk_cell BK2.out 3).trans rfl, (blk_cell BK2.out 4).trans rfl, (blk_cell BK2.out 5).trans rfl⟩ (fun hHeld => nrA 41 ?_); clear hK K; exact norm_ (by simp only [putAll, Act.put, List.setIfInBounds_toArray, List.set_cons_zero, List.set_cons_succ]) (hCont (W14.heap.size, W17.heap.size, A17_0, n17_0, c17_0, W32.heap.size, W33.heap.size, A33_0, n33_0, c33_0, W33.heap.size, W34.heap.size, A34_0, n34_0, c34_0, W34.heap.size, W35.heap.size, W35.heap.size, W36.heap.size, gb32) _ ⟨HB.out, BK1.out, BK2.out, HO17_0.out, HO33_0.out, HO34_0.out, BK32.out, (by have := Z1.out; have := Z2.out; have := Z3.out; have := Z5.out; have := Z7.out; have := Z14.out; have := Z17.out; have := Z32.out; have := Z33.out; have := Z34.out; have := Z35.out; have := Z36.out; have := E32.out; (try dsimp only); omega)⟩)
  ·skip
   refine value_ (w1 := W14.alloc (.cells #[.int .i64 0, .int .i64 0, .int .i64 0, .int .i64 0, .int .i64 0, .int .i64 0, .int .i64 0, .int .i64 0] 48)) (v := .pointer (some ⟨W14.heap.size, 0, none⟩)) (by rfl) rfl ?_ ?_
   ·go_simp
    first | done | rfl
   obtain ⟨W37, hw_⟩ : ∃ W_, W_ = W14.alloc (.cells #[.int .i64 0, .int .i64 0, .int .i64 0, .int .i64 0, .int .i64 0, .int .i64 0, .int .i64 0, .int .i64 0] 48) := ⟨_, rfl⟩; rw [← hw_]; have hbox : W37.heap[W14.heap.size]? = some (.cells #[.int .i64 0, .int .i64 0, .int .i64 0, .int .i64 0, .int .i64 0, .int .i64 0, .int .i64 0, .int .i64 0] 48 (0, 0)) := (by rw [hw_]; exact blk_new _ _); have hb : Below W14.heap.size W14 W37 := (by rw [hw_]; exact below_alloc (Below.refl _ _) _); clear hw_; obtain ⟨gb37, hg_⟩ : ∃ g_, g_ = W14.heap.size := ⟨_, rfl⟩; rw [← hg_] at hbox ⊢; have Z37 := Aside0.mk hb.size; have E37 := Aside0.mk (And.intro hg_ (blk_lt hbox)); replace BK1 := bK BK1 hb; replace c_BK1 := bcl BK1; replace z_BK1 := bfr BK1; replace BK2 := bK BK2 hb; replace c_BK2 := bcl BK2; replace z_BK2 := bfr BK2; have BK37 := Aside0.mk hbox; have c_BK37 := blk_cell hbox; have z_BK37 := blk_frozen hbox; have hB_ := below_step HB.out hb; clear HB hb hbox hg_; have HB := Aside0.mk hB_; clear hB_; refine hK.out _ _ ⟨(blk_cell BK1.out 0).trans rfl, (blk_cell BK1.out 1).trans rfl, (blk_cell BK2.out 0).trans rfl, (blk_cell BK2.out 1).trans rfl, (blk_cell BK2.out 2).trans rfl, (blk_cell BK2.out 3).trans rfl, (blk_cell BK2.out 4).trans rfl, (blk_cell BK2.out 5).trans rfl⟩ (fun hHeld => nrA 12 ?_); clear hK K; refine one_ (i := 1) (N := some 33) m1_ rfl rfl (by kernel_rfl) (by decide) (fun K hK => ?_); have hcall := laws_toIncludesS.calls k _ _ l0 t649 W37 (Kd.C_below HR0.out HB.out) HC0.out HM9.out; refine goes_ Tryz.func18 (by kernel_rfl) rfl #[.slice A0 l0.length c0] (by rfl) rfl rfl zM ?_; refine hcall.mono ?_; rintro e W38 ⟨v650, rfl, ho0, hb⟩; refine ⟨_, rfl, ?_⟩; clear hcall; have Z38 := Aside0.mk hb.size; obtain ⟨A38_0, n38_0, c38_0, rfl, hn_, hr_⟩ := Go.Proofs.YtmgfklmhelabcaaGreatM.R_made ho0 HB.out.size; clear hn_ ho0; have HO38_0 := Aside0.mk hr_; clear hr_; replace BK1 := bK BK1 hb; replace c_BK1 := bcl BK1; replace z_BK1 := bfr BK1; replace BK2 := bK BK2 hb; replace c_BK2 := bcl BK2; replace z_BK2 := bfr BK2; replace BK37 := bK BK37 hb; replace c_BK37 := bcl BK37; replace z_BK37 := bfr BK37; replace HB := bH HB hb; clear hb; refine hK.out _ _ ⟨(blk_cell BK1.out 0).trans rfl, (blk_cell BK1.out 1).trans rfl, (blk_cell BK2.out 0).trans rfl, (blk_cell BK2.out 1).trans rfl, (blk_cell BK2.out 2).trans rfl, (blk_cell BK2.out 3).trans rfl, (blk_cell BK2.out 4).trans rfl, (blk_cell BK2.out 5).trans rfl⟩ (fun hHeld => nrA 33 ?_); clear hK K; refine one_ (i := 3) (N := some 35) m2_ rfl rfl (by kernel_rfl) (by decide) (fun K hK => ?_); have hcall := laws_toFactS.calls k _ _ l1 t652 W38 (Kd.C_below HR1.out HB.out) HC1.out HM10.out; refine goes_ Tryz.func19 (by kernel_rfl) rfl #[.slice A1 l1.length c1] (by rfl) rfl rfl zM ?_; refine hcall.mono ?_; rintro e W39 ⟨v653, rfl, ho0, hb⟩; refine ⟨_, rfl, ?_⟩; clear hcall; have Z39 := Aside0.mk hb.size; replace HO38_0 := bR HO38_0 hb; obtain ⟨A39_0, n39_0, c39_0, rfl, hn_, hr_⟩ := Go.Proofs.YtmgfklmhelabcaaGreatM.R_made ho0 HB.out.size; clear hn_ ho0; have HO39_0 := Aside0.mk hr_; clear hr_; replace BK1 := bK BK1 hb; replace c_BK1 := bcl BK1; replace z_BK1 := bfr BK1; replace BK2 := bK BK2 hb; replace c_BK2 := bcl BK2; replace z_BK2 := bfr BK2; replace BK37 := bK BK37 hb; replace c_BK37 := bcl BK37; replace z_BK37 := bfr BK37; replace HB := bH HB hb; clear hb; refine hK.out _ _ ⟨(blk_cell BK1.out 0).trans rfl, (blk_cell BK1.out 1).trans rfl, (blk_cell BK2.out 0).trans rfl, (blk_cell BK2.out 1).trans rfl, (blk_cell BK2.out 2).trans rfl, (blk_cell BK2.out 3).trans rfl, (blk_cell BK2.out 4).trans rfl, (blk_cell BK2.out 5).trans rfl⟩ (fun hHeld => nrA 35 ?_); clear hK K; refine one_ (i := 5) (N := some 37) m4_ rfl rfl (by kernel_rfl) (by decide) (fun K hK => ?_); have hcall := laws_toPolicy.calls k a2_0 _ _ l2_1 t655 t656 W39 (Kd.C_below HR2_1.out HB.out) HC2_1.out HM11.out; refine goes_ Tryz.func20 (by kernel_rfl) rfl #[.agg #[.int .i64 a2_0, .slice A2_1 l2_1.length c2_1]] (by rfl) rfl rfl zM ?_; refine hcall.mono ?_
   rintro e W40 ⟨v657, rfl, ho0, hb⟩; refine ⟨_, rfl, ?_⟩; clear hcall; have Z40 := Aside0.mk hb.size; replace HO38_0 := bR HO38_0 hb; replace HO39_0 := bR HO39_0 hb; obtain ⟨A40_0, n40_0, c40_0, rfl, hn_, hr_⟩ := Go.Proofs.YtmgfklmhelabcaaGreatM.R_made ho0 HB.out.size; clear hn_ ho0; have HO40_0 := Aside0.mk hr_; clear hr_; replace BK1 := bK BK1 hb; replace c_BK1 := bcl BK1; replace z_BK1 := bfr BK1; replace BK2 := bK BK2 hb; replace c_BK2 := bcl BK2; replace z_BK2 := bfr BK2; replace BK37 := bK BK37 hb; replace c_BK37 := bcl BK37; replace z_BK37 := bfr BK37; replace HB := bH HB hb; clear hb; refine hK.out _ _ ⟨(blk_cell BK1.out 0).trans rfl, (blk_cell BK1.out 1).trans rfl, (blk_cell BK2.out 0).trans rfl, (blk_cell BK2.out 1).trans rfl, (blk_cell BK2.out 2).trans rfl, (blk_cell BK2.out 3).trans rfl, (blk_cell BK2.out 4).trans rfl, (blk_cell BK2.out 5).trans rfl⟩ (fun hHeld => nrA 37 ?_); clear hK K; refine one_ (i := 7) (N := some 39) m6_ rfl rfl (by kernel_rfl) (by decide) (fun K hK => ?_); have hcall := laws_toRequest.calls a3_0 a3_1 a3_2 a3_3 a3_4 a3_5 t659 t660 t661 t662 t663 t664 W40  HM12.out; refine goes_ Tryz.func21 (by kernel_rfl) rfl #[.agg #[.int .i64 a3_0, .int .i64 a3_1, .int .i64 a3_2, .int .i64 a3_3, .int .i64 a3_4, .int .i64 a3_5]] (by rfl) rfl rfl zM ?_; refine hcall.mono ?_; rintro e W41 ⟨rfl, hb⟩; refine ⟨_, rfl, ?_⟩; clear hcall; have Z41 := Aside0.mk hb.size; replace HO38_0 := bR HO38_0 hb; replace HO39_0 := bR HO39_0 hb; replace HO40_0 := bR HO40_0 hb; replace BK1 := bK BK1 hb; replace c_BK1 := bcl BK1; replace z_BK1 := bfr BK1; replace BK2 := bK BK2 hb; replace c_BK2 := bcl BK2; replace z_BK2 := bfr BK2; replace BK37 := bK BK37 hb; replace c_BK37 := bcl BK37; replace z_BK37 := bfr BK37; replace HB := bH HB hb; clear hb; refine hK.out _ _ ⟨(blk_cell BK1.out 0).trans rfl, (blk_cell BK1.out 1).trans rfl, (blk_cell BK2.out 0).trans rfl, (blk_cell BK2.out 1).trans rfl, (blk_cell BK2.out 2).trans rfl, (blk_cell BK2.out 3).trans rfl, (blk_cell BK2.out 4).trans rfl, (blk_cell BK2.out 5).trans rfl⟩ (fun hHeld => nrA 39 ?_); clear hK K; refine one_ (i := 9) (N := some 41) m7_ rfl rfl (by kernel_rfl) (by decide) (fun K hK => ?_); have hcall := spec_SaveDecision.calls k _ _ t649 _ _ t652 t655 _ _ t656 t659 t660 t661 t662 t663 t664 a4 t665 t666 t667 t668 t669 t670 t671 t672 W41 (Go.Proofs.YtmgfklmhelabcaaGreatM.R_C HO38_0.out) (Go.Proofs.YtmgfklmhelabcaaGreatM.R_len HO38_0.out) (Go.Proofs.YtmgfklmhelabcaaGreatM.R_C HO39_0.out) (Go.Proofs.YtmgfklmhelabcaaGreatM.R_len HO39_0.out) (Go.Proofs.YtmgfklmhelabcaaGreatM.R_C HO40_0.out) (Go.Proofs.YtmgfklmhelabcaaGreatM.R_len HO40_0.out) HM13.out; rw [Go.Proofs.YtmgfklmhelabcaaGreatM.R_n HO38_0.out, Go.Proofs.YtmgfklmhelabcaaGreatM.R_n HO39_0.out, Go.Proofs.YtmgfklmhelabcaaGreatM.R_n HO40_0.out] at hcall; refine goes_ Tryz.func26 (by kernel_rfl) rfl #[.slice A38_0 n38_0 c38_0, .slice A39_0 n39_0 c39_0, .agg #[.int .i64 t655, .slice A40_0 n40_0 c40_0], .agg #[.int .i64 t659, .int .i64 t660, .int .i64 t661, .int .i64 t662, .int .i64 t663, .int .i64 t664], .int .i64 a4] (by rfl) rfl rfl zM ?_; refine hcall.mono ?_; rintro e W42 ⟨rfl, hb⟩; refine ⟨_, rfl, ?_⟩; clear hcall; have Z42 := Aside0.mk hb.size; replace HO38_0 := bR HO38_0 hb; replace HO39_0 := bR HO39_0 hb; replace HO40_0 := bR HO40_0 hb; replace BK1 := bK BK1 hb; replace c_BK1 := bcl BK1; replace z_BK1 := bfr BK1; replace BK2 := bK BK2 hb; replace c_BK2 := bcl BK2; replace z_BK2 := bfr BK2; replace BK37 := bK BK37 hb; replace c_BK37 := bcl BK37; replace z_BK37 := bfr BK37; replace HB := bH HB hb; clear hb; refine hK.out _ _ ⟨(blk_cell BK1.out 0).trans rfl, (blk_cell BK1.out 1).trans rfl, (blk_cell BK2.out 0).trans rfl, (blk_cell BK2.out 1).trans rfl, (blk_cell BK2.out 2).trans rfl, (blk_cell BK2.out 3).trans rfl, (blk_cell BK2.out 4).trans rfl, (blk_cell BK2.out 5).trans rfl⟩ (fun hHeld => nrA 41 ?_); clear hK K; exact norm_ (by simp only [putAll, Act.put, List.setIfInBounds_toArray, List.set_cons_zero, List.set_cons_succ]) (hCont (W37.heap.size, W38.heap.size, A38_0, n38_0, c38_0, W38.heap.size, W39.heap.size, A39_0, n39_0, c39_0, W39.heap.size, W40.heap.size, A40_0, n40_0, c40_0, W40.heap.size, W41.heap.size, W41.heap.size, W42.heap.size, gb37) _ ⟨HB.out, BK1.out, BK2.out, HO38_0.out, HO39_0.out, HO40_0.out, BK37.out, (by have := Z1.out; have := Z2.out; have := Z3.out; have := Z5.out; have := Z7.out; have := Z14.out; have := Z37.out; have := Z38.out; have := Z39.out; have := Z40.out; have := Z41.out; have := Z42.out; have := E37.out; (try dsimp only); omega)⟩)
 rintro ⟨f15_lo_1, f15_hi_1, f15_651_A, f15_651_n, f15_651_c, f15_lo_3, f15_hi_3, f15_654_A, f15_654_n, f15_654_c, f15_lo_5, f15_hi_5, f15_658_A, f15_658_n, f15_658_c, f15_lo_7, f15_hi_7, f15_lo_9, f15_hi_9, f15_g_10⟩ W15 ⟨hB_, hb0_, hb1_, hr0_, hr1_, hr2_, hx10_, hz0_⟩
 clear HB
 have HB := Aside0.mk hB_
 clear BK1
 (try clear c_BK1)
 (try clear z_BK1)
 have BK1 := Aside0.mk hb0_
 have c_BK1 := blk_cell hb0_
 have z_BK1 := blk_frozen hb0_
 clear BK2
 (try clear c_BK2)
 (try clear z_BK2)
 have BK2 := Aside0.mk hb1_
 have c_BK2 := blk_cell hb1_
 have z_BK2 := blk_frozen hb1_
 (try dsimp only at hr0_)
 have HO15_0 := Aside0.mk hr0_
 (try dsimp only at hr1_)
 have HO15_1 := Aside0.mk hr1_
 (try dsimp only at hr2_)
 have HO15_2 := Aside0.mk hr2_
 have BK15_10 := Aside0.mk hx10_
 have c_BK15_10 := blk_cell hx10_
 have z_BK15_10 := blk_frozen hx10_
 have Z15 : Aside0 ((W14.heap.size ≤ W15.heap.size ∧ W14.heap.size ≤ f15_lo_1 ∧ f15_lo_1 ≤ f15_hi_1 ∧ f15_hi_1 ≤ W15.heap.size ∧ W14.heap.size ≤ f15_lo_3 ∧ f15_lo_3 ≤ f15_hi_3 ∧ f15_hi_3 ≤ W15.heap.size ∧ W14.heap.size ≤ f15_lo_5 ∧ f15_lo_5 ≤ f15_hi_5 ∧ f15_hi_5 ≤ W15.heap.size ∧ W14.heap.size ≤ f15_lo_7 ∧ f15_lo_7 ≤ f15_hi_7 ∧ f15_hi_7 ≤ W15.heap.size ∧ W14.heap.size ≤ f15_lo_9 ∧ f15_lo_9 ≤ f15_hi_9 ∧ f15_hi_9 ≤ W15.heap.size ∧ f15_hi_1 ≤ f15_lo_3 ∧ f15_hi_3 ≤ f15_lo_5 ∧ f15_hi_5 ≤ f15_lo_7 ∧ f15_hi_7 ≤ f15_lo_9 ∧ W14.heap.size ≤ f15_g_10 ∧ f15_g_10 < W15.heap.size ∧ (f15_g_10 < f15_lo_1 ∨ f15_hi_1 ≤ f15_g_10) ∧ (f15_g_10 < f15_lo_3 ∨ f15_hi_3 ≤ f15_g_10) ∧ (f15_g_10 < f15_lo_5 ∨ f15_hi_5 ≤ f15_g_10) ∧ (f15_g_10 < f15_lo_7 ∨ f15_hi_7 ≤ f15_g_10) ∧ (f15_g_10 < f15_lo_9 ∨ f15_hi_9 ≤ f15_g_10))) := ⟨hz0_⟩
 have E15_10 : Aside0 ((W14.heap.size ≤ f15_g_10) ∧ f15_g_10 < W15.heap.size ∧ (f15_g_10 < f15_lo_1 ∨ f15_hi_1 ≤ f15_g_10) ∧ (f15_g_10 < f15_lo_3 ∨ f15_hi_3 ≤ f15_g_10) ∧ (f15_g_10 < f15_lo_5 ∨ f15_hi_5 ≤ f15_g_10) ∧ (f15_g_10 < f15_lo_7 ∨ f15_hi_7 ≤ f15_g_10) ∧ (f15_g_10 < f15_lo_9 ∨ f15_hi_9 ≤ f15_g_10)) := ⟨by have h_ := Z15.out; omega⟩
 clear hB_ hb0_ hb1_ hr0_ hr1_ hr2_ hx10_ hz0_
 have hHeld : W15.cell? ⟨gb1, 0, none⟩ = some (.int .i64 a2_0) ∧ W15.cell? ⟨gb1, 1, none⟩ = some (.slice A2_1 l2_1.length c2_1) ∧ W15.cell? ⟨gb2, 0, none⟩ = some (.int .i64 a3_0) ∧ W15.cell? ⟨gb2, 1, none⟩ = some (.int .i64 a3_1) ∧ W15.cell? ⟨gb2, 2, none⟩ = some (.int .i64 a3_2) ∧ W15.cell? ⟨gb2, 3, none⟩ = some (.int .i64 a3_3) ∧ W15.cell? ⟨gb2, 4, none⟩ = some (.int .i64 a3_4) ∧ W15.cell? ⟨gb2, 5, none⟩ = some (.int .i64 a3_5) := ⟨(blk_cell BK1.out 0).trans rfl, (blk_cell BK1.out 1).trans rfl, (blk_cell BK2.out 0).trans rfl, (blk_cell BK2.out 1).trans rfl, (blk_cell BK2.out 2).trans rfl, (blk_cell BK2.out 3).trans rfl, (blk_cell BK2.out 4).trans rfl, (blk_cell BK2.out 5).trans rfl⟩
 refine norm_ (a' := ?_) ?_ ?_
 rotate_left
 ·simp only [putAll, Act.put, List.setIfInBounds_toArray, List.set_cons_zero, List.set_cons_succ]
  rfl
 refine one_ (i := 11) (N := none) #[true, true, true, true, true, true, true, true, true, true, true, true] rfl rfl (by kernel_rfl) (by decide) (fun K hK => ?_)
 refine skip_ (w1 := ((((((((W15.setCell ⟨f15_g_10, 0, none⟩ (.int .i64 t665)).setCell ⟨f15_g_10, 1, none⟩ (.int .i64 t666)).setCell ⟨f15_g_10, 2, none⟩ (.int .i64 t667)).setCell ⟨f15_g_10, 3, none⟩ (.int .i64 t668)).setCell ⟨f15_g_10, 4, none⟩ (.int .i64 t669)).setCell ⟨f15_g_10, 5, none⟩ (.int .i64 t670)).setCell ⟨f15_g_10, 6, none⟩ (.int .i64 t671)).setCell ⟨f15_g_10, 7, none⟩ (.int .i64 t672))) (by rfl) rfl ?_ ?_
 ·go_simp
  first | done | rfl
 obtain ⟨W16, hw⟩ : ∃ W_, W_ = ((((((((W15.setCell ⟨f15_g_10, 0, none⟩ (.int .i64 t665)).setCell ⟨f15_g_10, 1, none⟩ (.int .i64 t666)).setCell ⟨f15_g_10, 2, none⟩ (.int .i64 t667)).setCell ⟨f15_g_10, 3, none⟩ (.int .i64 t668)).setCell ⟨f15_g_10, 4, none⟩ (.int .i64 t669)).setCell ⟨f15_g_10, 5, none⟩ (.int .i64 t670)).setCell ⟨f15_g_10, 6, none⟩ (.int .i64 t671)).setCell ⟨f15_g_10, 7, none⟩ (.int .i64 t672)) := ⟨_, rfl⟩
 rw [← hw]
 have hk_ : Kept W15 W16 (fun k_ => k_ = f15_g_10) := (by rw [hw]; exact Kept.setCell (Kept.setCell (Kept.setCell (Kept.setCell (Kept.setCell (Kept.setCell (Kept.setCell (Kept.setCell (Kept.refl W15 (fun k_ => k_ = f15_g_10)) (.inl rfl) _) (.inl rfl) _) (.inl rfl) _) (.inl rfl) _) (.inl rfl) _) (.inl rfl) _) (.inl rfl) _) (.inl rfl) _)
 have hge_ : w.heap.size ≤ f15_g_10 := (by have := E15_10.out.1; have := HB.out.size; have := Z1.out; have := Z2.out; have := Z3.out; have := Z5.out; have := Z7.out; have := Z14.out; have := Z15.out; omega)
 have Z16 := Aside0.mk hk_.1
 have h_ := Kd.R_step HO15_0.out (fun k_ h1_ h2_ => hk_.2 k_ h2_ (fun h3_ => by obtain ⟨_, _⟩ := h1_; have := E15_10.out; have := Z1.out; have := Z2.out; have := Z3.out; have := Z5.out; have := Z7.out; have := Z14.out; have := Z15.out; omega))
 clear HO15_0
 have HO15_0 := Aside0.mk h_
 clear h_
 have h_ := Kd.R_step HO15_1.out (fun k_ h1_ h2_ => hk_.2 k_ h2_ (fun h3_ => by obtain ⟨_, _⟩ := h1_; have := E15_10.out; have := Z1.out; have := Z2.out; have := Z3.out; have := Z5.out; have := Z7.out; have := Z14.out; have := Z15.out; omega))
 clear HO15_1
 have HO15_1 := Aside0.mk h_
 clear h_
 have h_ := Kd.R_step HO15_2.out (fun k_ h1_ h2_ => hk_.2 k_ h2_ (fun h3_ => by obtain ⟨_, _⟩ := h1_; have := E15_10.out; have := Z1.out; have := Z2.out; have := Z3.out; have := Z5.out; have := Z7.out; have := Z14.out; have := Z15.out; omega))
 clear HO15_2
 have HO15_2 := Aside0.mk h_
 clear h_
 have h_ := blk_kept BK1.out hk_ (fun hp_ => by have := E1.out; have := E15_10.out; have := Z1.out; have := Z2.out; have := Z3.out; have := Z5.out; have := Z7.out; have := Z14.out; have := Z15.out; omega)
 (try clear c_BK1 z_BK1)
 clear BK1
 have BK1 := Aside0.mk h_
 have c_BK1 := blk_cell h_
 have z_BK1 := blk_frozen h_
 clear h_
 have h_ := blk_kept BK2.out hk_ (fun hp_ => by have := E2.out; have := E15_10.out; have := Z1.out; have := Z2.out; have := Z3.out; have := Z5.out; have := Z7.out; have := Z14.out; have := Z15.out; omega)
 (try clear c_BK2 z_BK2)
 clear BK2
 have BK2 := Aside0.mk h_
 have c_BK2 := blk_cell h_
 have z_BK2 := blk_frozen h_
 clear h_
 have h_ := blk_set (blk_set (blk_set (blk_set (blk_set (blk_set (blk_set (blk_set (BK15_10.out) 0 (.int .i64 t665)) 1 (.int .i64 t666)) 2 (.int .i64 t667)) 3 (.int .i64 t668)) 4 (.int .i64 t669)) 5 (.int .i64 t670)) 6 (.int .i64 t671)) 7 (.int .i64 t672)
 rw [← hw] at h_
 simp only [List.setIfInBounds_toArray, List.set_cons_zero, List.set_cons_succ] at h_
 (try clear c_BK15_10 z_BK15_10)
 clear BK15_10
 have BK15_10 := Aside0.mk h_
 have c_BK15_10 := blk_cell h_
 have z_BK15_10 := blk_frozen h_
 clear h_
 have hB_ : Below w.heap.size w W16 := (by rw [hw]; exact below_set (below_set (below_set (below_set (below_set (below_set (below_set (below_set (HB.out) hge_) hge_) hge_) hge_) hge_) hge_) hge_) hge_)
 clear HB hw hk_ hge_
 have HB := Aside0.mk hB_
 clear hB_
 refine hK.out _ _ ⟨(blk_cell BK1.out 0).trans rfl, (blk_cell BK1.out 1).trans rfl, (blk_cell BK2.out 0).trans rfl, (blk_cell BK2.out 1).trans rfl, (blk_cell BK2.out 2).trans rfl, (blk_cell BK2.out 3).trans rfl, (blk_cell BK2.out 4).trans rfl, (blk_cell BK2.out 5).trans rfl⟩ (fun hHeld => ?_)
 clear hK K
 refine done_ (by kernel_rfl) ?_
 clear hHeld
 have H := H'.out
 clear H'
 replace H := obs H
 obtain ⟨t674, hm, H⟩ := H
 (try dsimp only at H)
 have H' := Aside0.mk H
 clear H
 have hcall := laws_toIncludesS.calls k _ _ l0 t674 W16 (Kd.C_below HR0.out HB.out) HC0.out hm
 clear hm
 (go_wp2_with fail)
 refine hcall.mono ?_
 rintro e W43 ⟨v675, rfl, ho0, hb⟩
 clear hcall
 have Z43 := Aside0.mk hb.size
 replace HO15_0 := bR HO15_0 hb
 replace HO15_1 := bR HO15_1 hb
 replace HO15_2 := bR HO15_2 hb
 obtain ⟨A43_0, n43_0, c43_0, rfl, hn_, hr_⟩ := Go.Proofs.YtmgfklmhelabcaaGreatM.R_made ho0 HB.out.size
 clear hn_ ho0
 have HO43_0 := Aside0.mk hr_
 clear hr_
 replace BK1 := bK BK1 hb; replace c_BK1 := bcl BK1; replace z_BK1 := bfr BK1
 replace BK2 := bK BK2 hb; replace c_BK2 := bcl BK2; replace z_BK2 := bfr BK2
 replace BK15_10 := bK BK15_10 hb; replace c_BK15_10 := bcl BK15_10; replace z_BK15_10 := bfr BK15_10
 replace HB := bH HB hb; clear hb
 have H := H'.out
 clear H'
 replace H := obs H
 obtain ⟨t677, hm, H⟩ := H
 (try dsimp only at H)
 have H' := Aside0.mk H
 clear H
 have hcall := laws_toFactS.calls k _ _ l1 t677 W43 (Kd.C_below HR1.out HB.out) HC1.out hm
 clear hm
 (go_wp2_with fail)
 refine hcall.mono ?_
 rintro e W44 ⟨v678, rfl, ho0, hb⟩
 clear hcall
 have Z44 := Aside0.mk hb.size
 replace HO15_0 := bR HO15_0 hb
 replace HO15_1 := bR HO15_1 hb
 replace HO15_2 := bR HO15_2 hb
 replace HO43_0 := bR HO43_0 hb
 obtain ⟨A44_0, n44_0, c44_0, rfl, hn_, hr_⟩ := Go.Proofs.YtmgfklmhelabcaaGreatM.R_made ho0 HB.out.size
 clear hn_ ho0
 have HO44_0 := Aside0.mk hr_
 clear hr_
 replace BK1 := bK BK1 hb; replace c_BK1 := bcl BK1; replace z_BK1 := bfr BK1
 replace BK2 := bK BK2 hb; replace c_BK2 := bcl BK2; replace z_BK2 := bfr BK2
 replace BK15_10 := bK BK15_10 hb; replace c_BK15_10 := bcl BK15_10; replace z_BK15_10 := bfr BK15_10
 replace HB := bH HB hb; clear hb
 have H := H'.out
 clear H'
 replace H := obs H
 obtain ⟨⟨t680, t681⟩, hm, H⟩ := H
 (try dsimp only at H)
 have H' := Aside0.mk H
 clear H
 have hcall := laws_toPolicy.calls k a2_0 _ _ l2_1 t680 t681 W44 (Kd.C_below HR2_1.out HB.out) HC2_1.out hm
 clear hm
 (go_wp2_with fail)
 refine hcall.mono ?_
 rintro e W45 ⟨v682, rfl, ho0, hb⟩
 clear hcall
 have Z45 := Aside0.mk hb.size
 replace HO15_0 := bR HO15_0 hb
 replace HO15_1 := bR HO15_1 hb
 replace HO15_2 := bR HO15_2 hb
 replace HO43_0 := bR HO43_0 hb
 replace HO44_0 := bR HO44_0 hb
 obtain ⟨A45_0, n45_0, c45_0, rfl, hn_, hr_⟩ := Go.Proofs.YtmgfklmhelabcaaGreatM.R_made ho0 HB.out.size
 clear hn_ ho0
 have HO45_0 := Aside0.mk hr_
 clear hr_
 replace BK1 := bK BK1 hb; replace c_BK1 := bcl BK1; replace z_BK1 := bfr BK1
 replace BK2 := bK BK2 hb; replace c_BK2 := bcl BK2; replace z_BK2 := bfr BK2
 replace BK15_10 := bK BK15_10 hb; replace c_BK15_10 := bcl BK15_10; replace z_BK15_10 := bfr BK15_10
 replace HB := bH HB hb; clear hb
 have H := H'.out
 clear H'
 replace H := obs H
 obtain ⟨⟨t685, t686, t687, t688, t689, t690⟩, hm, H⟩ := H
 (try dsimp only at H)
 have HM48 := Aside0.mk hm
 clear hm
 replace H := obs H
 obtain ⟨⟨t691, t692, t693, t694, t695, t696, t697, t698⟩, hm, H⟩ := H
 (try dsimp only at H)
 have HM49 := Aside0.mk hm
 clear hm
 have H' := Aside0.mk H
 clear H
 go_wp2_with (first | ((with_reducible refine gate_dst (N := 15) rfl ?_); refine box_event ?hg (N := 15) ?hd (cs := #[.int .i64 0, .slice none 0 0]) (t := 39) ?hr ?_; (case hd => rfl); (case hg => rfl); (case hr => first | (go_simp; done) | (go_simp; rfl)); intro gb46 hg W46 hbox hb; have Z46 := Aside0.mk hb.size; have E46 := Aside0.mk (And.intro hg (blk_lt hbox)); have h_ := Kd.R_below HO15_0.out hb; clear HO15_0; have HO15_0 := Aside0.mk h_; clear h_; have h_ := Kd.R_below HO15_1.out hb; clear HO15_1; have HO15_1 := Aside0.mk h_; clear h_; have h_ := Kd.R_below HO15_2.out hb; clear HO15_2; have HO15_2 := Aside0.mk h_; clear h_; have h_ := Kd.R_below HO43_0.out hb; clear HO43_0; have HO43_0 := Aside0.mk h_; clear h_; have h_ := Kd.R_below HO44_0.out hb; clear HO44_0; have HO44_0 := Aside0.mk h_; clear h_; have h_ := Kd.R_below HO45_0.out hb; clear HO45_0; have HO45_0 := Aside0.mk h_; clear h_; have h_ := blk_below BK1.out hb; clear BK1 c_BK1 z_BK1; have BK1 := Aside0.mk h_; have c_BK1 := blk_cell h_; have z_BK1 := blk_frozen h_; clear h_; have h_ := blk_below BK2.out hb; clear BK2 c_BK2 z_BK2; have BK2 := Aside0.mk h_; have c_BK2 := blk_cell h_; have z_BK2 := blk_frozen h_; clear h_; have h_ := blk_below BK15_10.out hb; clear BK15_10 c_BK15_10 z_BK15_10; have BK15_10 := Aside0.mk h_; have c_BK15_10 := blk_cell h_; have z_BK15_10 := blk_frozen h_; clear h_; have BK46 := Aside0.mk hbox; have c_BK46 := blk_cell hbox; have z_BK46 := blk_frozen hbox; have hB_ := below_step HB.out hb; clear HB hb hbox hg; have HB := Aside0.mk hB_; clear hB_) | ((with_reducible refine gate_store (t := 39) (p := 15) rfl ?_); refine store_event (t := 39) (p := 15) (v := ?vo_s47) (w1 := ((W46.setCell ⟨gb46, 0, none⟩ (.int .i64 t680)).setCell ⟨gb46, 1, none⟩ (.slice A45_0 n45_0 c45_0))) ?hg ?ho ?hn ?hr ?_; (case ho => rfl); (case hg => rfl); (case hn => rfl); (case hr => first | (go_simp; done) | (go_simp; rfl)); intro W47 hw; have hk_ : Kept W46 W47 (fun k_ => k_ = gb46) := (by rw [hw]; exact Kept.setCell (Kept.setCell (Kept.refl W46 (fun k_ => k_ = gb46)) (.inl rfl) _) (.inl rfl) _); have hge_ : w.heap.size ≤ gb46 := (by have := E46.out.1; have := HB.out.size; have := Z1.out; have := Z2.out; have := Z3.out; have := Z5.out; have := Z7.out; have := Z14.out; have := Z15.out; have := Z16.out; have := Z43.out; have := Z44.out; have := Z45.out; have := Z46.out; omega); have Z47 := Aside0.mk hk_.1; have h_ := Kd.R_step HO15_0.out (fun k_ h1_ h2_ => hk_.2 k_ h2_ (fun h3_ => by obtain ⟨_, _⟩ := h1_; have := E46.out; have := Z1.out; have := Z2.out; have := Z3.out; have := Z5.out; have := Z7.out; have := Z14.out; have := Z15.out; have := Z16.out; have := Z43.out; have := Z44.out; have := Z45.out; have := Z46.out; omega)); clear HO15_0; have HO15_0 := Aside0.mk h_; clear h_; have h_ := Kd.R_step HO15_1.out (fun k_ h1_ h2_ => hk_.2 k_ h2_ (fun h3_ => by obtain ⟨_, _⟩ := h1_; have := E46.out; have := Z1.out; have := Z2.out; have := Z3.out; have := Z5.out; have := Z7.out; have := Z14.out; have := Z15.out; have := Z16.out; have := Z43.out; have := Z44.out; have := Z45.out; have := Z46.out; omega)); clear HO15_1; have HO15_1 := Aside0.mk h_; clear h_; have h_ := Kd.R_step HO15_2.out (fun k_ h1_ h2_ => hk_.2 k_ h2_ (fun h3_ => by obtain ⟨_, _⟩ := h1_; have := E46.out; have := Z1.out; have := Z2.out; have := Z3.out; have := Z5.out; have := Z7.out; have := Z14.out; have := Z15.out; have := Z16.out; have := Z43.out; have := Z44.out; have := Z45.out; have := Z46.out; omega)); clear HO15_2; have HO15_2 := Aside0.mk h_; clear h_; have h_ := Kd.R_step HO43_0.out (fun k_ h1_ h2_ => hk_.2 k_ h2_ (fun h3_ => by obtain ⟨_, _⟩ := h1_; have := E46.out; have := Z1.out; have := Z2.out; have := Z3.out; have := Z5.out; have := Z7.out; have := Z14.out; have := Z15.out; have := Z16.out; have := Z43.out; have := Z44.out; have := Z45.out; have := Z46.out; omega)); clear HO43_0; have HO43_0 := Aside0.mk h_; clear h_; have h_ := Kd.R_step HO44_0.out (fun k_ h1_ h2_ => hk_.2 k_ h2_ (fun h3_ => by obtain ⟨_, _⟩ := h1_; have := E46.out; have := Z1.out; have := Z2.out; have := Z3.out; have := Z5.out; have := Z7.out; have := Z14.out; have := Z15.out; have := Z16.out; have := Z43.out; have := Z44.out; have := Z45.out; have := Z46.out; omega)); clear HO44_0; have HO44_0 := Aside0.mk h_; clear h_; have h_ := Kd.R_step HO45_0.out (fun k_ h1_ h2_ => hk_.2 k_ h2_ (fun h3_ => by obtain ⟨_, _⟩ := h1_; have := E46.out; have := Z1.out; have := Z2.out; have := Z3.out; have := Z5.out; have := Z7.out; have := Z14.out; have := Z15.out; have := Z16.out; have := Z43.out; have := Z44.out; have := Z45.out; have := Z46.out; omega)); clear HO45_0; have HO45_0 := Aside0.mk h_; clear h_; have h_ := blk_kept BK1.out hk_ (fun hp_ => by have := E1.out; have := E46.out; have := Z1.out; have := Z2.out; have := Z3.out; have := Z5.out; have := Z7.out; have := Z14.out; have := Z15.out; have := Z16.out; have := Z43.out; have := Z44.out; have := Z45.out; have := Z46.out; omega); clear BK1 c_BK1 z_BK1; have BK1 := Aside0.mk h_; have c_BK1 := blk_cell h_; have z_BK1 := blk_frozen h_; clear h_; have h_ := blk_kept BK2.out hk_ (fun hp_ => by have := E2.out; have := E46.out; have := Z1.out; have := Z2.out; have := Z3.out; have := Z5.out; have := Z7.out; have := Z14.out; have := Z15.out; have := Z16.out; have := Z43.out; have := Z44.out; have := Z45.out; have := Z46.out; omega); clear BK2 c_BK2 z_BK2; have BK2 := Aside0.mk h_; have c_BK2 := blk_cell h_; have z_BK2 := blk_frozen h_; clear h_; have h_ := blk_kept BK15_10.out hk_ (fun hp_ => by have := E15_10.out; have := E46.out; have := Z1.out; have := Z2.out; have := Z3.out; have := Z5.out; have := Z7.out; have := Z14.out; have := Z15.out; have := Z16.out; have := Z43.out; have := Z44.out; have := Z45.out; have := Z46.out; omega); clear BK15_10 c_BK15_10 z_BK15_10; have BK15_10 := Aside0.mk h_; have c_BK15_10 := blk_cell h_; have z_BK15_10 := blk_frozen h_; clear h_; have h_ := blk_set (blk_set (BK46.out) 0 (.int .i64 t680)) 1 (.slice A45_0 n45_0 c45_0); rw [← hw] at h_; simp only [List.setIfInBounds_toArray, List.set_cons_zero, List.set_cons_succ] at h_; clear BK46 c_BK46 z_BK46; have BK46 := Aside0.mk h_; have c_BK46 := blk_cell h_; have z_BK46 := blk_frozen h_; clear h_; have hB_ : Below w.heap.size w W47 := (by rw [hw]; exact below_set (below_set (HB.out) hge_) hge_); clear HB hw hk_ hge_; have HB := Aside0.mk hB_; clear hB_))
 replace HO15_0 := dR HO15_0
 replace HO15_1 := dR HO15_1
 replace HO15_2 := dR HO15_2
 replace HO43_0 := dR HO43_0
 replace HO44_0 := dR HO44_0
 replace HO45_0 := dR HO45_0
 have h_ := blk_drew BK1.out
 clear BK1 c_BK1 z_BK1
 have BK1 := Aside0.mk h_
 clear h_
 have h_ := blk_drew BK2.out
 clear BK2 c_BK2 z_BK2
 have BK2 := Aside0.mk h_
 clear h_
 have h_ := blk_drew BK15_10.out
 clear BK15_10 c_BK15_10 z_BK15_10
 have BK15_10 := Aside0.mk h_
 clear h_
 have h_ := blk_drew BK46.out
 clear BK46 c_BK46 z_BK46
 have BK46 := Aside0.mk h_
 clear h_
 replace HB := dH HB
 have Z50 : Aside0 (W47.heap.size ≤ W47.drew.heap.size) := ⟨Nat.le_refl _⟩
 refine start_ (n := 9) (S := fun w' => w'.cell? ⟨gb2, 0, none⟩ = some (.int .i64 a3_0) ∧ w'.cell? ⟨gb2, 1, none⟩ = some (.int .i64 a3_1) ∧ w'.cell? ⟨gb2, 2, none⟩ = some (.int .i64 a3_2) ∧ w'.cell? ⟨gb2, 3, none⟩ = some (.int .i64 a3_3) ∧ w'.cell? ⟨gb2, 4, none⟩ = some (.int .i64 a3_4) ∧ w'.cell? ⟨gb2, 5, none⟩ = some (.int .i64 a3_5) ∧ w'.cell? ⟨gb46, 0, none⟩ = some (.int .i64 t680) ∧ w'.cell? ⟨gb46, 1, none⟩ = some (.slice A45_0 n45_0 c45_0)) (ds := []) #[false, false, false, false, false, false, false, false, false] (by kernel_rfl) rfl rfl ⟨(blk_cell BK2.out 0).trans rfl, (blk_cell BK2.out 1).trans rfl, (blk_cell BK2.out 2).trans rfl, (blk_cell BK2.out 3).trans rfl, (blk_cell BK2.out 4).trans rfl, (blk_cell BK2.out 5).trans rfl, (blk_cell BK46.out 0).trans rfl, (blk_cell BK46.out 1).trans rfl⟩ (fun hHeld => ?_)
 generalize W47.drew = W50 at Z50 HB BK1 BK2 BK15_10 BK46 HO15_0 HO15_1 HO15_2 HO43_0 HO44_0 HO45_0 hHeld ⊢
 have c_BK1 := blk_cell BK1.out
 have z_BK1 := blk_frozen BK1.out
 have c_BK2 := blk_cell BK2.out
 have z_BK2 := blk_frozen BK2.out
 have c_BK15_10 := blk_cell BK15_10.out
 have z_BK15_10 := blk_frozen BK15_10.out
 have c_BK46 := blk_cell BK46.out
 have z_BK46 := blk_frozen BK46.out
 refine puA 0 (some 48) #[true, false, false, false, false, false, false, false, false] ?_
 refine puA 1 (some 49) #[true, true, false, false, false, false, false, false, false] ?_
 refine puA 5 (some 53) #[true, true, false, false, false, true, false, false, false] ?_
 refine taA 2 (some 50) #[true, true, true, false, false, true, false, false, false] hHeld ?_
 refine taA 3 (some 51) #[true, true, true, true, false, true, false, false, false] hHeld ?_
 refine join_ (σ := Nat × Nat × Nat × Nat × Nat) 1 m5_ (fun s_ => [(52, .agg #[.int .i64 t685, .int .i64 t686, .int .i64 t687, .int .i64 t688, .int .i64 t689, .int .i64 t690]), (54, .agg #[.int .i64 t691, .int .i64 t692, .int .i64 t693, .int .i64 t694, .int .i64 t695, .int .i64 t696, .int .i64 t697, .int .i64 t698]), (16, .pointer (some ⟨s_.2.2.2.2, 0, none⟩))]) (fun s_ w' => (Below w.heap.size w w') ∧ (w'.heap[gb1]? = some (.cells #[.int .i64 a2_0, .slice A2_1 l2_1.length c2_1] 26 (0, 0))) ∧ (w'.heap[gb2]? = some (.cells #[.int .i64 a3_0, .int .i64 a3_1, .int .i64 a3_2, .int .i64 a3_3, .int .i64 a3_4, .int .i64 a3_5] 28 (0, 0))) ∧ (w'.heap[f15_g_10]? = some (.cells #[.int .i64 t665, .int .i64 t666, .int .i64 t667, .int .i64 t668, .int .i64 t669, .int .i64 t670, .int .i64 t671, .int .i64 t672] 48 (0, 0))) ∧ (w'.heap[gb46]? = some (.cells #[.int .i64 t680, .slice A45_0 n45_0 c45_0] 39 (0, 0))) ∧ (Kd.R k154 154 w' w.heap.size (fun k_ => f15_lo_1 ≤ k_ ∧ k_ < f15_hi_1) (.slice f15_651_A f15_651_n f15_651_c) t649) ∧ (Kd.R k136 136 w' w.heap.size (fun k_ => f15_lo_3 ≤ k_ ∧ k_ < f15_hi_3) (.slice f15_654_A f15_654_n f15_654_c) t652) ∧ (Kd.R k174 174 w' w.heap.size (fun k_ => f15_lo_5 ≤ k_ ∧ k_ < f15_hi_5) (.slice f15_658_A f15_658_n f15_658_c) t656) ∧ (Kd.R k154 154 w' w.heap.size (fun k_ => W16.heap.size ≤ k_ ∧ k_ < W43.heap.size) (.slice A43_0 n43_0 c43_0) t674) ∧ (Kd.R k136 136 w' w.heap.size (fun k_ => W43.heap.size ≤ k_ ∧ k_ < W44.heap.size) (.slice A44_0 n44_0 c44_0) t677) ∧ (Kd.R k174 174 w' w.heap.size (fun k_ => W44.heap.size ≤ k_ ∧ k_ < W45.heap.size) (.slice A45_0 n45_0 c45_0) t681) ∧ (w'.heap[s_.2.2.2.2]? = some (.cells #[.int .i64 0, .int .i64 0, .int .i64 0, .int .i64 0, .int .i64 0, .int .i64 0, .int .i64 0, .int .i64 0] 48 (0, 0))) ∧ (W50.heap.size ≤ w'.heap.size ∧ W50.heap.size ≤ s_.1 ∧ s_.1 ≤ s_.2.1 ∧ s_.2.1 ≤ w'.heap.size ∧ W50.heap.size ≤ s_.2.2.1 ∧ s_.2.2.1 ≤ s_.2.2.2.1 ∧ s_.2.2.2.1 ≤ w'.heap.size ∧ s_.2.1 ≤ s_.2.2.1 ∧ W50.heap.size ≤ s_.2.2.2.2 ∧ s_.2.2.2.2 < w'.heap.size ∧ (s_.2.2.2.2 < s_.1 ∨ s_.2.1 ≤ s_.2.2.2.2) ∧ (s_.2.2.2.2 < s_.2.2.1 ∨ s_.2.2.2.1 ≤ s_.2.2.2.2))) ?_ ?_
 rotate_left
 ·intro hCont
  refine two_ (i := 4) (j := 7) (Ni := some 52) (Nj := some 16) #[true, true, true, true, true, true, false, false, false] #[true, true, true, true, false, true, false, true, false] rfl rfl rfl rfl (by kernel_rfl) (by decide) (by decide) (fun K hK => ?_) (fun K hK => ?_)
  ·skip
   have hcall := laws_toRequest.calls a3_0 a3_1 a3_2 a3_3 a3_4 a3_5 t685 t686 t687 t688 t689 t690 W50  HM48.out; refine goes_ Tryz.func21 (by kernel_rfl) rfl #[.agg #[.int .i64 a3_0, .int .i64 a3_1, .int .i64 a3_2, .int .i64 a3_3, .int .i64 a3_4, .int .i64 a3_5]] (by rfl) rfl rfl zM ?_; refine hcall.mono ?_; rintro e W53 ⟨rfl, hb⟩; refine ⟨_, rfl, ?_⟩; clear hcall; have Z53 := Aside0.mk hb.size; replace HO15_0 := bR HO15_0 hb; replace HO15_1 := bR HO15_1 hb; replace HO15_2 := bR HO15_2 hb; replace HO43_0 := bR HO43_0 hb; replace HO44_0 := bR HO44_0 hb; replace HO45_0 := bR HO45_0 hb; replace BK1 := bK BK1 hb; replace c_BK1 := bcl BK1; replace z_BK1 := bfr BK1; replace BK2 := bK BK2 hb; replace c_BK2 := bcl BK2; replace z_BK2 := bfr BK2; replace BK15_10 := bK BK15_10 hb; replace c_BK15_10 := bcl BK15_10; replace z_BK15_10 := bfr BK15_10; replace BK46 := bK BK46 hb; replace c_BK46 := bcl BK46; replace z_BK46 := bfr BK46; replace HB := bH HB hb; clear hb; refine hK.out _ _ ⟨(blk_cell BK2.out 0).trans rfl, (blk_cell BK2.out 1).trans rfl, (blk_cell BK2.out 2).trans rfl, (blk_cell BK2.out 3).trans rfl, (blk_cell BK2.out 4).trans rfl, (blk_cell BK2.out 5).trans rfl, (blk_cell BK46.out 0).trans rfl, (blk_cell BK46.out 1).trans rfl⟩ (fun hHeld => nrA 52 ?_); clear hK K; refine two_ (i := 6) (j := 7) (Ni := some 54) (Nj := some 16) #[true, true, true, true, true, true, true, false, false] m3_ rfl rfl rfl rfl (by kernel_rfl) (by decide) (by decide) (fun K hK => ?_) (fun K hK => ?_)
   ·skip
    have hcall := impl_SaveDecision.calls k _ _ t674 _ _ t677 t680 _ _ t681 t685 t686 t687 t688 t689 t690 a4 t691 t692 t693 t694 t695 t696 t697 t698 W53 (Go.Proofs.YtmgfklmhelabcaaGreatM.R_C HO43_0.out) (Go.Proofs.YtmgfklmhelabcaaGreatM.R_len HO43_0.out) (Go.Proofs.YtmgfklmhelabcaaGreatM.R_C HO44_0.out) (Go.Proofs.YtmgfklmhelabcaaGreatM.R_len HO44_0.out) (Go.Proofs.YtmgfklmhelabcaaGreatM.R_C HO45_0.out) (Go.Proofs.YtmgfklmhelabcaaGreatM.R_len HO45_0.out) HM49.out; rw [Go.Proofs.YtmgfklmhelabcaaGreatM.R_n HO43_0.out, Go.Proofs.YtmgfklmhelabcaaGreatM.R_n HO44_0.out, Go.Proofs.YtmgfklmhelabcaaGreatM.R_n HO45_0.out] at hcall; refine goes_ Tryz.func27 (by kernel_rfl) rfl #[.slice A43_0 n43_0 c43_0, .slice A44_0 n44_0 c44_0, .agg #[.int .i64 t680, .slice A45_0 n45_0 c45_0], .agg #[.int .i64 t685, .int .i64 t686, .int .i64 t687, .int .i64 t688, .int .i64 t689, .int .i64 t690], .int .i64 a4] (by rfl) rfl rfl zM ?_; refine hcall.mono ?_; rintro e W54 ⟨rfl, hb⟩; refine ⟨_, rfl, ?_⟩; clear hcall; have Z54 := Aside0.mk hb.size; replace HO15_0 := bR HO15_0 hb; replace HO15_1 := bR HO15_1 hb; replace HO15_2 := bR HO15_2 hb; replace HO43_0 := bR HO43_0 hb; replace HO44_0 := bR HO44_0 hb; replace HO45_0 := bR HO45_0 hb; replace BK1 := bK BK1 hb; replace c_BK1 := bcl BK1; replace z_BK1 := bfr BK1; replace BK2 := bK BK2 hb; replace c_BK2 := bcl BK2; replace z_BK2 := bfr BK2; replace BK15_10 := bK BK15_10 hb; replace c_BK15_10 := bcl BK15_10; replace z_BK15_10 := bfr BK15_10; replace BK46 := bK BK46 hb; replace c_BK46 := bcl BK46; replace z_BK46 := bfr BK46; replace HB := bH HB hb; clear hb; refine hK.out _ _ ⟨(blk_cell BK2.out 0).trans rfl, (blk_cell BK2.out 1).trans rfl, (blk_cell BK2.out 2).trans rfl, (blk_cell BK2.out 3).trans rfl, (blk_cell BK2.out 4).trans rfl, (blk_cell BK2.out 5).trans rfl, (blk_cell BK46.out 0).trans rfl, (blk_cell BK46.out 1).trans rfl⟩ (fun hHeld => nrA 54 ?_); clear hK K; refine one_ (i := 7) (N := some 16) m5_ rfl rfl (by kernel_rfl) (by decide) (fun K hK => ?_); refine value_ (w1 := W54.alloc (.cells #[.int .i64 0, .int .i64 0, .int .i64 0, .int .i64 0, .int .i64 0, .int .i64 0, .int .i64 0, .int .i64 0] 48)) (v := .pointer (some ⟨W54.heap.size, 0, none⟩)) (by rfl) rfl ?_ ?_
    ·go_simp
     first | done | rfl
    obtain ⟨W55, hw_⟩ : ∃ W_, W_ = W54.alloc (.cells #[.int .i64 0, .int .i64 0, .int .i64 0, .int .i64 0, .int .i64 0, .int .i64 0, .int .i64 0, .int .i64 0] 48) := ⟨_, rfl⟩; rw [← hw_]; have hbox : W55.heap[W54.heap.size]? = some (.cells #[.int .i64 0, .int .i64 0, .int .i64 0, .int .i64 0, .int .i64 0, .int .i64 0, .int .i64 0, .int .i64 0] 48 (0, 0)) := (by rw [hw_]; exact blk_new _ _); have hb : Below W54.heap.size W54 W55 := (by rw [hw_]; exact below_alloc (Below.refl _ _) _); clear hw_; obtain ⟨gb55, hg_⟩ : ∃ g_, g_ = W54.heap.size := ⟨_, rfl⟩; rw [← hg_] at hbox ⊢; have Z55 := Aside0.mk hb.size; have E55 := Aside0.mk (And.intro hg_ (blk_lt hbox)); replace HO15_0 := bR HO15_0 hb; replace HO15_1 := bR HO15_1 hb; replace HO15_2 := bR HO15_2 hb; replace HO43_0 := bR HO43_0 hb; replace HO44_0 := bR HO44_0 hb; replace HO45_0 := bR HO45_0 hb; replace BK1 := bK BK1 hb; replace c_BK1 := bcl BK1; replace z_BK1 := bfr BK1; replace BK2 := bK BK2 hb; replace c_BK2 := bcl BK2; replace z_BK2 := bfr BK2; replace BK15_10 := bK BK15_10 hb; replace c_BK15_10 := bcl BK15_10; replace z_BK15_10 := bfr BK15_10; replace BK46 := bK BK46 hb; replace c_BK46 := bcl BK46; replace z_BK46 := bfr BK46; have BK55 := Aside0.mk hbox; have c_BK55 := blk_cell hbox; have z_BK55 := blk_frozen hbox; have hB_ := below_step HB.out hb; clear HB hb hbox hg_; have HB := Aside0.mk hB_; clear hB_; refine hK.out _ _ ⟨(blk_cell BK2.out 0).trans rfl, (blk_cell BK2.out 1).trans rfl, (blk_cell BK2.out 2).trans rfl, (blk_cell BK2.out 3).trans rfl, (blk_cell BK2.out 4).trans rfl, (blk_cell BK2.out 5).trans rfl, (blk_cell BK46.out 0).trans rfl, (blk_cell BK46.out 1).trans rfl⟩ (fun hHeld => nrA 16 ?_); clear hK K; exact norm_ (by simp only [putAll, Act.put, List.setIfInBounds_toArray, List.set_cons_zero, List.set_cons_succ]) (hCont (W50.heap.size, W53.heap.size, W53.heap.size, W54.heap.size, gb55) _ ⟨HB.out, BK1.out, BK2.out, BK15_10.out, BK46.out, HO15_0.out, HO15_1.out, HO15_2.out, HO43_0.out, HO44_0.out, HO45_0.out, BK55.out, (by have := Z1.out; have := Z2.out; have := Z3.out; have := Z5.out; have := Z7.out; have := Z14.out; have := Z15.out; have := Z16.out; have := Z43.out; have := Z44.out; have := Z45.out; have := Z46.out; have := Z47.out; have := Z50.out; have := Z53.out; have := Z54.out; have := Z55.out; have := E55.out; (try dsimp only); omega)⟩)
   ·skip
    refine value_ (w1 := W53.alloc (.cells #[.int .i64 0, .int .i64 0, .int .i64 0, .int .i64 0, .int .i64 0, .int .i64 0, .int .i64 0, .int .i64 0] 48)) (v := .pointer (some ⟨W53.heap.size, 0, none⟩)) (by rfl) rfl ?_ ?_
    ·go_simp
     first | done | rfl
    obtain ⟨W56, hw_⟩ : ∃ W_, W_ = W53.alloc (.cells #[.int .i64 0, .int .i64 0, .int .i64 0, .int .i64 0, .int .i64 0, .int .i64 0, .int .i64 0, .int .i64 0] 48) := ⟨_, rfl⟩; rw [← hw_]; have hbox : W56.heap[W53.heap.size]? = some (.cells #[.int .i64 0, .int .i64 0, .int .i64 0, .int .i64 0, .int .i64 0, .int .i64 0, .int .i64 0, .int .i64 0] 48 (0, 0)) := (by rw [hw_]; exact blk_new _ _); have hb : Below W53.heap.size W53 W56 := (by rw [hw_]; exact below_alloc (Below.refl _ _) _); clear hw_; obtain ⟨gb56, hg_⟩ : ∃ g_, g_ = W53.heap.size := ⟨_, rfl⟩; rw [← hg_] at hbox ⊢; have Z56 := Aside0.mk hb.size; have E56 := Aside0.mk (And.intro hg_ (blk_lt hbox)); replace HO15_0 := bR HO15_0 hb; replace HO15_1 := bR HO15_1 hb; replace HO15_2 := bR HO15_2 hb; replace HO43_0 := bR HO43_0 hb; replace HO44_0 := bR HO44_0 hb; replace HO45_0 := bR HO45_0 hb; replace BK1 := bK BK1 hb; replace c_BK1 := bcl BK1; replace z_BK1 := bfr BK1; replace BK2 := bK BK2 hb; replace c_BK2 := bcl BK2; replace z_BK2 := bfr BK2; replace BK15_10 := bK BK15_10 hb; replace c_BK15_10 := bcl BK15_10; replace z_BK15_10 := bfr BK15_10; replace BK46 := bK BK46 hb; replace c_BK46 := bcl BK46; replace z_BK46 := bfr BK46; have BK56 := Aside0.mk hbox; have c_BK56 := blk_cell hbox; have z_BK56 := blk_frozen hbox; have hB_ := below_step HB.out hb; clear HB hb hbox hg_; have HB := Aside0.mk hB_; clear hB_; refine hK.out _ _ ⟨(blk_cell BK2.out 0).trans rfl, (blk_cell BK2.out 1).trans rfl, (blk_cell BK2.out 2).trans rfl, (blk_cell BK2.out 3).trans rfl, (blk_cell BK2.out 4).trans rfl, (blk_cell BK2.out 5).trans rfl, (blk_cell BK46.out 0).trans rfl, (blk_cell BK46.out 1).trans rfl⟩ (fun hHeld => nrA 16 ?_); clear hK K; refine one_ (i := 6) (N := some 54) m5_ rfl rfl (by kernel_rfl) (by decide) (fun K hK => ?_); have hcall := impl_SaveDecision.calls k _ _ t674 _ _ t677 t680 _ _ t681 t685 t686 t687 t688 t689 t690 a4 t691 t692 t693 t694 t695 t696 t697 t698 W56 (Go.Proofs.YtmgfklmhelabcaaGreatM.R_C HO43_0.out) (Go.Proofs.YtmgfklmhelabcaaGreatM.R_len HO43_0.out) (Go.Proofs.YtmgfklmhelabcaaGreatM.R_C HO44_0.out) (Go.Proofs.YtmgfklmhelabcaaGreatM.R_len HO44_0.out) (Go.Proofs.YtmgfklmhelabcaaGreatM.R_C HO45_0.out) (Go.Proofs.YtmgfklmhelabcaaGreatM.R_len HO45_0.out) HM49.out; rw [Go.Proofs.YtmgfklmhelabcaaGreatM.R_n HO43_0.out, Go.Proofs.YtmgfklmhelabcaaGreatM.R_n HO44_0.out, Go.Proofs.YtmgfklmhelabcaaGreatM.R_n HO45_0.out] at hcall; refine goes_ Tryz.func27 (by kernel_rfl) rfl #[.slice A43_0 n43_0 c43_0, .slice A44_0 n44_0 c44_0, .agg #[.int .i64 t680, .slice A45_0 n45_0 c45_0], .agg #[.int .i64 t685, .int .i64 t686, .int .i64 t687, .int .i64 t688, .int .i64 t689, .int .i64 t690], .int .i64 a4] (by rfl) rfl rfl zM ?_; refine hcall.mono ?_; rintro e W57 ⟨rfl, hb⟩; refine ⟨_, rfl, ?_⟩; clear hcall; have Z57 := Aside0.mk hb.size; replace HO15_0 := bR HO15_0 hb; replace HO15_1 := bR HO15_1 hb; replace HO15_2 := bR HO15_2 hb; replace HO43_0 := bR HO43_0 hb; replace HO44_0 := bR HO44_0 hb; replace HO45_0 := bR HO45_0 hb; replace BK1 := bK BK1 hb; replace c_BK1 := bcl BK1; replace z_BK1 := bfr BK1; replace BK2 := bK BK2 hb; replace c_BK2 := bcl BK2; replace z_BK2 := bfr BK2; replace BK15_10 := bK BK15_10 hb; replace c_BK15_10 := bcl BK15_10; replace z_BK15_10 := bfr BK15_10; replace BK46 := bK BK46 hb; replace c_BK46 := bcl BK46; replace z_BK46 := bfr BK46; replace BK56 := bK BK56 hb; replace c_BK56 := bcl BK56; replace z_BK56 := bfr BK56; replace HB := bH HB hb; clear hb; refine hK.out _ _ ⟨(blk_cell BK2.out 0).trans rfl, (blk_cell BK2.out 1).trans rfl, (blk_cell BK2.out 2).trans rfl, (blk_cell BK2.out 3).trans rfl, (blk_cell BK2.out 4).trans rfl, (blk_cell BK2.out 5).trans rfl, (blk_cell BK46.out 0).trans rfl, (blk_cell BK46.out 1).trans rfl⟩ (fun hHeld => nrA 54 ?_); clear hK K; exact norm_ (by simp only [putAll, Act.put, List.setIfInBounds_toArray, List.set_cons_zero, List.set_cons_succ]) (hCont (W50.heap.size, W53.heap.size, W56.heap.size, W57.heap.size, gb56) _ ⟨HB.out, BK1.out, BK2.out, BK15_10.out, BK46.out, HO15_0.out, HO15_1.out, HO15_2.out, HO43_0.out, HO44_0.out, HO45_0.out, BK56.out, (by have := Z1.out; have := Z2.out; have := Z3.out; have := Z5.out; have := Z7.out; have := Z14.out; have := Z15.out; have := Z16.out; have := Z43.out; have := Z44.out; have := Z45.out; have := Z46.out; have := Z47.out; have := Z50.out; have := Z53.out; have := Z56.out; have := Z57.out; have := E56.out; (try dsimp only); omega)⟩)
  ·skip
   refine value_ (w1 := W50.alloc (.cells #[.int .i64 0, .int .i64 0, .int .i64 0, .int .i64 0, .int .i64 0, .int .i64 0, .int .i64 0, .int .i64 0] 48)) (v := .pointer (some ⟨W50.heap.size, 0, none⟩)) (by rfl) rfl ?_ ?_
   ·go_simp
    first | done | rfl
   obtain ⟨W58, hw_⟩ : ∃ W_, W_ = W50.alloc (.cells #[.int .i64 0, .int .i64 0, .int .i64 0, .int .i64 0, .int .i64 0, .int .i64 0, .int .i64 0, .int .i64 0] 48) := ⟨_, rfl⟩; rw [← hw_]; have hbox : W58.heap[W50.heap.size]? = some (.cells #[.int .i64 0, .int .i64 0, .int .i64 0, .int .i64 0, .int .i64 0, .int .i64 0, .int .i64 0, .int .i64 0] 48 (0, 0)) := (by rw [hw_]; exact blk_new _ _); have hb : Below W50.heap.size W50 W58 := (by rw [hw_]; exact below_alloc (Below.refl _ _) _); clear hw_; obtain ⟨gb58, hg_⟩ : ∃ g_, g_ = W50.heap.size := ⟨_, rfl⟩; rw [← hg_] at hbox ⊢; have Z58 := Aside0.mk hb.size; have E58 := Aside0.mk (And.intro hg_ (blk_lt hbox)); replace HO15_0 := bR HO15_0 hb; replace HO15_1 := bR HO15_1 hb; replace HO15_2 := bR HO15_2 hb; replace HO43_0 := bR HO43_0 hb; replace HO44_0 := bR HO44_0 hb; replace HO45_0 := bR HO45_0 hb; replace BK1 := bK BK1 hb; replace c_BK1 := bcl BK1; replace z_BK1 := bfr BK1; replace BK2 := bK BK2 hb; replace c_BK2 := bcl BK2; replace z_BK2 := bfr BK2; replace BK15_10 := bK BK15_10 hb; replace c_BK15_10 := bcl BK15_10; replace z_BK15_10 := bfr BK15_10; replace BK46 := bK BK46 hb; replace c_BK46 := bcl BK46; replace z_BK46 := bfr BK46; have BK58 := Aside0.mk hbox; have c_BK58 := blk_cell hbox; have z_BK58 := blk_frozen hbox; have hB_ := below_step HB.out hb; clear HB hb hbox hg_; have HB := Aside0.mk hB_; clear hB_; refine hK.out _ _ ⟨(blk_cell BK2.out 0).trans rfl, (blk_cell BK2.out 1).trans rfl, (blk_cell BK2.out 2).trans rfl, (blk_cell BK2.out 3).trans rfl, (blk_cell BK2.out 4).trans rfl, (blk_cell BK2.out 5).trans rfl, (blk_cell BK46.out 0).trans rfl, (blk_cell BK46.out 1).trans rfl⟩ (fun hHeld => nrA 16 ?_); clear hK K; refine one_ (i := 4) (N := some 52) m3_ rfl rfl (by kernel_rfl) (by decide) (fun K hK => ?_); have hcall := laws_toRequest.calls a3_0 a3_1 a3_2 a3_3 a3_4 a3_5 t685 t686 t687 t688 t689 t690 W58  HM48.out; refine goes_ Tryz.func21 (by kernel_rfl) rfl #[.agg #[.int .i64 a3_0, .int .i64 a3_1, .int .i64 a3_2, .int .i64 a3_3, .int .i64 a3_4, .int .i64 a3_5]] (by rfl) rfl rfl zM ?_; refine hcall.mono ?_; rintro e W59 ⟨rfl, hb⟩; refine ⟨_, rfl, ?_⟩; clear hcall; have Z59 := Aside0.mk hb.size; replace HO15_0 := bR HO15_0 hb; replace HO15_1 := bR HO15_1 hb; replace HO15_2 := bR HO15_2 hb; replace HO43_0 := bR HO43_0 hb; replace HO44_0 := bR HO44_0 hb; replace HO45_0 := bR HO45_0 hb; replace BK1 := bK BK1 hb; replace c_BK1 := bcl BK1; replace z_BK1 := bfr BK1; replace BK2 := bK BK2 hb; replace c_BK2 := bcl BK2; replace z_BK2 := bfr BK2; replace BK15_10 := bK BK15_10 hb; replace c_BK15_10 := bcl BK15_10; replace z_BK15_10 := bfr BK15_10; replace BK46 := bK BK46 hb; replace c_BK46 := bcl BK46; replace z_BK46 := bfr BK46; replace BK58 := bK BK58 hb; replace c_BK58 := bcl BK58; replace z_BK58 := bfr BK58; replace HB := bH HB hb; clear hb; refine hK.out _ _ ⟨(blk_cell BK2.out 0).trans rfl, (blk_cell BK2.out 1).trans rfl, (blk_cell BK2.out 2).trans rfl, (blk_cell BK2.out 3).trans rfl, (blk_cell BK2.out 4).trans rfl, (blk_cell BK2.out 5).trans rfl, (blk_cell BK46.out 0).trans rfl, (blk_cell BK46.out 1).trans rfl⟩ (fun hHeld => nrA 52 ?_); clear hK K; refine one_ (i := 6) (N := some 54) m5_ rfl rfl (by kernel_rfl) (by decide) (fun K hK => ?_); have hcall := impl_SaveDecision.calls k _ _ t674 _ _ t677 t680 _ _ t681 t685 t686 t687 t688 t689 t690 a4 t691 t692 t693 t694 t695 t696 t697 t698 W59 (Go.Proofs.YtmgfklmhelabcaaGreatM.R_C HO43_0.out) (Go.Proofs.YtmgfklmhelabcaaGreatM.R_len HO43_0.out) (Go.Proofs.YtmgfklmhelabcaaGreatM.R_C HO44_0.out) (Go.Proofs.YtmgfklmhelabcaaGreatM.R_len HO44_0.out) (Go.Proofs.YtmgfklmhelabcaaGreatM.R_C HO45_0.out) (Go.Proofs.YtmgfklmhelabcaaGreatM.R_len HO45_0.out) HM49.out; rw [Go.Proofs.YtmgfklmhelabcaaGreatM.R_n HO43_0.out, Go.Proofs.YtmgfklmhelabcaaGreatM.R_n HO44_0.out, Go.Proofs.YtmgfklmhelabcaaGreatM.R_n HO45_0.out] at hcall; refine goes_ Tryz.func27 (by kernel_rfl) rfl #[.slice A43_0 n43_0 c43_0, .slice A44_0 n44_0 c44_0, .agg #[.int .i64 t680, .slice A45_0 n45_0 c45_0], .agg #[.int .i64 t685, .int .i64 t686, .int .i64 t687, .int .i64 t688, .int .i64 t689, .int .i64 t690], .int .i64 a4] (by rfl) rfl rfl zM ?_
   refine hcall.mono ?_; rintro e W60 ⟨rfl, hb⟩; refine ⟨_, rfl, ?_⟩; clear hcall; have Z60 := Aside0.mk hb.size; replace HO15_0 := bR HO15_0 hb; replace HO15_1 := bR HO15_1 hb; replace HO15_2 := bR HO15_2 hb; replace HO43_0 := bR HO43_0 hb; replace HO44_0 := bR HO44_0 hb; replace HO45_0 := bR HO45_0 hb; replace BK1 := bK BK1 hb; replace c_BK1 := bcl BK1; replace z_BK1 := bfr BK1; replace BK2 := bK BK2 hb; replace c_BK2 := bcl BK2; replace z_BK2 := bfr BK2; replace BK15_10 := bK BK15_10 hb; replace c_BK15_10 := bcl BK15_10; replace z_BK15_10 := bfr BK15_10; replace BK46 := bK BK46 hb; replace c_BK46 := bcl BK46; replace z_BK46 := bfr BK46; replace BK58 := bK BK58 hb; replace c_BK58 := bcl BK58; replace z_BK58 := bfr BK58; replace HB := bH HB hb; clear hb; refine hK.out _ _ ⟨(blk_cell BK2.out 0).trans rfl, (blk_cell BK2.out 1).trans rfl, (blk_cell BK2.out 2).trans rfl, (blk_cell BK2.out 3).trans rfl, (blk_cell BK2.out 4).trans rfl, (blk_cell BK2.out 5).trans rfl, (blk_cell BK46.out 0).trans rfl, (blk_cell BK46.out 1).trans rfl⟩ (fun hHeld => nrA 54 ?_); clear hK K; exact norm_ (by simp only [putAll, Act.put, List.setIfInBounds_toArray, List.set_cons_zero, List.set_cons_succ]) (hCont (W58.heap.size, W59.heap.size, W59.heap.size, W60.heap.size, gb58) _ ⟨HB.out, BK1.out, BK2.out, BK15_10.out, BK46.out, HO15_0.out, HO15_1.out, HO15_2.out, HO43_0.out, HO44_0.out, HO45_0.out, BK58.out, (by have := Z1.out; have := Z2.out; have := Z3.out; have := Z5.out; have := Z7.out; have := Z14.out; have := Z15.out; have := Z16.out; have := Z43.out; have := Z44.out; have := Z45.out; have := Z46.out; have := Z47.out; have := Z50.out; have := Z58.out; have := Z59.out; have := Z60.out; have := E58.out; (try dsimp only); omega)⟩)
 rintro ⟨f51_lo_4, f51_hi_4, f51_lo_6, f51_hi_6, f51_g_7⟩ W51 ⟨hB_, hb0_, hb1_, hb2_, hb3_, hr0_, hr1_, hr2_, hr3_, hr4_, hr5_, hx7_, hz0_⟩
 clear HB
 have HB := Aside0.mk hB_
 clear BK1
 (try clear c_BK1)
 (try clear z_BK1)
 have BK1 := Aside0.mk hb0_
 have c_BK1 := blk_cell hb0_
 have z_BK1 := blk_frozen hb0_
 clear BK2
 (try clear c_BK2)
 (try clear z_BK2)
 have BK2 := Aside0.mk hb1_
 have c_BK2 := blk_cell hb1_
 have z_BK2 := blk_frozen hb1_
 clear BK15_10
 (try clear c_BK15_10)
 (try clear z_BK15_10)
 have BK15_10 := Aside0.mk hb2_
 have c_BK15_10 := blk_cell hb2_
 have z_BK15_10 := blk_frozen hb2_
 clear BK46
 (try clear c_BK46)
 (try clear z_BK46)
 have BK46 := Aside0.mk hb3_
 have c_BK46 := blk_cell hb3_
 have z_BK46 := blk_frozen hb3_
 clear HO15_0
 have HO15_0 := Aside0.mk hr0_
 clear HO15_1
 have HO15_1 := Aside0.mk hr1_
 clear HO15_2
 have HO15_2 := Aside0.mk hr2_
 clear HO43_0
 have HO43_0 := Aside0.mk hr3_
 clear HO44_0
 have HO44_0 := Aside0.mk hr4_
 clear HO45_0
 have HO45_0 := Aside0.mk hr5_
 have BK51_7 := Aside0.mk hx7_
 have c_BK51_7 := blk_cell hx7_
 have z_BK51_7 := blk_frozen hx7_
 have Z51 : Aside0 ((W50.heap.size ≤ W51.heap.size ∧ W50.heap.size ≤ f51_lo_4 ∧ f51_lo_4 ≤ f51_hi_4 ∧ f51_hi_4 ≤ W51.heap.size ∧ W50.heap.size ≤ f51_lo_6 ∧ f51_lo_6 ≤ f51_hi_6 ∧ f51_hi_6 ≤ W51.heap.size ∧ f51_hi_4 ≤ f51_lo_6 ∧ W50.heap.size ≤ f51_g_7 ∧ f51_g_7 < W51.heap.size ∧ (f51_g_7 < f51_lo_4 ∨ f51_hi_4 ≤ f51_g_7) ∧ (f51_g_7 < f51_lo_6 ∨ f51_hi_6 ≤ f51_g_7))) := ⟨hz0_⟩
 have E51_7 : Aside0 ((W50.heap.size ≤ f51_g_7) ∧ f51_g_7 < W51.heap.size ∧ (f51_g_7 < f51_lo_4 ∨ f51_hi_4 ≤ f51_g_7) ∧ (f51_g_7 < f51_lo_6 ∨ f51_hi_6 ≤ f51_g_7)) := ⟨by have h_ := Z51.out; omega⟩
 clear hB_ hb0_ hb1_ hb2_ hb3_ hr0_ hr1_ hr2_ hr3_ hr4_ hr5_ hx7_ hz0_
 have hHeld : W51.cell? ⟨gb2, 0, none⟩ = some (.int .i64 a3_0) ∧ W51.cell? ⟨gb2, 1, none⟩ = some (.int .i64 a3_1) ∧ W51.cell? ⟨gb2, 2, none⟩ = some (.int .i64 a3_2) ∧ W51.cell? ⟨gb2, 3, none⟩ = some (.int .i64 a3_3) ∧ W51.cell? ⟨gb2, 4, none⟩ = some (.int .i64 a3_4) ∧ W51.cell? ⟨gb2, 5, none⟩ = some (.int .i64 a3_5) ∧ W51.cell? ⟨gb46, 0, none⟩ = some (.int .i64 t680) ∧ W51.cell? ⟨gb46, 1, none⟩ = some (.slice A45_0 n45_0 c45_0) := ⟨(blk_cell BK2.out 0).trans rfl, (blk_cell BK2.out 1).trans rfl, (blk_cell BK2.out 2).trans rfl, (blk_cell BK2.out 3).trans rfl, (blk_cell BK2.out 4).trans rfl, (blk_cell BK2.out 5).trans rfl, (blk_cell BK46.out 0).trans rfl, (blk_cell BK46.out 1).trans rfl⟩
 refine norm_ (a' := ?_) ?_ ?_
 rotate_left
 ·simp only [putAll, Act.put, List.setIfInBounds_toArray, List.set_cons_zero, List.set_cons_succ]
  rfl
 refine one_ (i := 8) (N := none) #[true, true, true, true, true, true, true, true, true] rfl rfl (by kernel_rfl) (by decide) (fun K hK => ?_)
 refine skip_ (w1 := ((((((((W51.setCell ⟨f51_g_7, 0, none⟩ (.int .i64 t691)).setCell ⟨f51_g_7, 1, none⟩ (.int .i64 t692)).setCell ⟨f51_g_7, 2, none⟩ (.int .i64 t693)).setCell ⟨f51_g_7, 3, none⟩ (.int .i64 t694)).setCell ⟨f51_g_7, 4, none⟩ (.int .i64 t695)).setCell ⟨f51_g_7, 5, none⟩ (.int .i64 t696)).setCell ⟨f51_g_7, 6, none⟩ (.int .i64 t697)).setCell ⟨f51_g_7, 7, none⟩ (.int .i64 t698))) (by rfl) rfl ?_ ?_
 ·go_simp
  first | done | rfl
 obtain ⟨W52, hw⟩ : ∃ W_, W_ = ((((((((W51.setCell ⟨f51_g_7, 0, none⟩ (.int .i64 t691)).setCell ⟨f51_g_7, 1, none⟩ (.int .i64 t692)).setCell ⟨f51_g_7, 2, none⟩ (.int .i64 t693)).setCell ⟨f51_g_7, 3, none⟩ (.int .i64 t694)).setCell ⟨f51_g_7, 4, none⟩ (.int .i64 t695)).setCell ⟨f51_g_7, 5, none⟩ (.int .i64 t696)).setCell ⟨f51_g_7, 6, none⟩ (.int .i64 t697)).setCell ⟨f51_g_7, 7, none⟩ (.int .i64 t698)) := ⟨_, rfl⟩
 rw [← hw]
 have hk_ : Kept W51 W52 (fun k_ => k_ = f51_g_7) := (by rw [hw]; exact Kept.setCell (Kept.setCell (Kept.setCell (Kept.setCell (Kept.setCell (Kept.setCell (Kept.setCell (Kept.setCell (Kept.refl W51 (fun k_ => k_ = f51_g_7)) (.inl rfl) _) (.inl rfl) _) (.inl rfl) _) (.inl rfl) _) (.inl rfl) _) (.inl rfl) _) (.inl rfl) _) (.inl rfl) _)
 have hge_ : w.heap.size ≤ f51_g_7 := (by have := E51_7.out.1; have := HB.out.size; have := Z1.out; have := Z2.out; have := Z3.out; have := Z5.out; have := Z7.out; have := Z14.out; have := Z15.out; have := Z16.out; have := Z43.out; have := Z44.out; have := Z45.out; have := Z46.out; have := Z47.out; have := Z50.out; have := Z51.out; omega)
 have Z52 := Aside0.mk hk_.1
 have h_ := Kd.R_step HO15_0.out (fun k_ h1_ h2_ => hk_.2 k_ h2_ (fun h3_ => by obtain ⟨_, _⟩ := h1_; have := E51_7.out; have := Z1.out; have := Z2.out; have := Z3.out; have := Z5.out; have := Z7.out; have := Z14.out; have := Z15.out; have := Z16.out; have := Z43.out; have := Z44.out; have := Z45.out; have := Z46.out; have := Z47.out; have := Z50.out; have := Z51.out; omega))
 clear HO15_0
 have HO15_0 := Aside0.mk h_
 clear h_
 have h_ := Kd.R_step HO15_1.out (fun k_ h1_ h2_ => hk_.2 k_ h2_ (fun h3_ => by obtain ⟨_, _⟩ := h1_; have := E51_7.out; have := Z1.out; have := Z2.out; have := Z3.out; have := Z5.out; have := Z7.out; have := Z14.out; have := Z15.out; have := Z16.out; have := Z43.out; have := Z44.out; have := Z45.out; have := Z46.out; have := Z47.out; have := Z50.out; have := Z51.out; omega))
 clear HO15_1
 have HO15_1 := Aside0.mk h_
 clear h_
 have h_ := Kd.R_step HO15_2.out (fun k_ h1_ h2_ => hk_.2 k_ h2_ (fun h3_ => by obtain ⟨_, _⟩ := h1_; have := E51_7.out; have := Z1.out; have := Z2.out; have := Z3.out; have := Z5.out; have := Z7.out; have := Z14.out; have := Z15.out; have := Z16.out; have := Z43.out; have := Z44.out; have := Z45.out; have := Z46.out; have := Z47.out; have := Z50.out; have := Z51.out; omega))
 clear HO15_2
 have HO15_2 := Aside0.mk h_
 clear h_
 have h_ := Kd.R_step HO43_0.out (fun k_ h1_ h2_ => hk_.2 k_ h2_ (fun h3_ => by obtain ⟨_, _⟩ := h1_; have := E51_7.out; have := Z1.out; have := Z2.out; have := Z3.out; have := Z5.out; have := Z7.out; have := Z14.out; have := Z15.out; have := Z16.out; have := Z43.out; have := Z44.out; have := Z45.out; have := Z46.out; have := Z47.out; have := Z50.out; have := Z51.out; omega))
 clear HO43_0
 have HO43_0 := Aside0.mk h_
 clear h_
 have h_ := Kd.R_step HO44_0.out (fun k_ h1_ h2_ => hk_.2 k_ h2_ (fun h3_ => by obtain ⟨_, _⟩ := h1_; have := E51_7.out; have := Z1.out; have := Z2.out; have := Z3.out; have := Z5.out; have := Z7.out; have := Z14.out; have := Z15.out; have := Z16.out; have := Z43.out; have := Z44.out; have := Z45.out; have := Z46.out; have := Z47.out; have := Z50.out; have := Z51.out; omega))
 clear HO44_0
 have HO44_0 := Aside0.mk h_
 clear h_
 have h_ := Kd.R_step HO45_0.out (fun k_ h1_ h2_ => hk_.2 k_ h2_ (fun h3_ => by obtain ⟨_, _⟩ := h1_; have := E51_7.out; have := Z1.out; have := Z2.out; have := Z3.out; have := Z5.out; have := Z7.out; have := Z14.out; have := Z15.out; have := Z16.out; have := Z43.out; have := Z44.out; have := Z45.out; have := Z46.out; have := Z47.out; have := Z50.out; have := Z51.out; omega))
 clear HO45_0
 have HO45_0 := Aside0.mk h_
 clear h_
 have h_ := blk_kept BK1.out hk_ (fun hp_ => by have := E1.out; have := E51_7.out; have := Z1.out; have := Z2.out; have := Z3.out; have := Z5.out; have := Z7.out; have := Z14.out; have := Z15.out; have := Z16.out; have := Z43.out; have := Z44.out; have := Z45.out; have := Z46.out; have := Z47.out; have := Z50.out; have := Z51.out; omega)
 (try clear c_BK1 z_BK1)
 clear BK1
 have BK1 := Aside0.mk h_
 have c_BK1 := blk_cell h_
 have z_BK1 := blk_frozen h_
 clear h_
 have h_ := blk_kept BK2.out hk_ (fun hp_ => by have := E2.out; have := E51_7.out; have := Z1.out; have := Z2.out; have := Z3.out; have := Z5.out; have := Z7.out; have := Z14.out; have := Z15.out; have := Z16.out; have := Z43.out; have := Z44.out; have := Z45.out; have := Z46.out; have := Z47.out; have := Z50.out; have := Z51.out; omega)
 (try clear c_BK2 z_BK2)
 clear BK2
 have BK2 := Aside0.mk h_
 have c_BK2 := blk_cell h_
 have z_BK2 := blk_frozen h_
 clear h_
 have h_ := blk_kept BK15_10.out hk_ (fun hp_ => by have := E15_10.out; have := E51_7.out; have := Z1.out; have := Z2.out; have := Z3.out; have := Z5.out; have := Z7.out; have := Z14.out; have := Z15.out; have := Z16.out; have := Z43.out; have := Z44.out; have := Z45.out; have := Z46.out; have := Z47.out; have := Z50.out; have := Z51.out; omega)
 (try clear c_BK15_10 z_BK15_10)
 clear BK15_10
 have BK15_10 := Aside0.mk h_
 have c_BK15_10 := blk_cell h_
 have z_BK15_10 := blk_frozen h_
 clear h_
 have h_ := blk_kept BK46.out hk_ (fun hp_ => by have := E46.out; have := E51_7.out; have := Z1.out; have := Z2.out; have := Z3.out; have := Z5.out; have := Z7.out; have := Z14.out; have := Z15.out; have := Z16.out; have := Z43.out; have := Z44.out; have := Z45.out; have := Z46.out; have := Z47.out; have := Z50.out; have := Z51.out; omega)
 (try clear c_BK46 z_BK46)
 clear BK46
 have BK46 := Aside0.mk h_
 have c_BK46 := blk_cell h_
 have z_BK46 := blk_frozen h_
 clear h_
 have h_ := blk_set (blk_set (blk_set (blk_set (blk_set (blk_set (blk_set (blk_set (BK51_7.out) 0 (.int .i64 t691)) 1 (.int .i64 t692)) 2 (.int .i64 t693)) 3 (.int .i64 t694)) 4 (.int .i64 t695)) 5 (.int .i64 t696)) 6 (.int .i64 t697)) 7 (.int .i64 t698)
 rw [← hw] at h_
 simp only [List.setIfInBounds_toArray, List.set_cons_zero, List.set_cons_succ] at h_
 (try clear c_BK51_7 z_BK51_7)
 clear BK51_7
 have BK51_7 := Aside0.mk h_
 have c_BK51_7 := blk_cell h_
 have z_BK51_7 := blk_frozen h_
 clear h_
 have hB_ : Below w.heap.size w W52 := (by rw [hw]; exact below_set (below_set (below_set (below_set (below_set (below_set (below_set (below_set (HB.out) hge_) hge_) hge_) hge_) hge_) hge_) hge_) hge_)
 clear HB hw hk_ hge_
 have HB := Aside0.mk hB_
 clear hB_
 refine hK.out _ _ ⟨(blk_cell BK2.out 0).trans rfl, (blk_cell BK2.out 1).trans rfl, (blk_cell BK2.out 2).trans rfl, (blk_cell BK2.out 3).trans rfl, (blk_cell BK2.out 4).trans rfl, (blk_cell BK2.out 5).trans rfl, (blk_cell BK46.out 0).trans rfl, (blk_cell BK46.out 1).trans rfl⟩ (fun hHeld => ?_)
 clear hK K
 refine done_ (by kernel_rfl) ?_
 clear hHeld
 have H := H'.out
 clear H'
 replace H := obs H
 obtain ⟨t700, hm, H⟩ := H
 (try dsimp only at H)
 have H' := Aside0.mk H
 clear H
 have hcall := laws_eqSaved.calls t691 t692 t693 t694 t695 t696 t697 t698 t665 t666 t667 t668 t669 t670 t671 t672 t700 W52  hm
 clear hm
 (go_wp2_with fail)
 refine hcall.mono ?_
 rintro e W61 ⟨rfl, hb⟩
 clear hcall
 have Z61 := Aside0.mk hb.size
 replace HO15_0 := bR HO15_0 hb
 replace HO15_1 := bR HO15_1 hb
 replace HO15_2 := bR HO15_2 hb
 replace HO43_0 := bR HO43_0 hb
 replace HO44_0 := bR HO44_0 hb
 replace HO45_0 := bR HO45_0 hb
 replace BK1 := bK BK1 hb; replace c_BK1 := bcl BK1; replace z_BK1 := bfr BK1
 replace BK2 := bK BK2 hb; replace c_BK2 := bcl BK2; replace z_BK2 := bfr BK2
 replace BK15_10 := bK BK15_10 hb; replace c_BK15_10 := bcl BK15_10; replace z_BK15_10 := bfr BK15_10
 replace BK46 := bK BK46 hb; replace c_BK46 := bcl BK46; replace z_BK46 := bfr BK46
 replace BK51_7 := bK BK51_7 hb; replace c_BK51_7 := bcl BK51_7; replace z_BK51_7 := bfr BK51_7
 replace HB := bH HB hb; clear hb
 have H := H'.out
 clear H'
 replace H := ifD H; rcases H with ⟨c62, H⟩ | ⟨c62, H⟩
 rotate_left
 ·replace c62 : t700 = false := by simpa using c62
  subst c62
  cases H
  go_wp2
  go_ret
  exact ⟨rfl, HB.out⟩
 subst c62
 replace H := obs H
 obtain ⟨t701, hm, H⟩ := H
 (try dsimp only at H)
 have H' := Aside0.mk H
 clear H
 have hcall := laws_toIncludesS.calls k _ _ l0 t701 W61 (Kd.C_below HR0.out HB.out) HC0.out hm
 clear hm
 (go_wp2_with fail)
 refine hcall.mono ?_
 rintro e W63 ⟨v702, rfl, ho0, hb⟩
 clear hcall
 have Z63 := Aside0.mk hb.size
 replace HO15_0 := bR HO15_0 hb
 replace HO15_1 := bR HO15_1 hb
 replace HO15_2 := bR HO15_2 hb
 replace HO43_0 := bR HO43_0 hb
 replace HO44_0 := bR HO44_0 hb
 replace HO45_0 := bR HO45_0 hb
 obtain ⟨A63_0, n63_0, c63_0, rfl, hn_, hr_⟩ := Go.Proofs.YtmgfklmhelabcaaGreatM.R_made ho0 HB.out.size
 clear hn_ ho0
 have HO63_0 := Aside0.mk hr_
 clear hr_
 replace BK1 := bK BK1 hb; replace c_BK1 := bcl BK1; replace z_BK1 := bfr BK1
 replace BK2 := bK BK2 hb; replace c_BK2 := bcl BK2; replace z_BK2 := bfr BK2
 replace BK15_10 := bK BK15_10 hb; replace c_BK15_10 := bcl BK15_10; replace z_BK15_10 := bfr BK15_10
 replace BK46 := bK BK46 hb; replace c_BK46 := bcl BK46; replace z_BK46 := bfr BK46
 replace BK51_7 := bK BK51_7 hb; replace c_BK51_7 := bcl BK51_7; replace z_BK51_7 := bfr BK51_7
 replace HB := bH HB hb; clear hb
 have H := H'.out
 clear H'
 replace H := obs H
 obtain ⟨t704, hm, H⟩ := H
 (try dsimp only at H)
 have H' := Aside0.mk H
 clear H
 have hcall := laws_eqIncludesS.calls k _ _ t674 _ _ t701 t704 W63 (Go.Proofs.YtmgfklmhelabcaaGreatM.R_C HO43_0.out) (Go.Proofs.YtmgfklmhelabcaaGreatM.R_len HO43_0.out) (Go.Proofs.YtmgfklmhelabcaaGreatM.R_C HO63_0.out) (Go.Proofs.YtmgfklmhelabcaaGreatM.R_len HO63_0.out) hm
 rw [Go.Proofs.YtmgfklmhelabcaaGreatM.R_n HO43_0.out, Go.Proofs.YtmgfklmhelabcaaGreatM.R_n HO63_0.out] at hcall
 clear hm
 (go_wp2_with fail)
 refine hcall.mono ?_
 rintro e W64 ⟨rfl, hb⟩
 clear hcall
 have Z64 := Aside0.mk hb.size
 replace HO15_0 := bR HO15_0 hb
 replace HO15_1 := bR HO15_1 hb
 replace HO15_2 := bR HO15_2 hb
 replace HO43_0 := bR HO43_0 hb
 replace HO44_0 := bR HO44_0 hb
 replace HO45_0 := bR HO45_0 hb
 replace HO63_0 := bR HO63_0 hb
 replace BK1 := bK BK1 hb; replace c_BK1 := bcl BK1; replace z_BK1 := bfr BK1
 replace BK2 := bK BK2 hb; replace c_BK2 := bcl BK2; replace z_BK2 := bfr BK2
 replace BK15_10 := bK BK15_10 hb; replace c_BK15_10 := bcl BK15_10; replace z_BK15_10 := bfr BK15_10
 replace BK46 := bK BK46 hb; replace c_BK46 := bcl BK46; replace z_BK46 := bfr BK46
 replace BK51_7 := bK BK51_7 hb; replace c_BK51_7 := bcl BK51_7; replace z_BK51_7 := bfr BK51_7
 replace HB := bH HB hb; clear hb
 have H := H'.out
 clear H'
 replace H := ifD H; rcases H with ⟨c65, H⟩ | ⟨c65, H⟩
 rotate_left
 ·replace c65 : t704 = false := by simpa using c65
  subst c65
  cases H
  go_wp2
  go_ret
  exact ⟨rfl, HB.out⟩
 subst c65
 replace H := obs H
 obtain ⟨t705, hm, H⟩ := H
 (try dsimp only at H)
 have H' := Aside0.mk H
 clear H
 have hcall := laws_toFactS.calls k _ _ l1 t705 W64 (Kd.C_below HR1.out HB.out) HC1.out hm
 clear hm
 (go_wp2_with fail)
 refine hcall.mono ?_
 rintro e W66 ⟨v706, rfl, ho0, hb⟩
 clear hcall
 have Z66 := Aside0.mk hb.size
 replace HO15_0 := bR HO15_0 hb
 replace HO15_1 := bR HO15_1 hb
 replace HO15_2 := bR HO15_2 hb
 replace HO43_0 := bR HO43_0 hb
 replace HO44_0 := bR HO44_0 hb
 replace HO45_0 := bR HO45_0 hb
 replace HO63_0 := bR HO63_0 hb
 obtain ⟨A66_0, n66_0, c66_0, rfl, hn_, hr_⟩ := Go.Proofs.YtmgfklmhelabcaaGreatM.R_made ho0 HB.out.size
 clear hn_ ho0
 have HO66_0 := Aside0.mk hr_
 clear hr_
 replace BK1 := bK BK1 hb; replace c_BK1 := bcl BK1; replace z_BK1 := bfr BK1
 replace BK2 := bK BK2 hb; replace c_BK2 := bcl BK2; replace z_BK2 := bfr BK2
 replace BK15_10 := bK BK15_10 hb; replace c_BK15_10 := bcl BK15_10; replace z_BK15_10 := bfr BK15_10
 replace BK46 := bK BK46 hb; replace c_BK46 := bcl BK46; replace z_BK46 := bfr BK46
 replace BK51_7 := bK BK51_7 hb; replace c_BK51_7 := bcl BK51_7; replace z_BK51_7 := bfr BK51_7
 replace HB := bH HB hb; clear hb
 have H := H'.out
 clear H'
 replace H := obs H
 obtain ⟨t708, hm, H⟩ := H
 (try dsimp only at H)
 have H' := Aside0.mk H
 clear H
 have hcall := laws_eqFactS.calls k _ _ t677 _ _ t705 t708 W66 (Go.Proofs.YtmgfklmhelabcaaGreatM.R_C HO44_0.out) (Go.Proofs.YtmgfklmhelabcaaGreatM.R_len HO44_0.out) (Go.Proofs.YtmgfklmhelabcaaGreatM.R_C HO66_0.out) (Go.Proofs.YtmgfklmhelabcaaGreatM.R_len HO66_0.out) hm
 rw [Go.Proofs.YtmgfklmhelabcaaGreatM.R_n HO44_0.out, Go.Proofs.YtmgfklmhelabcaaGreatM.R_n HO66_0.out] at hcall
 clear hm
 (go_wp2_with fail)
 refine hcall.mono ?_
 rintro e W67 ⟨rfl, hb⟩
 clear hcall
 have Z67 := Aside0.mk hb.size
 replace HO15_0 := bR HO15_0 hb
 replace HO15_1 := bR HO15_1 hb
 replace HO15_2 := bR HO15_2 hb
 replace HO43_0 := bR HO43_0 hb
 replace HO44_0 := bR HO44_0 hb
 replace HO45_0 := bR HO45_0 hb
 replace HO63_0 := bR HO63_0 hb
 replace HO66_0 := bR HO66_0 hb
 replace BK1 := bK BK1 hb; replace c_BK1 := bcl BK1; replace z_BK1 := bfr BK1
 replace BK2 := bK BK2 hb; replace c_BK2 := bcl BK2; replace z_BK2 := bfr BK2
 replace BK15_10 := bK BK15_10 hb; replace c_BK15_10 := bcl BK15_10; replace z_BK15_10 := bfr BK15_10
 replace BK46 := bK BK46 hb; replace c_BK46 := bcl BK46; replace z_BK46 := bfr BK46
 replace BK51_7 := bK BK51_7 hb; replace c_BK51_7 := bcl BK51_7; replace z_BK51_7 := bfr BK51_7
 replace HB := bH HB hb; clear hb
 have H := H'.out
 clear H'
 replace H := ifD H; rcases H with ⟨c68, H⟩ | ⟨c68, H⟩
 rotate_left
 ·replace c68 : t708 = false := by simpa using c68
  subst c68
  cases H
  go_wp2
  go_ret
  exact ⟨rfl, HB.out⟩
 subst c68
 replace H := obs H
 obtain ⟨⟨t709, t710⟩, hm, H⟩ := H
 (try dsimp only at H)
 have HM69 := Aside0.mk hm
 clear hm
 replace H := obs H
 obtain ⟨t713, hm, H⟩ := H
 (try dsimp only at H)
 have HM70 := Aside0.mk hm
 clear hm
 have H' := Aside0.mk H
 clear H
 try go_wp2
 replace HO15_0 := dR HO15_0
 replace HO15_1 := dR HO15_1
 replace HO15_2 := dR HO15_2
 replace HO43_0 := dR HO43_0
 replace HO44_0 := dR HO44_0
 replace HO45_0 := dR HO45_0
 replace HO63_0 := dR HO63_0
 replace HO66_0 := dR HO66_0
 have h_ := blk_drew BK1.out
 clear BK1 c_BK1 z_BK1
 have BK1 := Aside0.mk h_
 clear h_
 have h_ := blk_drew BK2.out
 clear BK2 c_BK2 z_BK2
 have BK2 := Aside0.mk h_
 clear h_
 have h_ := blk_drew BK15_10.out
 clear BK15_10 c_BK15_10 z_BK15_10
 have BK15_10 := Aside0.mk h_
 clear h_
 have h_ := blk_drew BK46.out
 clear BK46 c_BK46 z_BK46
 have BK46 := Aside0.mk h_
 clear h_
 have h_ := blk_drew BK51_7.out
 clear BK51_7 c_BK51_7 z_BK51_7
 have BK51_7 := Aside0.mk h_
 clear h_
 replace HB := dH HB
 have Z71 : Aside0 (W67.heap.size ≤ W67.drew.heap.size) := ⟨Nat.le_refl _⟩
 refine start_ (n := 5) (S := fun w' => w'.cell? ⟨gb1, 0, none⟩ = some (.int .i64 a2_0) ∧ w'.cell? ⟨gb1, 1, none⟩ = some (.slice A2_1 l2_1.length c2_1) ∧ w'.cell? ⟨gb46, 0, none⟩ = some (.int .i64 t680) ∧ w'.cell? ⟨gb46, 1, none⟩ = some (.slice A45_0 n45_0 c45_0)) (ds := []) #[false, false, false, false, false] (by kernel_rfl) rfl rfl ⟨(blk_cell BK1.out 0).trans rfl, (blk_cell BK1.out 1).trans rfl, (blk_cell BK46.out 0).trans rfl, (blk_cell BK46.out 1).trans rfl⟩ (fun hHeld => ?_)
 generalize W67.drew = W71 at Z71 HB BK1 BK2 BK15_10 BK46 BK51_7 HO15_0 HO15_1 HO15_2 HO43_0 HO44_0 HO45_0 HO63_0 HO66_0 hHeld ⊢
 have c_BK1 := blk_cell BK1.out
 have z_BK1 := blk_frozen BK1.out
 have c_BK2 := blk_cell BK2.out
 have z_BK2 := blk_frozen BK2.out
 have c_BK15_10 := blk_cell BK15_10.out
 have z_BK15_10 := blk_frozen BK15_10.out
 have c_BK46 := blk_cell BK46.out
 have z_BK46 := blk_frozen BK46.out
 have c_BK51_7 := blk_cell BK51_7.out
 have z_BK51_7 := blk_frozen BK51_7.out
 refine taA 0 (some 69) #[true, false, false, false, false] hHeld ?_
 refine taA 1 (some 70) #[true, true, false, false, false] hHeld ?_
 refine one_ (i := 2) (N := some 71) #[true, true, true, false, false] rfl rfl (by kernel_rfl) (by decide) (fun K hK => ?_)
 have hcall := laws_toPolicy.calls k a2_0 _ _ l2_1 t709 t710 W71 (Kd.C_below HR2_1.out HB.out) HC2_1.out HM69.out
 refine goes_ Tryz.func20 (by kernel_rfl) rfl #[.agg #[.int .i64 a2_0, .slice A2_1 l2_1.length c2_1]] (by rfl) rfl rfl zM ?_
 refine hcall.mono ?_
 rintro e W72 ⟨v711, rfl, ho0, hb⟩
 refine ⟨_, rfl, ?_⟩
 clear hcall
 have Z72 := Aside0.mk hb.size
 replace HO15_0 := bR HO15_0 hb
 replace HO15_1 := bR HO15_1 hb
 replace HO15_2 := bR HO15_2 hb
 replace HO43_0 := bR HO43_0 hb
 replace HO44_0 := bR HO44_0 hb
 replace HO45_0 := bR HO45_0 hb
 replace HO63_0 := bR HO63_0 hb
 replace HO66_0 := bR HO66_0 hb
 obtain ⟨A72_0, n72_0, c72_0, rfl, hn_, hr_⟩ := Go.Proofs.YtmgfklmhelabcaaGreatM.R_made ho0 HB.out.size
 clear hn_ ho0
 have HO72_0 := Aside0.mk hr_
 clear hr_
 replace BK1 := bK BK1 hb; replace c_BK1 := bcl BK1; replace z_BK1 := bfr BK1
 replace BK2 := bK BK2 hb; replace c_BK2 := bcl BK2; replace z_BK2 := bfr BK2
 replace BK15_10 := bK BK15_10 hb; replace c_BK15_10 := bcl BK15_10; replace z_BK15_10 := bfr BK15_10
 replace BK46 := bK BK46 hb; replace c_BK46 := bcl BK46; replace z_BK46 := bfr BK46
 replace BK51_7 := bK BK51_7 hb; replace c_BK51_7 := bcl BK51_7; replace z_BK51_7 := bfr BK51_7
 replace HB := bH HB hb; clear hb
 refine hK.out _ _ ⟨(blk_cell BK1.out 0).trans rfl, (blk_cell BK1.out 1).trans rfl, (blk_cell BK46.out 0).trans rfl, (blk_cell BK46.out 1).trans rfl⟩ (fun hHeld => nrA 71 ?_)
 clear hK K
 refine one_ (i := 3) (N := some 72) #[true, true, true, true, false] rfl rfl (by kernel_rfl) (by decide) (fun K hK => ?_)
 have hcall := laws_eqPolicy.calls k t680 _ _ t681 t709 _ _ t710 t713 W72 (Go.Proofs.YtmgfklmhelabcaaGreatM.R_C HO45_0.out) (Go.Proofs.YtmgfklmhelabcaaGreatM.R_len HO45_0.out) (Go.Proofs.YtmgfklmhelabcaaGreatM.R_C HO72_0.out) (Go.Proofs.YtmgfklmhelabcaaGreatM.R_len HO72_0.out) HM70.out
 rw [Go.Proofs.YtmgfklmhelabcaaGreatM.R_n HO45_0.out, Go.Proofs.YtmgfklmhelabcaaGreatM.R_n HO72_0.out] at hcall
 refine goes_ Tryz.func25 (by kernel_rfl) rfl #[.agg #[.int .i64 t680, .slice A45_0 n45_0 c45_0], .agg #[.int .i64 t709, .slice A72_0 n72_0 c72_0]] (by rfl) rfl rfl zM ?_
 refine hcall.mono ?_
 rintro e W73 ⟨rfl, hb⟩
 refine ⟨_, rfl, ?_⟩
 clear hcall
 have Z73 := Aside0.mk hb.size
 replace HO15_0 := bR HO15_0 hb
 replace HO15_1 := bR HO15_1 hb
 replace HO15_2 := bR HO15_2 hb
 replace HO43_0 := bR HO43_0 hb
 replace HO44_0 := bR HO44_0 hb
 replace HO45_0 := bR HO45_0 hb
 replace HO63_0 := bR HO63_0 hb
 replace HO66_0 := bR HO66_0 hb
 replace HO72_0 := bR HO72_0 hb
 replace BK1 := bK BK1 hb; replace c_BK1 := bcl BK1; replace z_BK1 := bfr BK1
 replace BK2 := bK BK2 hb; replace c_BK2 := bcl BK2; replace z_BK2 := bfr BK2
 replace BK15_10 := bK BK15_10 hb; replace c_BK15_10 := bcl BK15_10; replace z_BK15_10 := bfr BK15_10
 replace BK46 := bK BK46 hb; replace c_BK46 := bcl BK46; replace z_BK46 := bfr BK46
 replace BK51_7 := bK BK51_7 hb; replace c_BK51_7 := bcl BK51_7; replace z_BK51_7 := bfr BK51_7
 replace HB := bH HB hb; clear hb
 refine hK.out _ _ ⟨(blk_cell BK1.out 0).trans rfl, (blk_cell BK1.out 1).trans rfl, (blk_cell BK46.out 0).trans rfl, (blk_cell BK46.out 1).trans rfl⟩ (fun hHeld => nrA 72 ?_)
 clear hK K
 refine puA 4 (some 73) #[true, true, true, true, true] ?_
 refine done_ (by kernel_rfl) ?_
 clear hHeld
 have H := H'.out
 clear H'
 replace H := ifD H; rcases H with ⟨c74, H⟩ | ⟨c74, H⟩
 ·subst c74
  cases H
  go_wp2
  go_ret
  exact ⟨rfl, HB.out⟩
 replace c74 : t713 = false := by simpa using c74
 subst c74
 cases H
 go_wp2
 go_ret
 exact ⟨rfl, HB.out⟩
section
open Go.Proofs.YtmgfklmhelabcaaGreatO
def g156 (x : S156) : Prop := (Lit.int .i64 x.f0).wf = true ∧ (Lit.int .i64 x.f1).wf = true
theorem opens156 (n : Nat) : Opens Tryz.prog 156 k156 g156 n :=
 opens_imp (opens_iso (fun x : S156 => (x.f0, x.f1)) (fun x => (⟨x.1, x.2⟩ : S156)) (fun _ => rfl) (opens_struct Tryz.underlying156 (by kernel_rfl) fun m _ => (fields_cons rfl (by kernel_rfl) (opens_int Tryz.underlying3 m) (fields_one rfl (by kernel_rfl) (opens_int Tryz.underlying3 m))))) (fun _ h => h)
def g158 (x : S158) : Prop := (Lit.int .i64 x.f0).wf = true ∧ (Lit.int .i64 x.f1).wf = true ∧ (Lit.int .i64 x.f2).wf = true ∧ (Lit.int .i64 x.f3).wf = true ∧ (Lit.int .i64 x.f4).wf = true ∧ (Lit.int .i64 x.f5).wf = true
theorem opens158 (n : Nat) : Opens Tryz.prog 158 k158 g158 n :=
 opens_imp (opens_iso (fun x : S158 => (x.f0, x.f1, x.f2, x.f3, x.f4, x.f5)) (fun x => (⟨x.1, x.2.1, x.2.2.1, x.2.2.2.1, x.2.2.2.2.1, x.2.2.2.2.2⟩ : S158)) (fun _ => rfl) (opens_struct Tryz.underlying158 (by kernel_rfl) fun m _ => (fields_cons rfl (by kernel_rfl) (opens_int Tryz.underlying3 m) (fields_cons rfl (by kernel_rfl) (opens_int Tryz.underlying3 m) (fields_cons rfl (by kernel_rfl) (opens_int Tryz.underlying3 m) (fields_cons rfl (by kernel_rfl) (opens_int Tryz.underlying3 m) (fields_cons rfl (by kernel_rfl) (opens_int Tryz.underlying3 m) (fields_one rfl (by kernel_rfl) (opens_int Tryz.underlying3 m))))))))) (fun _ h => h)
def GF188 (G : S188 → Prop) (x : S188) : Prop := (Lit.int .i64 x.f0).wf = true ∧ (Lit.int .i64 x.f1).wf = true ∧ (Lit.int .i64 x.f2).wf = true ∧ (x.f3.length ≤ maxLen ∧ ∀ y_ ∈ x.f3, G y_)
def g188 (x : S188) : Prop := ∃ k, Nat.rec (motive := fun _ => S188 → Prop) (fun _ => False) (fun _ G => GF188 G) k x
theorem gmono188 {G G' : S188 → Prop} (h : ∀ x, G x → G' x) (x : S188) (hx : GF188 G x) : GF188 G' x := by
 unfold GF188 at hx ⊢
 obtain ⟨h0, h1, h2, h3⟩ := hx
 exact ⟨h0, h1, h2, ⟨h3.1, fun y hy => h y (h3.2 y hy)⟩⟩
theorem opens188 (n : Nat) : Opens Tryz.prog 188 k188 g188 n :=
 opens_fix F188 4 [188] sz188 (Kd.upto_E sub188) GF188 (fun n d G hsz h => opens_imp (opens_iso (fun x : S188 => (x.f0, x.f1, x.f2, x.f3)) (fun x => (⟨x.1, x.2.1, x.2.2.1, x.2.2.2⟩ : S188)) (fun _ => rfl) (opens_struct Tryz.underlying188 (by first | (rw [show (Kd.pair _ _).sz = _ from rfl]; kernel_rfl) | kernel_rfl) fun m hm => have hd : Tryz.prog.cellsOf 188 = d.sz := (by rw [hsz]; kernel_rfl); (fields_cons rfl (by kernel_rfl) (opens_int Tryz.underlying3 m) (fields_cons rfl (by kernel_rfl) (opens_int Tryz.underlying3 m) (fields_cons rfl (by kernel_rfl) (opens_int Tryz.underlying3 m) (fields_one rfl (by kernel_rfl) (opens_slice Tryz.underlying186 hd fun m' hm' => h m' (Nat.lt_trans hm' hm)))))))) (fun _ h => h)) (fun e h => mono188.K _ _ e h) (fun h => gmono188 h) n
def g190 (x : S190) : Prop := (Lit.int .i64 x.f0).wf = true ∧ (Lit.int .i64 x.f1).wf = true ∧ (Lit.int .i64 x.f2).wf = true ∧ g188 x.f3
theorem opens190 (n : Nat) : Opens Tryz.prog 190 k190 g190 n :=
 opens_imp (opens_iso (fun x : S190 => (x.f0, x.f1, x.f2, x.f3)) (fun x => (⟨x.1, x.2.1, x.2.2.1, x.2.2.2⟩ : S190)) (fun _ => rfl) (opens_struct Tryz.underlying190 (by kernel_rfl) fun m _ => (fields_cons rfl (by kernel_rfl) (opens_int Tryz.underlying3 m) (fields_cons rfl (by kernel_rfl) (opens_int Tryz.underlying3 m) (fields_cons rfl (by kernel_rfl) (opens_int Tryz.underlying3 m) (fields_one rfl (by kernel_rfl) (opens188 m))))))) (fun _ h => h)
def g26 (x : S26) : Prop := (Lit.int .i64 x.f0).wf = true ∧ (x.f1.length ≤ maxLen ∧ ∀ y_ ∈ x.f1, g190 y_)
theorem opens26 (n : Nat) : Opens Tryz.prog 26 k26 g26 n :=
 opens_imp (opens_iso (fun x : S26 => (x.f0, x.f1)) (fun x => (⟨x.1, x.2⟩ : S26)) (fun _ => rfl) (opens_struct Tryz.underlying26 (by kernel_rfl) fun m _ => (fields_cons rfl (by kernel_rfl) (opens_int Tryz.underlying3 m) (fields_one rfl (by kernel_rfl) (opens_slice Tryz.underlying24 (by kernel_rfl) fun m _ => (opens190 m)))))) (fun _ h => h)
def g28 (x : S28) : Prop := (Lit.int .i64 x.f0).wf = true ∧ (Lit.int .i64 x.f1).wf = true ∧ (Lit.int .i64 x.f2).wf = true ∧ (Lit.int .i64 x.f3).wf = true ∧ (Lit.int .i64 x.f4).wf = true ∧ (Lit.int .i64 x.f5).wf = true
theorem opens28 (n : Nat) : Opens Tryz.prog 28 k28 g28 n :=
 opens_imp (opens_iso (fun x : S28 => (x.f0, x.f1, x.f2, x.f3, x.f4, x.f5)) (fun x => (⟨x.1, x.2.1, x.2.2.1, x.2.2.2.1, x.2.2.2.2.1, x.2.2.2.2.2⟩ : S28)) (fun _ => rfl) (opens_struct Tryz.underlying28 (by kernel_rfl) fun m _ => (fields_cons rfl (by kernel_rfl) (opens_int Tryz.underlying3 m) (fields_cons rfl (by kernel_rfl) (opens_int Tryz.underlying3 m) (fields_cons rfl (by kernel_rfl) (opens_int Tryz.underlying3 m) (fields_cons rfl (by kernel_rfl) (opens_int Tryz.underlying3 m) (fields_cons rfl (by kernel_rfl) (opens_int Tryz.underlying3 m) (fields_one rfl (by kernel_rfl) (opens_int Tryz.underlying3 m))))))))) (fun _ h => h)
end
def laws_FnExactSaveDecision.Pure : Prop := ∀ (l0 : List (S156)) (l1 : List (S158)) (x2 : S26) (x3 : S28) (a4 : Int), l0.length ≤ maxLen → (∀ y_ ∈ l0, g156 y_) → l1.length ≤ maxLen → (∀ y_ ∈ l1, g158 y_) → g26 x2 → g28 x3 → (Lit.int .i64 a4).wf = true → ∃ k, laws_FnExactSaveDecision.f k l0 l1 x2.f0 x2.f1 x3.f0 x3.f1 x3.f2 x3.f3 x3.f4 x3.f5 a4 = some true
end Go.Proofs.YtmgfklmhelabcaaGreat.QFnExactSaveDecision
