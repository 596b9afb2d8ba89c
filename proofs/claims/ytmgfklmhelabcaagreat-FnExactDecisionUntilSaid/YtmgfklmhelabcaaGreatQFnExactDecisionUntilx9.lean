/- The machine side of FnExactDecisionUntil: what each function that it reaches computes, and that the machine's call gives just that. -/
import Derived.Test.YtmgfklmhelabcaaGreatQFnExactDecisionUntilx0
import Derived.Test.YtmgfklmhelabcaaGreatQFnExactDecisionUntilx1
import Derived.Test.YtmgfklmhelabcaaGreatQFnExactDecisionUntilx3
import Derived.Test.YtmgfklmhelabcaaGreatQFnExactDecisionUntilx8
namespace Go.Proofs.YtmgfklmhelabcaaGreat.QFnExactDecisionUntil
open Go.RowKit Go.Proofs.YtmgfklmhelabcaaGreatW.PrintWords Go.Proofs.YtmgfklmhelabcaaGreatW.PrintLast Go.Proofs.YtmgfklmhelabcaaGreatW.PrintMore
attribute [local go_sem] max2_int min2_int max_two min_two max_three min_three max_four min_four
set_option maxHeartbeats 8000000
set_option maxRecDepth 100000
open Go.Proofs.YtmgfklmhelabcaaGreatM
set_option linter.unusedVariables false
set_option linter.unusedSimpArgs false
def spec_DecisionUntil.l0 : Nat → List (S154) → List (S136) → Int → Int → Int → Int → List (S174) → Int → Int → Int → Int → Int → Int → Option (Int)
 | 0, _, _, _, _, _, _, _, _, _, _, _, _, _ => none
 | k + 1, x0, x1, x4, x11, x12, x301000, x301001, x302000, x302001, x302002, x302003, x302004, x302005 => if x12 < (wrap64 (x302005 + x4)) then (if x12 < 10000 then ((spec_AtTime.f x302000 x302001 x302002 x302003 x302004 x302005 (wrap64 (x12 + 1))).bind fun bt306 => ((spec_DecideBy.f k x0 x1 x301000 x301001 bt306.1 bt306.2.1 bt306.2.2.1 bt306.2.2.2.1 bt306.2.2.2.2.1 bt306.2.2.2.2.2).bind fun t312 => (if t312 = x11 then (spec_DecisionUntil.l0 k x0 x1 x4 x11 (wrap64 (x12 + 1)) x301000 x301001 x302000 x302001 x302002 x302003 x302004 x302005) else (some x12)))) else (some x12)) else (some x12)
def spec_DecisionUntil.f (k : Nat) (l0 : List (S154)) (l1 : List (S136)) (a2_0 : Int) (l2_1 : List (S174)) (a3_0 : Int) (a3_1 : Int) (a3_2 : Int) (a3_3 : Int) (a3_4 : Int) (a3_5 : Int) (a4 : Int) : Option (Int) := (spec_IsRequest.f a3_0 a3_1 a3_2 a3_3 a3_4 a3_5).bind fun t302 => (if t302 = true then ((spec_IsPolicy.f k a2_0 l2_1).bind fun t303 => (if t303 = true then ((spec_l1In.f a4 0 60).bind fun t304 => (if t304 = true then ((spec_DecideBy.f k l0 l1 a2_0 l2_1 a3_0 a3_1 a3_2 a3_3 a3_4 a3_5).bind fun t305 => (spec_DecisionUntil.l0 k l0 l1 a4 t305 a3_5 a2_0 l2_1 a3_0 a3_1 a3_2 a3_3 a3_4 a3_5)) else (some a3_5))) else (some a3_5))) else (some a3_5))
theorem spec_DecisionUntil.calls (k : Nat) (A0 : Option Addr) (c0 : Nat) (l0 : List (S154)) (A1 : Option Addr) (c1 : Nat) (l1 : List (S136)) (a2_0 : Int) (A2_1 : Option Addr) (c2_1 : Nat) (l2_1 : List (S174)) (a3_0 : Int) (a3_1 : Int) (a3_2 : Int) (a3_3 : Int) (a3_4 : Int) (a3_5 : Int) (a4 : Int) (r : Int) (w : World) (hr0 : Kd.C k154 w A0 l0.length l0) (hc0 : l0.length ≤ c0) (hr1 : Kd.C k136 w A1 l1.length l1) (hc1 : l1.length ≤ c1) (hr2_1 : Kd.C k174 w A2_1 l2_1.length l2_1) (hc2_1 : l2_1.length ≤ c2_1) (h : spec_DecisionUntil.f k l0 l1 a2_0 l2_1 a3_0 a3_1 a3_2 a3_3 a3_4 a3_5 a4 = some r) :
  Calls Tryz.prog 17 #[.slice A0 l0.length c0, .slice A1 l1.length c1, .agg #[.int .i64 a2_0, .slice A2_1 l2_1.length c2_1], .agg #[.int .i64 a3_0, .int .i64 a3_1, .int .i64 a3_2, .int .i64 a3_3, .int .i64 a3_4, .int .i64 a3_5], .int .i64 a4] w fun e w' => e = .returned (.int .i64 r) ∧ Below w.heap.size w w' := by
 have HR0 := Aside0.mk hr0
 have HC0 := Aside0.mk hc0
 clear hr0 hc0
 have HR1 := Aside0.mk hr1
 have HC1 := Aside0.mk hc1
 clear hr1 hc1
 have HR2_1 := Aside0.mk hr2_1
 have HC2_1 := Aside0.mk hc2_1
 clear hr2_1 hc2_1
 have HB := Aside0.mk (Below.refl w.heap.size w)
 have H := h
 clear h
 unfold spec_DecisionUntil.f at H
 have hu39 := Tryz.underlying39
 have hu41 := Tryz.underlying41
 go_enter Tryz.func17, Tryz.ntmps17
 replace H := Aside0.mk H
 go_upto_region 1 with (first | ((with_reducible refine gate_dst (N := 7) rfl ?_); refine box_event ?hg (N := 7) ?hd (cs := #[.int .i64 a2_0, .slice A2_1 l2_1.length c2_1]) (t := 39) ?hr ?_; (case hd => rfl); (case hg => rfl); (case hr => first | (go_simp; done) | (go_simp; rfl)); intro gb1 hg W1 hbox hb; replace HB := bH HB hb; clear hb; have BK1 := Aside0.mk hbox; have c_BK1 := blk_cell hbox; have z_BK1 := blk_frozen hbox; clear hg hbox) | ((with_reducible refine gate_dst (N := 8) rfl ?_); refine box_event ?hg (N := 8) ?hd (cs := #[.int .i64 a3_0, .int .i64 a3_1, .int .i64 a3_2, .int .i64 a3_3, .int .i64 a3_4, .int .i64 a3_5]) (t := 41) ?hr ?_; (case hd => rfl); (case hg => rfl); (case hr => first | (go_simp; done) | (go_simp; rfl)); intro gb2 hg W2 hbox hb; replace BK1 := bK BK1 hb; replace c_BK1 := bcl BK1; replace z_BK1 := bfr BK1; replace HB := bH HB hb; clear hb; have BK2 := Aside0.mk hbox; have c_BK2 := blk_cell hbox; have z_BK2 := blk_frozen hbox; clear hg hbox))
 replace H := H.out
 replace H := obs H
 obtain ⟨t302, hm, H⟩ := H
 (try dsimp only at H)
 replace H := Aside0.mk H
 have hcall := spec_IsRequest.calls _ _ _ _ _ _ _ W2  hm
 clear hm
 (go_wp2_with fail)
 refine hcall.mono ?_
 rintro e W3 ⟨rfl, hb⟩
 clear hcall
 replace BK1 := bK BK1 hb; replace c_BK1 := bcl BK1; replace z_BK1 := bfr BK1
 replace BK2 := bK BK2 hb; replace c_BK2 := bcl BK2; replace z_BK2 := bfr BK2
 replace HB := bH HB hb; clear hb
 replace H := ifD H.out; rcases H with ⟨c4, H⟩ | ⟨c4, H⟩
 rotate_left
 ·replace c4 := nT c4
  subst c4
  cases H
  go_wp2
  go_ret
  exact ⟨rfl, HB.out⟩
 subst c4
 replace H := obs H
 obtain ⟨t303, hm, H⟩ := H
 (try dsimp only at H)
 replace H := Aside0.mk H
 have hcall := spec_IsPolicy.calls k _ _ _ _ _ W3 (Kd.C_below HR2_1.out HB.out) HC2_1.out hm
 clear hm
 (go_wp2_with fail)
 refine hcall.mono ?_
 rintro e W5 ⟨rfl, hb⟩
 clear hcall
 replace BK1 := bK BK1 hb; replace c_BK1 := bcl BK1; replace z_BK1 := bfr BK1
 replace BK2 := bK BK2 hb; replace c_BK2 := bcl BK2; replace z_BK2 := bfr BK2
 replace HB := bH HB hb; clear hb
 replace H := ifD H.out; rcases H with ⟨c6, H⟩ | ⟨c6, H⟩
 rotate_left
 ·replace c6 := nT c6
  subst c6
  cases H
  go_wp2
  go_ret
  exact ⟨rfl, HB.out⟩
 subst c6
 replace H := obs H
 obtain ⟨t304, hm, H⟩ := H
 (try dsimp only at H)
 replace H := Aside0.mk H
 have hcall := spec_l1In.calls _ _ _ _ W5  hm
 clear hm
 (go_wp2_with fail)
 refine hcall.mono ?_
 rintro e W7 ⟨rfl, hb⟩
 clear hcall
 replace BK1 := bK BK1 hb; replace c_BK1 := bcl BK1; replace z_BK1 := bfr BK1
 replace BK2 := bK BK2 hb; replace c_BK2 := bcl BK2; replace z_BK2 := bfr BK2
 replace HB := bH HB hb; clear hb
 replace H := ifD H.out; rcases H with ⟨c8, H⟩ | ⟨c8, H⟩
 rotate_left
 ·replace c8 := nT c8
  subst c8
  cases H
  go_wp2
  go_ret
  exact ⟨rfl, HB.out⟩
 subst c8
 replace H := obs H
 obtain ⟨t305, hm, H⟩ := H
 (try dsimp only at H)
 replace H := Aside0.mk H
 have hcall := spec_DecideBy.calls k _ _ _ _ _ _ _ _ _ _ _ _ _ _ _ _ _ W7 (Kd.C_below HR0.out HB.out) HC0.out (Kd.C_below HR1.out HB.out) HC1.out (Kd.C_below HR2_1.out HB.out) HC2_1.out hm
 clear hm
 (go_wp2_with fail)
 refine hcall.mono ?_
 rintro e W9 ⟨rfl, hb⟩
 clear hcall
 replace BK1 := bK BK1 hb; replace c_BK1 := bcl BK1; replace z_BK1 := bfr BK1
 replace BK2 := bK BK2 hb; replace c_BK2 := bcl BK2; replace z_BK2 := bfr BK2
 replace HB := bH HB hb; clear hb
 go_wp2
 go_loopg [12] k (fun kq v12 w' => ∃ (x12_10 : Int), v12 = .int .i64 x12_10 ∧ Aside0 (spec_DecisionUntil.l0 kq l0 l1 a4 t305 x12_10 a2_0 l2_1 a3_0 a3_1 a3_2 a3_3 a3_4 a3_5 = some r) ∧ Aside0 (kq ≤ k) ∧ Aside0 (w'.heap[gb1]? = some (.cells #[.int .i64 a2_0, .slice A2_1 l2_1.length c2_1] 39 (0, 0))) ∧ Aside0 (w'.heap[gb2]? = some (.cells #[.int .i64 a3_0, .int .i64 a3_1, .int .i64 a3_2, .int .i64 a3_3, .int .i64 a3_4, .int .i64 a3_5] 41 (0, 0))) ∧ Aside0 (Below w.heap.size w w'))
 case atStart => exact ⟨(a3_5), (by first | rfl | (simp; done) | (simp [*]; done)), H, ⟨Nat.le_refl _⟩, BK1, BK2, HB⟩
 case round =>
  clear H HB BK1 c_BK1 z_BK1 BK2 c_BK2 z_BK2
  obtain ⟨x12_10, rfl, HA, Hk10, BK1, BK2, HB⟩ := hrel
  have c_BK1 := bcl BK1; have z_BK1 := bfr BK1
  have c_BK2 := bcl BK2; have z_BK2 := bfr BK2
  cases gk with
  | zero => exact absurd HA.out (by simp [spec_DecisionUntil.l0])
  | succ k10 =>
   have H := HA.out; clear HA; simp only [spec_DecisionUntil.l0] at H; replace H := Aside0.mk H; try go_wp2
   clear c_BK1 z_BK1; have rBK1 := BK1; replace BK1 := dK BK1; clear c_BK2 z_BK2; have rBK2 := BK2; replace BK2 := dK BK2; have HBr := HB; replace HB := dH HB; refine stA (n := 22) (S := fun w' => Below wr.heap.size wr w') (by kernel_rfl) rfl (below_drew1 (Below.refl _ wr)) (by kernel_rfl) (fun hHeld => ?_); generalize wr.drew = W11 at HB BK1 BK2 hHeld ⊢; refine pu 0 (some 35) 1 ?_; refine pu 1 (some 36) 3 ?_; refine pu 3 (some 38) 11 ?_; refine ld 2 (some 37) 15 hHeld ?_ (hr := by (intro w' h_; have y_ := kD rBK2 h_; go_simp; with_reducible rfl)); refine pu 4 (some 39) 31 ?_; replace H := ifD H.out; rcases H with ⟨c12, H⟩ | ⟨c12, H⟩; rotate_left
   ·have c12_0 := decF c12; replace c12 := Aside0.mk c12; (try rw [c12_0]); replace H := Aside0.mk H; refine pu 5 (some 40) 63 ?_; refine pu 6 (some 41) 127 ?_; refine sk 7 (some 42) 255 ?_; refine sk 8 (some 43) 511 ?_; refine pu 9 (some 44) 1023 ?_; refine pu 10 (some 45) 2047 ?_; refine sk 11 (some 46) 4095 ?_; refine sk 12 (some 47) 8191 ?_; refine sk 13 (some 48) 16383 ?_; refine sk 14 (some 49) 32767 ?_; refine sk 15 (some 50) 65535 ?_; refine sk 16 (some 51) 131071 ?_; refine sk 17 (some 52) 262143 ?_; refine sk 18 (some 53) 524287 ?_; refine sk 19 (some 54) 1048575 ?_; refine sk 20 (some 55) 2097151 ?_; refine pu 21 (some 56) 4194303 ?_; refine dn (by kernel_rfl) ?_; clear hHeld HBr rBK1 rBK2; have c_BK1 := bcl BK1; have z_BK1 := bfr BK1; have c_BK2 := bcl BK2; have z_BK2 := bfr BK2; replace H := H.out; cases H; go_wp2; go_ret; exact ⟨rfl, HB.out⟩
   have c12_0 := decT c12; replace c12 := Aside0.mk c12; (try rw [c12_0]); replace H := ifD H; rcases H with ⟨c13, H⟩ | ⟨c13, H⟩; rotate_left
   ·have c13_0 := decF c13; replace c13 := Aside0.mk c13; (try rw [c13_0]); replace H := Aside0.mk H; refine pu 5 (some 40) 63 ?_; refine pu 6 (some 41) 127 ?_; refine pu 7 (some 42) 255 ?_; refine pu 8 (some 43) 511 ?_; refine pu 9 (some 44) 1023 ?_; refine pu 10 (some 45) 2047 ?_; refine sk 11 (some 46) 4095 ?_; refine sk 12 (some 47) 8191 ?_; refine sk 13 (some 48) 16383 ?_; refine sk 14 (some 49) 32767 ?_; refine sk 15 (some 50) 65535 ?_; refine sk 16 (some 51) 131071 ?_; refine sk 17 (some 52) 262143 ?_; refine sk 18 (some 53) 524287 ?_; refine sk 19 (some 54) 1048575 ?_; refine sk 20 (some 55) 2097151 ?_; refine pu 21 (some 56) 4194303 ?_; refine dn (by kernel_rfl) ?_; clear hHeld HBr rBK1 rBK2; have c_BK1 := bcl BK1; have z_BK1 := bfr BK1; have c_BK2 := bcl BK2; have z_BK2 := bfr BK2; replace H := H.out; cases H; go_wp2; go_ret; exact ⟨rfl, HB.out⟩
   have c13_0 := decT c13; replace c13 := Aside0.mk c13; (try rw [c13_0]); replace H := obs H; obtain ⟨⟨t306, t307, t308, t309, t310, t311⟩, hm, H⟩ := H; (try dsimp only at H); replace hm := Aside0.mk hm; replace H := Aside0.mk H; refine pu 5 (some 40) 63 ?_; refine pu 6 (some 41) 127 ?_; refine pu 7 (some 42) 255 ?_; refine pu 8 (some 43) 511 ?_; refine pu 9 (some 44) 1023 ?_; refine pu 10 (some 45) 2047 ?_; refine pu 11 (some 46) 4095 ?_; refine pu 12 (some 47) 8191 ?_; refine pu 15 (some 50) 40959 ?_; refine pu 16 (some 51) 106495 ?_; refine ld 13 (some 48) 114687 hHeld ?_ (hr := by (intro w' h_; have y_ := kD rBK1 h_; go_simp; with_reducible rfl)); refine ld 14 (some 49) 131071 hHeld ?_ (hr := by (intro w' h_; have y_ := kD rBK2 h_; go_simp; with_reducible rfl)); refine pu 19 (some 54) 655359 ?_; refine on 17 (some 52) 786431 (fun K hK => ?_); have hcall := spec_AtTime.calls _ _ _ _ _ _ _ _ _ _ _ _ _ W11  hm.out; refine goes_ Tryz.func95 (by kernel_rfl) rfl #[.agg #[.int .i64 a3_0, .int .i64 a3_1, .int .i64 a3_2, .int .i64 a3_3, .int .i64 a3_4, .int .i64 a3_5], .int .i64 (wrap64 (x12_10 + 1))] (by rfl) rfl rfl (by (try simp only [List.map_toArray, List.map_cons, List.map_nil]); first | done | rfl) ?_; refine hcall.mono ?_; rintro e W15 ⟨rfl, hb⟩; refine ⟨_, rfl, ?_⟩; clear hcall hm; replace hHeld := below_step hHeld hb; replace BK1 := bK BK1 hb; replace BK2 := bK BK2 hb; replace HB := bH HB hb; clear hb; refine hK.out _ _ hHeld (fun hHeld => ?_); clear hK K; refine nr 52 ?_; replace H := H.out; replace H := obs H; obtain ⟨t312, hm, H⟩ := H; (try dsimp only at H); replace hm := Aside0.mk hm; replace H := Aside0.mk H; refine on 18 (some 53) 1048575 (fun K hK => ?_); have hcall := spec_DecideBy.calls k10 _ _ _ _ _ _ _ _ _ _ _ _ _ _ _ _ _ W15 (Kd.C_below HR0.out HB.out) HC0.out (Kd.C_below HR1.out HB.out) HC1.out (Kd.C_below HR2_1.out HB.out) HC2_1.out hm.out; refine goes_ Tryz.func94 (by kernel_rfl) rfl #[.slice A0 l0.length c0, .slice A1 l1.length c1, .agg #[.int .i64 a2_0, .slice A2_1 l2_1.length c2_1], .agg #[.int .i64 t306, .int .i64 t307, .int .i64 t308, .int .i64 t309, .int .i64 t310, .int .i64 t311]] (by rfl) rfl rfl (by (try simp only [List.map_toArray, List.map_cons, List.map_nil]); first | done | rfl) ?_; refine hcall.mono ?_; rintro e W17 ⟨rfl, hb⟩; refine ⟨_, rfl, ?_⟩; clear hcall hm; replace hHeld := below_step hHeld hb; replace BK1 := bK BK1 hb; replace BK2 := bK BK2 hb; replace HB := bH HB hb; clear hb; refine hK.out _ _ hHeld (fun hHeld => ?_); clear hK K; refine nr 53 ?_; refine pu 20 (some 55) 2097151 ?_; refine pu 21 (some 56) 4194303 ?_; refine dn (by kernel_rfl) ?_; clear hHeld HBr rBK1 rBK2; have c_BK1 := bcl BK1; have z_BK1 := bfr BK1; have c_BK2 := bcl BK2; have z_BK2 := bfr BK2; replace H := ifD H.out; rcases H with ⟨c18, H⟩ | ⟨c18, H⟩; rotate_left
   ·obtain ⟨c18_0, c18_1, c18_2⟩ := d3F c18; clear c18; (first | rw [c18_1] | rw [c18_2] | skip); cases H; go_wp2; go_ret; exact ⟨rfl, HB.out⟩
   obtain ⟨c18_0, c18_1, c18_2⟩ := d3T c18; clear c18; (first | rw [c18_1] | rw [c18_2] | skip); replace H := Aside0.mk H; go_wp2; go_roundg k10
   case measure => have := Hk10.out; omega
   case rel => exact ⟨(wrap64 (x12_10 + 1)), (by first | rfl | (simp; done) | (simp [*]; done)), H, ⟨by have := Hk10.out; omega⟩, BK1, BK2, HB⟩
def laws_toIncludes.f (a0_0 : Int) (a0_1 : Int) : Option (Int × Int) := some (a0_0, a0_1)
theorem laws_toIncludes.calls (a0_0 : Int) (a0_1 : Int) (r1 : Int) (r2 : Int) (w : World) (h : laws_toIncludes.f a0_0 a0_1 = some (r1, r2)) :
  Calls Tryz.prog 96 #[.agg #[.int .i64 a0_0, .int .i64 a0_1]] w fun e w' => e = .returned (.agg #[.int .i64 r1, .int .i64 r2]) ∧ Below w.heap.size w w' := by
 have hu154 := Tryz.underlying154; have hu156 := Tryz.underlying156
 unfold laws_toIncludes.f at h
 simp only [Option.some.injEq, Prod.mk.injEq] at h
 obtain ⟨rfl, rfl⟩ := h
 go_enter Tryz.func96, Tryz.ntmps96
 go_wp2
 exact bodyPost_ret (v := .agg #[.int .i64 a0_0, .int .i64 a0_1]) (by simp [results, Tryz.results96, go_sem]) rfl ⟨rfl, by repeat (first | exact Below.refl _ _ | apply below_alloc | refine bSet ?_ (by omega))⟩
def laws_toIncludesS.l0 : Nat → List (S156) → List (S154) → Int → Option ((List (S154)))
 | 0, _, _, _ => none
 | k + 1, x0, x3, x4 => if x4 < (x0.length : Int) then (if 0 ≤ x4 then ((laws_toIncludes.f ((rd_T156 x0 x4).f0) ((rd_T156 x0 x4).f1)).bind fun bt323 => (if x4 < (x3.length : Int) then (laws_toIncludesS.l0 k x0 (x3.set (x4 : Int).toNat (⟨bt323.1, bt323.2⟩ : S154)) (wrap64 (x4 + 1))) else (none))) else (none)) else (some x3)
def laws_toIncludesS.f (k : Nat) (l0 : List (S156)) : Option ((List (S154))) := if 0 ≤ (l0.length : Int) then (if ((l0.length : Int) : Int).toNat ≤ 17592186044416 then (laws_toIncludesS.l0 k l0 (List.replicate ((l0.length : Int) : Int).toNat z154) 0) else (none)) else (none)
theorem laws_toIncludesS.calls (k : Nat) (A0 : Option Addr) (c0 : Nat) (l0 : List (S156)) (r : List (S154)) (w : World) (hr0 : Kd.C k156 w A0 l0.length l0) (hc0 : l0.length ≤ c0) (h : laws_toIncludesS.f k l0 = some r) :
  Calls Tryz.prog 18 #[.slice A0 l0.length c0] w fun e w' => ∃ v0_ : Value, e = .returned (v0_) ∧ Kd.R k154 154 w' w.heap.size (fun _ => True) v0_ r ∧ Below w.heap.size w w' := by
 have hu156 := Tryz.underlying156; have hu154 := Tryz.underlying154
 have HR := Aside0.mk hr0; clear hr0
 have HB := Aside0.mk (Below.refl w.heap.size w)
 unfold laws_toIncludesS.f at h
 replace h := ifN h; obtain ⟨c2, h⟩ := h; replace c2 := Aside0.mk c2; replace h := ifN h; obtain ⟨c3, h⟩ := h; replace c3 := Aside0.mk c3
 obtain ⟨ys, hy⟩ : ∃ y_, y_ = (List.replicate ((l0.length : Int) : Int).toNat z154) := ⟨_, rfl⟩
 rw [← hy] at h; replace hy := Aside0.mk hy; replace h := Aside0.mk h
 go_enter Tryz.func18, Tryz.ntmps18
 go_wp2_with (first | ((with_reducible refine gate_dst (N := 7) rfl ?_); refine Kd.R_make k154 _ 154 rfl (N := 7) rfl 33 _ _ rfl (l0.length : Int) rfl rfl Tryz.underlying33 (.agg #[(.int .i64 0), (.int .i64 0)]) 16 info154 rfl (by decide) (by omega) z154 (ok := fun _ => True) (okp := fun _ => True) (k154_mkM _ _ _ z154 ) (fun _ hk => hk) trivial c2.out (Nat.le_trans (Nat.mul_le_mul_right _ c3.out) (by omega)) (Below.refl _ _) (Nat.le_refl _) ?_; intro v W1 ho hb _ _; rw [← hy.out] at ho; have O := Aside0.mk (Kd.R_lower ho (below_size HB.out)); replace HB := Aside0.mk (below_step HB.out hb); clear hb ho))
 go_loopg [4] k (fun kq v4 w' => ∃ (xs : List S154) (i : Int), v4 = .int .i64 i ∧ Aside0 (laws_toIncludesS.l0 kq l0 xs i = some r) ∧ Aside0 (kq ≤ k) ∧ Aside0 (Kd.R k154 154 w' w.heap.size (fun _ => True) v xs) ∧ Aside0 (Below w.heap.size w w'))
 case atStart => exact ⟨_, 0, rfl, h, ⟨Nat.le_refl _⟩, O, HB⟩
 case round =>
  clear h O HB c2 c3
  obtain ⟨xs, i, rfl, H, Hk, O, HB⟩ := hrel
  cases gk with
  | zero => exact absurd H.out (by simp [laws_toIncludesS.l0])
  | succ k1 =>
   have h := H.out; clear H; simp only [laws_toIncludesS.l0] at h; replace h := ifD h; rcases h with ⟨c, h⟩ | ⟨c, h⟩; rotate_left
   ·have d1 := decF c; clear c; obtain rfl := Option.some.inj h; go_wp2; go_ret; exact ⟨_, rfl, O.out, HB.out⟩
   have d1 := decT c; replace h := ifN h; obtain ⟨c7, h⟩ := h; replace h := Option.bind_eq_some_iff.mp h; obtain ⟨⟨t323, t324⟩, m, h⟩ := h; try dsimp only at h
   replace h := ifN h; obtain ⟨c9, h⟩ := h; replace h := Aside0.mk h; replace m := Aside0.mk m; obtain ⟨ad, e_, x0, x1⟩ := at_T156 HR.out i c7 c; cases e_; replace x0 := xC HB ⟨x0⟩; replace x1 := xC HB ⟨x1⟩; obtain ⟨g, co, eo, hg, hq, -, -⟩ := Kd.R_form O.out (by omega); cases eo; have e1 := eq_true c; have e2 := eq_true c7; have e3 := eq_true c9; replace c := Aside0.mk c; replace c7 := Aside0.mk c7; replace c9 := Aside0.mk c9; replace hg := Aside0.mk hg; replace hq := Aside0.mk hq; go_wp2_with (first | (go_at_call 96; refine (laws_toIncludes.calls _ _ t323 t324 _  m.out).mono ?_; rintro e W2 ⟨rfl, hb⟩; obtain ⟨hc, hf, HP⟩ := R_fill O.out hb c7.out c9.out z154 (seg := [.int .i64 t323, .int .i64 t324]) 2 rfl rfl hq.out (k154_mkM _ _ _ (⟨t323, t324⟩ : S154)); obtain ⟨_, y0⟩ := hc 0 (by decide); have q0 := hf 0; obtain ⟨_, y1⟩ := hc 1 (by decide); have q1 := hf 1; simp only [Nat.add_zero] at y0 q0; replace HP := Aside0.mk HP; replace HB := Aside0.mk (below_step HB.out hb); clear hb hc hf O ))
   go_roundg k1
   case measure => have := Hk.out; omega
   case rel => exact ⟨_, _, rfl, h, ⟨by have := Hk.out; omega⟩, HP, ⟨below_set (below_set (HB.out) hg.out) hg.out⟩⟩
def laws_toFact.f (a0_0 : Int) (a0_1 : Int) (a0_2 : Int) (a0_3 : Int) (a0_4 : Int) (a0_5 : Int) : Option (Int × Int × Int × Int × Int × Int) := some (a0_0, a0_1, a0_2, a0_3, a0_4, a0_5)
theorem laws_toFact.calls (a0_0 : Int) (a0_1 : Int) (a0_2 : Int) (a0_3 : Int) (a0_4 : Int) (a0_5 : Int) (r1 : Int) (r2 : Int) (r3 : Int) (r4 : Int) (r5 : Int) (r6 : Int) (w : World) (h : laws_toFact.f a0_0 a0_1 a0_2 a0_3 a0_4 a0_5 = some (r1, r2, r3, r4, r5, r6)) :
  Calls Tryz.prog 97 #[.agg #[.int .i64 a0_0, .int .i64 a0_1, .int .i64 a0_2, .int .i64 a0_3, .int .i64 a0_4, .int .i64 a0_5]] w fun e w' => e = .returned (.agg #[.int .i64 r1, .int .i64 r2, .int .i64 r3, .int .i64 r4, .int .i64 r5, .int .i64 r6]) ∧ Below w.heap.size w w' := by
 have hu136 := Tryz.underlying136; have hu158 := Tryz.underlying158
 unfold laws_toFact.f at h
 simp only [Option.some.injEq, Prod.mk.injEq] at h
 obtain ⟨rfl, rfl, rfl, rfl, rfl, rfl⟩ := h
 go_enter Tryz.func97, Tryz.ntmps97
 go_wp2
 exact bodyPost_ret (v := .agg #[.int .i64 a0_0, .int .i64 a0_1, .int .i64 a0_2, .int .i64 a0_3, .int .i64 a0_4, .int .i64 a0_5]) (by simp [results, Tryz.results97, go_sem]) rfl ⟨rfl, by repeat (first | exact Below.refl _ _ | apply below_alloc | refine bSet ?_ (by omega))⟩
def laws_toFactS.l0 : Nat → List (S158) → List (S136) → Int → Option ((List (S136)))
 | 0, _, _, _ => none
 | k + 1, x0, x3, x4 => if x4 < (x0.length : Int) then (if 0 ≤ x4 then ((laws_toFact.f ((rd_T158 x0 x4).f0) ((rd_T158 x0 x4).f1) ((rd_T158 x0 x4).f2) ((rd_T158 x0 x4).f3) ((rd_T158 x0 x4).f4) ((rd_T158 x0 x4).f5)).bind fun bt343 => (if x4 < (x3.length : Int) then (laws_toFactS.l0 k x0 (x3.set (x4 : Int).toNat (⟨bt343.1, bt343.2.1, bt343.2.2.1, bt343.2.2.2.1, bt343.2.2.2.2.1, bt343.2.2.2.2.2⟩ : S136)) (wrap64 (x4 + 1))) else (none))) else (none)) else (some x3)
def laws_toFactS.f (k : Nat) (l0 : List (S158)) : Option ((List (S136))) := if 0 ≤ (l0.length : Int) then (if ((l0.length : Int) : Int).toNat ≤ 5864062014805 then (laws_toFactS.l0 k l0 (List.replicate ((l0.length : Int) : Int).toNat z136) 0) else (none)) else (none)
theorem laws_toFactS.calls (k : Nat) (A0 : Option Addr) (c0 : Nat) (l0 : List (S158)) (r : List (S136)) (w : World) (hr0 : Kd.C k158 w A0 l0.length l0) (hc0 : l0.length ≤ c0) (h : laws_toFactS.f k l0 = some r) :
  Calls Tryz.prog 19 #[.slice A0 l0.length c0] w fun e w' => ∃ v0_ : Value, e = .returned (v0_) ∧ Kd.R k136 136 w' w.heap.size (fun _ => True) v0_ r ∧ Below w.heap.size w w' := by
 have hu158 := Tryz.underlying158; have hu136 := Tryz.underlying136
 have HR := Aside0.mk hr0; clear hr0
 have HB := Aside0.mk (Below.refl w.heap.size w)
 unfold laws_toFactS.f at h
 replace h := ifN h; obtain ⟨c2, h⟩ := h; replace c2 := Aside0.mk c2; replace h := ifN h; obtain ⟨c3, h⟩ := h; replace c3 := Aside0.mk c3
 obtain ⟨ys, hy⟩ : ∃ y_, y_ = (List.replicate ((l0.length : Int) : Int).toNat z136) := ⟨_, rfl⟩
 rw [← hy] at h; replace hy := Aside0.mk hy; replace h := Aside0.mk h
 go_enter Tryz.func19, Tryz.ntmps19
 go_wp2_with (first | ((with_reducible refine gate_dst (N := 7) rfl ?_); refine Kd.R_make k136 _ 136 rfl (N := 7) rfl 35 _ _ rfl (l0.length : Int) rfl rfl Tryz.underlying35 (.agg #[(.int .i64 0), (.int .i64 0), (.int .i64 0), (.int .i64 0), (.int .i64 0), (.int .i64 0)]) 48 info136 rfl (by decide) (by omega) z136 (ok := fun _ => True) (okp := fun _ => True) (k136_mkM _ _ _ z136 ) (fun _ hk => hk) trivial c2.out (Nat.le_trans (Nat.mul_le_mul_right _ c3.out) (by omega)) (Below.refl _ _) (Nat.le_refl _) ?_; intro v W1 ho hb _ _; rw [← hy.out] at ho; have O := Aside0.mk (Kd.R_lower ho (below_size HB.out)); replace HB := Aside0.mk (below_step HB.out hb); clear hb ho))
 go_loopg [4] k (fun kq v4 w' => ∃ (xs : List S136) (i : Int), v4 = .int .i64 i ∧ Aside0 (laws_toFactS.l0 kq l0 xs i = some r) ∧ Aside0 (kq ≤ k) ∧ Aside0 (Kd.R k136 136 w' w.heap.size (fun _ => True) v xs) ∧ Aside0 (Below w.heap.size w w'))
 case atStart => exact ⟨_, 0, rfl, h, ⟨Nat.le_refl _⟩, O, HB⟩
 case round =>
  clear h O HB c2 c3
  obtain ⟨xs, i, rfl, H, Hk, O, HB⟩ := hrel
  cases gk with
  | zero => exact absurd H.out (by simp [laws_toFactS.l0])
  | succ k1 =>
   have h := H.out; clear H; simp only [laws_toFactS.l0] at h; replace h := ifD h; rcases h with ⟨c, h⟩ | ⟨c, h⟩; rotate_left
   ·have d1 := decF c; clear c; obtain rfl := Option.some.inj h; go_wp2; go_ret; exact ⟨_, rfl, O.out, HB.out⟩
   have d1 := decT c; replace h := ifN h; obtain ⟨c7, h⟩ := h; replace h := Option.bind_eq_some_iff.mp h; obtain ⟨⟨t343, t344, t345, t346, t347, t348⟩, m, h⟩ := h; try dsimp only at h
   replace h := ifN h; obtain ⟨c9, h⟩ := h; replace h := Aside0.mk h; replace m := Aside0.mk m; obtain ⟨ad, e_, x0, x1, x2, x3, x4, x5⟩ := at_T158 HR.out i c7 c; cases e_; replace x0 := xC HB ⟨x0⟩; replace x1 := xC HB ⟨x1⟩; replace x2 := xC HB ⟨x2⟩; replace x3 := xC HB ⟨x3⟩; replace x4 := xC HB ⟨x4⟩; replace x5 := xC HB ⟨x5⟩; obtain ⟨g, co, eo, hg, hq, -, -⟩ := Kd.R_form O.out (by omega); cases eo; have e1 := eq_true c; have e2 := eq_true c7; have e3 := eq_true c9; replace c := Aside0.mk c; replace c7 := Aside0.mk c7; replace c9 := Aside0.mk c9; replace hg := Aside0.mk hg; replace hq := Aside0.mk hq; go_wp2_with (first | (go_at_call 97; refine (laws_toFact.calls _ _ _ _ _ _ t343 t344 t345 t346 t347 t348 _  m.out).mono ?_; rintro e W2 ⟨rfl, hb⟩; obtain ⟨hc, hf, HP⟩ := R_fill O.out hb c7.out c9.out z136 (seg := [.int .i64 t343, .int .i64 t344, .int .i64 t345, .int .i64 t346, .int .i64 t347, .int .i64 t348]) 6 rfl rfl hq.out (k136_mkM _ _ _ (⟨t343, t344, t345, t346, t347, t348⟩ : S136)); obtain ⟨_, y0⟩ := hc 0 (by decide); have q0 := hf 0; obtain ⟨_, y1⟩ := hc 1 (by decide); have q1 := hf 1; obtain ⟨_, y2⟩ := hc 2 (by decide); have q2 := hf 2; obtain ⟨_, y3⟩ := hc 3 (by decide); have q3 := hf 3; obtain ⟨_, y4⟩ := hc 4 (by decide); have q4 := hf 4; obtain ⟨_, y5⟩ := hc 5 (by decide); have q5 := hf 5; simp only [Nat.add_zero] at y0 q0; replace HP := Aside0.mk HP; replace HB := Aside0.mk (below_step HB.out hb); clear hb hc hf O ))
   go_roundg k1
   case measure => have := Hk.out; omega
   case rel => exact ⟨_, _, rfl, h, ⟨by have := Hk.out; omega⟩, HP, ⟨below_set (below_set (below_set (below_set (below_set (below_set (HB.out) hg.out) hg.out) hg.out) hg.out) hg.out) hg.out⟩⟩
mutual
def laws_toCondS.l0 : Nat → List (S188) → List (S172) → Int → Option ((List (S172)))
 | 0, _, _, _ => none
 | k + 1, x0, x3, x4 => if x4 < (x0.length : Int) then (if 0 ≤ x4 then ((laws_toCond.f k ((rd_T188 x0 x4).f0) ((rd_T188 x0 x4).f1) ((rd_T188 x0 x4).f2) ((rd_T188 x0 x4).f3)).bind fun bt365 => (if x4 < (x3.length : Int) then (laws_toCondS.l0 k x0 (x3.set (x4 : Int).toNat (⟨bt365.1, bt365.2.1, bt365.2.2.1, bt365.2.2.2⟩ : S172)) (wrap64 (x4 + 1))) else (none))) else (none)) else (some x3)
def laws_toCondS.f : Nat → List (S188) → Option ((List (S172)))
 | 0, _ => none
 | k + 1, l0 => if 0 ≤ (l0.length : Int) then (if ((l0.length : Int) : Int).toNat ≤ 5864062014805 then (laws_toCondS.l0 k l0 (List.replicate ((l0.length : Int) : Int).toNat z172) 0) else (none)) else (none)
def laws_toCond.f : Nat → Int → Int → Int → List (S188) → Option (Int × Int × Int × (List (S172)))
 | 0, _, _, _, _ => none
 | k + 1, a0_0, a0_1, a0_2, l0_3 => (laws_toCondS.f k l0_3).bind fun t375 => (some (a0_0, a0_1, a0_2, t375))
end
abbrev laws_toCondS.Stmt (k : Nat) : Prop := ∀ (A0 : Option Addr) (c0 : Nat) (l0 : List (S188)) (r : List (S172)) (w : World) (hr0 : Kd.C k188 w A0 l0.length l0) (hc0 : l0.length ≤ c0) (h : laws_toCondS.f k l0 = some r),
  Calls Tryz.prog 332 #[.slice A0 l0.length c0] w fun e w' => ∃ v0_ : Value, e = .returned (v0_) ∧ Kd.R k172 172 w' w.heap.size (fun _ => True) v0_ r ∧ Below w.heap.size w w'
abbrev laws_toCond.Stmt (k : Nat) : Prop := ∀ (a0_0 : Int) (a0_1 : Int) (a0_2 : Int) (A0_3 : Option Addr) (c0_3 : Nat) (l0_3 : List (S188)) (r1 : Int) (r2 : Int) (r3 : Int) (r4 : List (S172)) (w : World) (hr0_3 : Kd.C k188 w A0_3 l0_3.length l0_3) (hc0_3 : l0_3.length ≤ c0_3) (h : laws_toCond.f k a0_0 a0_1 a0_2 l0_3 = some (r1, r2, r3, r4)),
  Calls Tryz.prog 245 #[.agg #[.int .i64 a0_0, .int .i64 a0_1, .int .i64 a0_2, .slice A0_3 l0_3.length c0_3]] w fun e w' => ∃ v3_ : Value, e = .returned (.agg #[.int .i64 r1, .int .i64 r2, .int .i64 r3, v3_]) ∧ Kd.R k172 172 w' w.heap.size (fun _ => True) v3_ r4 ∧ Below w.heap.size w w'
theorem laws_toCondS.step (k : Nat) (ih_laws_toCondS : ∀ m_, m_ < k → laws_toCondS.Stmt m_) (ih_laws_toCond : ∀ m_, m_ < k → laws_toCond.Stmt m_) : laws_toCondS.Stmt k := by
 unfold laws_toCondS.Stmt
 intro A0 c0 l0 r w hr0 hc0 h
 cases k with
 | zero => exact absurd h (by simp [laws_toCondS.f])
 | succ k =>
 simp only [laws_toCondS.f] at h
 have hu188 := Tryz.underlying188
 have hu172 := Tryz.underlying172
 have HR0 := Aside0.mk hr0
 have HC0 := Aside0.mk hc0
 clear hr0 hc0
 have HB := Aside0.mk (Below.refl w.heap.size w)
 have H : (if 0 ≤ (l0.length : Int) then (if ((l0.length : Int) : Int).toNat ≤ 5864062014805 then (laws_toCondS.l0 k l0 (List.replicate ((l0.length : Int) : Int).toNat z172) 0) else (none)) else (none)) = some r := h
 clear h
 replace H := ifN H; obtain ⟨c2, H⟩ := H
 have c2b0 := eq_true c2
 have c2b1 : decide (0 ≤ (l0.length : Int)) = true := decide_eq_true c2
 clear c2
 replace H := ifN H; obtain ⟨c3, H⟩ := H
 have c3b0 := eq_true c3
 have c3b1 : decide (((l0.length : Int) : Int).toNat ≤ 5864062014805) = true := decide_eq_true c3
 clear c3
 obtain ⟨y361, hy361⟩ : ∃ y_ : List (S172), y_ = (List.replicate ((l0.length : Int) : Int).toNat z172) := ⟨_, rfl⟩
 replace H : (laws_toCondS.l0 k l0 y361 0) = some r := by first | (rw [hy361]; with_reducible exact H) | (have H2_ := (Option.bind_some _ _).symm.trans H; rw [hy361]; with_reducible exact H2_) | (have H2_ := (Option.bind_some _ _).symm.trans H; with_reducible exact H2_) | with_reducible exact H | (rw [hy361]; exact H) | exact H
 have Ny361 := Aside0.mk hy361
 clear hy361
 have H' := Aside0.mk H
 clear H
 go_enter Tryz.func332, Tryz.ntmps332
 go_wp2_with (first | ((with_reducible refine gate_dst (N := 7) rfl ?_); refine Kd.R_make k172 _ 172 rfl (N := 7) rfl 170 _ _ rfl (l0.length : Int) rfl rfl Tryz.underlying170 (.agg #[(.int .i64 0), (.int .i64 0), (.int .i64 0), (.slice none 0 0)]) 48 info172 rfl (by decide) (by omega) z172 (ok := fun _ => True) (okp := fun _ => True) (k172_mkM _ _ _ z172 (Kd.R_nil _ _ _ _ _)) (fun _ hk => hk) trivial (of_decide_eq_true (by first | (with_reducible assumption) | assumption)) (Nat.le_trans (Nat.mul_le_mul_right _ (of_decide_eq_true (by first | (with_reducible assumption) | assumption) : (l0.length : Int).toNat ≤ 5864062014805)) (by omega)) (Below.refl _ _) (Nat.le_refl _) ?_; intro v362 w4 ho5 hb hg_ hnew_; clear hg_ hnew_; (first | rw [← Ny361.out] at ho5 | (simp only [Int.reduceToNat] at ho5; rw [← Ny361.out] at ho5)); have n0_ := Aside0.mk (Kd.R_lower ho5 (below_size (by repeat (first | (with_reducible first | exact HB.out | apply below_alloc | apply pw_below_drewN | apply below_drew1) | exact HB.out)))); have n1_ := Aside0.mk (below_step (by repeat (first | (with_reducible first | exact HB.out | apply below_alloc | apply pw_below_drewN | apply below_drew1) | exact HB.out)) hb); clear HB; have HO363 := n0_; (try have hv1_363 := fun (W_ : World) (a_ : Addr) (m_ : Mode) => run_store Tryz.prog W_ a_ _ m_ (Kd.R_val HO363.out).2); have HB := n1_; clear n0_ n1_; clear hb ho5))
 go_loopg [4] k (fun kq v4 w' => ∃ (x3_1 : List (S172)) (x4_1 : Int), v4 = .int .i64 x4_1 ∧ Aside0 (laws_toCondS.l0 kq l0 x3_1 x4_1 = some r) ∧ Aside0 (kq ≤ k) ∧ Aside0 (Kd.R k172 172 w' w.heap.size (fun _ => True) v362 x3_1) ∧ Aside0 (Below w.heap.size w w'))
 case atStart => exact ⟨(y361), (0), (by first | rfl | (simp; done) | (simp [*]; done)), H', ⟨Nat.le_refl _⟩, ⟨by (with_reducible repeat (first | apply Kd.R_alloc | apply Kd.R_drewN | apply Kd.R_drew)); exact HO363.out⟩, ⟨by repeat (first | (with_reducible first | exact HB.out | apply below_alloc | apply pw_below_drewN | apply below_drew1) | exact HB.out)⟩⟩
 case round =>
  clear H'
  (try clear c2)
  (try clear c2b0)
  (try clear c2b1)
  (try clear p2)
  (try clear c3)
  (try clear c3b0)
  (try clear c3b1)
  obtain ⟨x3_1, x4_1, rfl, HA, HK1, HO_3, HB⟩ := hrel
  cases gk with
  | zero => exact absurd HA.out (by simp [laws_toCondS.l0])
  | succ k1 =>
   have H := HA.out; clear HA; simp only [laws_toCondS.l0] at H; replace H := ifD H; rcases H with ⟨c6, H⟩ | ⟨c6, H⟩; rotate_left
   ·have c6b0 : decide (x4_1 < (l0.length : Int)) = false := decide_eq_false c6; clear c6; obtain rfl := Option.some.inj H; go_wp2; go_ret; exact ⟨_, by first | rfl | (simp [errW_none, errW_some] <;> rfl) | (simp [*, errW_none, errW_some] <;> rfl), by (with_reducible repeat (first | apply Kd.R_alloc | apply Kd.R_drewN | apply Kd.R_drew)); exact HO_3.out, by repeat (first | (with_reducible first | exact HB.out | apply below_alloc | apply pw_below_drewN | apply below_drew1) | exact HB.out)⟩
   have c6b0 : decide (x4_1 < (l0.length : Int)) = true := decide_eq_true c6; clear c6; replace H := ifN H; obtain ⟨c7, H⟩ := H; have c7b0 : decide (0 ≤ x4_1) = true := decide_eq_true c7; clear c7; replace H := obs H; obtain ⟨⟨t365, t366, t367, t368⟩, A80, H⟩ := H; replace H : (if x4_1 < (x3_1.length : Int) then (laws_toCondS.l0 k1 l0 (x3_1.set (x4_1 : Int).toNat (⟨t365, t366, t367, t368⟩ : S172)) (wrap64 (x4_1 + 1))) else (none)) = some r := H; have A8 := Aside0.mk A80; clear A80; replace H := ifN H; obtain ⟨c9, H⟩ := H; have c9b0 : decide (x4_1 < (x3_1.length : Int)) = true := decide_eq_true c9; clear c9; obtain ⟨y371, hy371⟩ : ∃ y_ : List (S172), y_ = (x3_1.set (x4_1 : Int).toNat (⟨t365, t366, t367, t368⟩ : S172)) := ⟨_, rfl⟩; replace H : (laws_toCondS.l0 k1 l0 y371 (wrap64 (x4_1 + 1))) = some r := by first | (rw [hy371]; with_reducible exact H) | (have H2_ := (Option.bind_some _ _).symm.trans H; rw [hy371]; with_reducible exact H2_) | (have H2_ := (Option.bind_some _ _).symm.trans H; with_reducible exact H2_) | with_reducible exact H | (rw [hy371]; exact H) | exact H
   have Ny371 := Aside0.mk hy371; clear hy371; have H' := Aside0.mk H; clear H; have p364 : 0 ≤ (x4_1 : Int) := of_decide_eq_true (by first | (with_reducible assumption) | assumption); have q364 : x4_1 < (l0.length : Int) := of_decide_eq_true (by first | (with_reducible assumption) | assumption); obtain ⟨ad364, A364_3, c364_3, e364, hx364_0, hx364_1, hx364_2, hx364_3, hl364_3, hi364_3⟩ := at_T188 HR0.out x4_1 p364 q364; cases e364; replace hx364_0 := (HB.out.cell (World.block_lt_of_cell? w _ hx364_0)).trans hx364_0; replace hx364_1 := (HB.out.cell (World.block_lt_of_cell? w _ hx364_1)).trans hx364_1; replace hx364_2 := (HB.out.cell (World.block_lt_of_cell? w _ hx364_2)).trans hx364_2; replace hx364_3 := (HB.out.cell (World.block_lt_of_cell? w _ hx364_3)).trans hx364_3; have HR364_3 := Aside0.mk hi364_3; have HC364_3 := Aside0.mk hl364_3; clear hi364_3 hl364_3; replace p364 := eq_true p364; replace q364 := eq_true q364; go_wp2_with (first | ((with_reducible refine gate_callee (f := 245) rfl ?_); refine goesL_ (some 20) rfl rfl Tryz.func245 (by kernel_rfl) rfl #[.agg #[.int .i64 ((rd_T188 l0 x4_1).f0), .int .i64 ((rd_T188 l0 x4_1).f1), .int .i64 ((rd_T188 l0 x4_1).f2), .slice A364_3 ((rd_T188 l0 x4_1).f3).length c364_3]] rfl (by (try simp only [List.map_toArray, List.map_cons, List.map_nil]); first | done | rfl | (simp only [List.length_drop, List.length_take]; rfl)) ?_; (with_reducible refine (ih_laws_toCond k1 (by have := HK1.out; omega) ((rd_T188 l0 x4_1).f0) ((rd_T188 l0 x4_1).f1) ((rd_T188 l0 x4_1).f2) _ _ ((rd_T188 l0 x4_1).f3) t365 t366 t367 t368 _ ?side1 ?side2 A8.out).mono ?_); (case side1 => repeat (first | exact (Kd.C_below HR364_3.out HB.out) | (with_reducible refine Kd.C_alloc ?_ _) | (with_reducible refine Kd.C_drewN ?_ _) | (with_reducible refine Kd.C_drew ?_))); (case side2 => exact HC364_3.out); rintro e w11 ⟨v369, rfl, ho0, hb⟩; refine ⟨_, rfl, ?_⟩; have n0_ := Aside0.mk (Kd.R_elder' (by (with_reducible repeat (first | apply Kd.R_alloc | apply Kd.R_drewN | apply Kd.R_drew)); exact HO_3.out) (Kd.R_base ho0) hb); have n1_ := Aside0.mk (Kd.R_lower (Kd.R_new' ho0 (Kd.R_lt (by (with_reducible repeat (first | apply Kd.R_alloc | apply Kd.R_drewN | apply Kd.R_drew)); exact HO_3.out))) (below_size (by repeat (first | (with_reducible first | exact HB.out | apply below_alloc | apply pw_below_drewN | apply below_drew1) | exact HB.out)))); have n2_ := Aside0.mk (below_step (by repeat (first | (with_reducible first | exact HB.out | apply below_alloc | apply pw_below_drewN | apply below_drew1) | exact HB.out)) hb); clear HO_3; clear HB; have HO_3 := n0_; have HO370 := n1_; (try have hv1_370 := fun (W_ : World) (a_ : Addr) (m_ : Mode) => run_store Tryz.prog W_ a_ _ m_ (Kd.R_val HO370.out).2); have HB := n2_; clear n0_ n1_ n2_; (try clear hb); (try clear hb2); (try clear hk); (try clear hi); (try clear ho0); have p10 : 0 ≤ (x4_1 : Int) := of_decide_eq_true (by first | (with_reducible assumption) | assumption); have q10 : (x4_1 : Int) < ((x3_1.length : Int) : Int) := of_decide_eq_true (by first | (with_reducible assumption) | assumption); obtain ⟨go10, co10, eo10, gb10, gl10, cl10, HG10⟩ := Kd.R_form HO_3.out (by omega); (first | cases eo10 | (injection eo10 with ea_ en_ ec_; (first | subst ea_ | (injection ea_ with ea_; subst ea_)); subst ec_; clear en_)); have GB10 := Aside0.mk gb10; have GG10 := Aside0.mk HG10; clear gb10 gl10 HG10; obtain ⟨ce10, hcl10, hM10, hcc10, hfr10⟩ := Kd.R_elem HO_3.out z172 (x4_1 : Int) p10 q10; obtain ⟨ve10_3, rfl, ge10_3⟩ := k172_openM hM10; have hx10_0 : w11.cell? ⟨go10, (x4_1 : Int).toNat * 4, none⟩ = some (.int .i64 ((rd_T172 x3_1 x4_1).f0)) := hcc10 0 _ rfl; have hx10_1 : w11.cell? ⟨go10, (x4_1 : Int).toNat * 4 + 1, none⟩ = some (.int .i64 ((rd_T172 x3_1 x4_1).f1)) := hcc10 1 _ rfl; have hx10_2 : w11.cell? ⟨go10, (x4_1 : Int).toNat * 4 + 2, none⟩ = some (.int .i64 ((rd_T172 x3_1 x4_1).f2)) := hcc10 2 _ rfl; have hx10_3 : w11.cell? ⟨go10, (x4_1 : Int).toNat * 4 + 3, none⟩ = some (ve10_3) := hcc10 3 _ rfl; have hf10_0 : w11.frozen? ⟨go10, (x4_1 : Int).toNat * 4, none⟩ = false := hfr10 0; have hf10_1 : w11.frozen? ⟨go10, (x4_1 : Int).toNat * 4 + 1, none⟩ = false := hfr10 1; have hf10_2 : w11.frozen? ⟨go10, (x4_1 : Int).toNat * 4 + 2, none⟩ = false := hfr10 2; have hf10_3 : w11.frozen? ⟨go10, (x4_1 : Int).toNat * 4 + 3, none⟩ = false := hfr10 3; clear hcl10 hcc10 hfr10 hM10; replace p10 := eq_true p10; replace q10 := eq_true q10; have n_ := Aside0.mk (Kd.R_mono (ok' := (fun k_ => some k_ ≠ (v369 : Value).ownBlock)) HO_3.out (fun k_ hk => hk.2)); clear HO_3; have HO_3 := n_; clear n_; have HX12 := Aside0.mk (show Kd.R k172 172 w11 w.heap.size (fun _ => True) (.slice (some ⟨go10, 0, none⟩) x3_1.length co10) x3_1 from (by (with_reducible repeat (first | apply Kd.R_alloc | apply Kd.R_drewN | apply Kd.R_drew)); exact Kd.R_mono HO_3.out (fun _ hk => trivial))); obtain ⟨ce12, hcl12, hM12, hcc12, hfr12⟩ := Kd.R_elem HX12.out z172 (x4_1 : Int) (of_decide_eq_true (by first | (with_reducible assumption) | assumption)) (by have h_ : (x4_1 : Int) < ((x3_1.length : Int) : Int) := of_decide_eq_true (by first | (with_reducible assumption) | assumption); first | exact h_ | (have e_ := (Kd.R_reads' HO_3.out).1; omega) | simpa using h_); obtain ⟨ve12_3, rfl, ge12_3⟩ := k172_openM hM12; have HP12 := Kd.R_seg HX12.out (x4_1 : Int) (of_decide_eq_true (by first | (with_reducible assumption) | assumption)) (by have h_ : (x4_1 : Int) < ((x3_1.length : Int) : Int) := of_decide_eq_true (by first | (with_reducible assumption) | assumption); first | exact h_ | (have e_ := (Kd.R_reads' HO_3.out).1; omega) | simpa using h_) (seg := [.int .i64 t365, .int .i64 t366, .int .i64 t367, v369]) (j := 0) hcl12 hcc12 (show 4 ≤ 4 from by decide) (x' := (⟨t365, t366, t367, t368⟩ : S172)) (k172_mkM _ _ _ (⟨t365, t366, t367, t368⟩ : S172) (Kd.R_mono (HO370.out) (fun k_ hk => ⟨trivial, fun e_ => (hk.2) (by rw [e_]; rfl)⟩))) (fun _ hk => hk); have hx12_0 := hcc12 0 _ rfl; (try simp only [show (k172).sz = 4 from rfl, Nat.mul_one, Nat.add_zero] at hx12_0); have hf12_0 := hfr12 0; (try simp only [show (k172).sz = 4 from rfl, Nat.mul_one, Nat.add_zero] at hf12_0); have hx12_1 := hcc12 1 _ rfl; (try simp only [show (k172).sz = 4 from rfl, Nat.mul_one, Nat.add_zero] at hx12_1); have hf12_1 := hfr12 1; (try simp only [show (k172).sz = 4 from rfl, Nat.mul_one, Nat.add_zero] at hf12_1); have hx12_2 := hcc12 2 _ rfl; (try simp only [show (k172).sz = 4 from rfl, Nat.mul_one, Nat.add_zero] at hx12_2); have hf12_2 := hfr12 2; (try simp only [show (k172).sz = 4 from rfl, Nat.mul_one, Nat.add_zero] at hf12_2); have hx12_3 := hcc12 3 _ rfl; (try simp only [show (k172).sz = 4 from rfl, Nat.mul_one, Nat.add_zero] at hx12_3); have hf12_3 := hfr12 3; (try simp only [show (k172).sz = 4 from rfl, Nat.mul_one, Nat.add_zero] at hf12_3); clear hcl12 hcc12 hfr12 hM12) | ((with_reducible refine gate_store (t := 172) (p := 21) rfl ?_); refine store_event (t := 172) (p := 21) (v := ?vo_w13) (w1 := ((((w11.setCell ⟨go10, (x4_1 : Int).toNat * 4, none⟩ (.int .i64 t365)).setCell ⟨go10, (x4_1 : Int).toNat * 4 + 1, none⟩ (.int .i64 t366)).setCell ⟨go10, (x4_1 : Int).toNat * 4 + 2, none⟩ (.int .i64 t367)).setCell ⟨go10, (x4_1 : Int).toNat * 4 + 3, none⟩ (v369))) ?hg ?ho ?hn ?hr ?_; (case ho => rfl); (case hg => rfl); (case hn => rfl); (case hr => first | (go_simp; done) | (go_simp; rfl)); intro w13 hw; have hg : w11.grownBy w13 (some go10) := (by rw [hw]; exact HP12.2); have hp_ : Kd.R k172 172 w13 w.heap.size (fun _ => True) (.slice (some ⟨go10, 0, none⟩) x3_1.length co10) y371 := (by rw [hw, Ny371.out]; exact HP12.1); clear HP12; have n0_ := Aside0.mk (hp_); have n1_ := Aside0.mk ((by rw [hw]; exact below_set (below_set (below_set (below_set (HB.out) GB10.out) GB10.out) GB10.out) GB10.out : Below w.heap.size w w13)); clear HO_3; clear HB; clear HO370; have HO_3 := n0_; have HB := n1_; clear n0_ n1_; clear hg hw hp_))
   go_roundg k1
   case measure => have := HK1.out; omega
   case rel => exact ⟨(y371), (wrap64 (x4_1 + 1)), (by first | rfl | (simp; done) | (simp [*]; done)), H', ⟨by have := HK1.out; omega⟩, ⟨by (with_reducible repeat (first | apply Kd.R_alloc | apply Kd.R_drewN | apply Kd.R_drew)); exact HO_3.out⟩, ⟨by repeat (first | (with_reducible first | exact HB.out | apply below_alloc | apply pw_below_drewN | apply below_drew1) | exact HB.out)⟩⟩
theorem laws_toCond.step (k : Nat) (ih_laws_toCondS : ∀ m_, m_ < k → laws_toCondS.Stmt m_) (ih_laws_toCond : ∀ m_, m_ < k → laws_toCond.Stmt m_) : laws_toCond.Stmt k := by
 unfold laws_toCond.Stmt
 intro a0_0 a0_1 a0_2 A0_3 c0_3 l0_3 r1 r2 r3 r4 w hr0_3 hc0_3 h
 cases k with
 | zero => exact absurd h (by simp [laws_toCond.f])
 | succ k =>
 simp only [laws_toCond.f] at h
 have hu188 := Tryz.underlying188
 have hu172 := Tryz.underlying172
 have HR0_3 := Aside0.mk hr0_3
 have HC0_3 := Aside0.mk hc0_3
 clear hr0_3 hc0_3
 have HB := Aside0.mk (Below.refl w.heap.size w)
 have H : ((laws_toCondS.f k l0_3).bind fun t375 => (some (a0_0, a0_1, a0_2, t375))) = some (r1, r2, r3, r4) := h
 clear h
 replace H := obs H
 obtain ⟨t375, A20, H⟩ := H
 replace H : (some (a0_0, a0_1, a0_2, t375)) = some (r1, r2, r3, r4) := H
 have A2 := Aside0.mk A20
 clear A20
 simp only [Option.some.injEq, Prod.mk.injEq] at H
 obtain ⟨rfl, rfl, rfl, rfl⟩ := H
 go_enter Tryz.func245, Tryz.ntmps245
 go_wp2_with (first | ((with_reducible refine gate_dst (N := 1) rfl ?_); refine box_event ?hg (N := 1) ?hd (cs := #[.int .i64 a0_0, .int .i64 a0_1, .int .i64 a0_2, .slice A0_3 l0_3.length c0_3]) (t := 188) ?hr ?_; (case hd => rfl); (case hg => rfl); (case hr => first | (go_simp; done) | (go_simp; rfl)); intro gb372 hg w3 hbox hb; have n0_ := Aside0.mk (below_step (by repeat (first | (with_reducible first | exact HB.out | apply below_alloc | apply pw_below_drewN | apply below_drew1) | exact HB.out)) hb); have n1_ := Aside0.mk (hbox); have n2_ := Aside0.mk ((by rw [hg]; exact (below_size (by repeat (first | (with_reducible first | exact HB.out | apply below_alloc | apply pw_below_drewN | apply below_drew1) | exact HB.out))) : w.heap.size ≤ gb372)); have n3_ := Aside0.mk ((by rw [hg]; exact (below_size (by repeat (first | (with_reducible first | exact HB.out | apply below_alloc | apply pw_below_drewN | apply below_drew1) | exact HB.out))) : w.heap.size ≤ gb372)); clear HB; have HB := n0_; have BK372 := n1_; have GW372 := n2_; have GE372 := n3_; clear n0_ n1_ n2_ n3_; clear hb hbox hg) | ((with_reducible refine gate_dst (N := 2) rfl ?_); refine box_event ?hg (N := 2) ?hd (cs := #[.int .i64 0, .int .i64 0, .int .i64 0, .slice none 0 0]) (t := 172) ?hr ?_; (case hd => rfl); (case hg => rfl); (case hr => first | (go_simp; done) | (go_simp; rfl)); intro gb373 hg w4 hbox hb; have n0_ := Aside0.mk (blk_below (g := gb372) (o := .cells #[.int .i64 a0_0, .int .i64 a0_1, .int .i64 a0_2, .slice A0_3 l0_3.length c0_3] 188 (0, 0)) (by (with_reducible repeat (first | refine blk_drewN ?_ _ | refine blk_drew ?_ | refine blk_alloc ?_ _)); exact BK372.out) hb); have n1_ := Aside0.mk (below_step (by repeat (first | (with_reducible first | exact HB.out | apply below_alloc | apply pw_below_drewN | apply below_drew1 | refine below_set ?_ GE372.out) | exact HB.out)) hb); have n2_ := Aside0.mk (hbox); have n3_ := Aside0.mk ((by rw [hg]; exact (below_size (by repeat (first | (with_reducible first | exact HB.out | apply below_alloc | apply pw_below_drewN | apply below_drew1 | refine below_set ?_ GE372.out) | exact HB.out))) : w.heap.size ≤ gb373)); have n4_ := Aside0.mk ((by rw [hg]; exact (below_size (by repeat (first | (with_reducible first | exact HB.out | apply below_alloc | apply pw_below_drewN | apply below_drew1 | refine below_set ?_ GE372.out) | exact HB.out))) : w.heap.size ≤ gb373)); have n5_ := Aside0.mk ((by rw [hg]; exact Nat.ne_of_lt (blk_lt (g := gb372) (o := .cells #[.int .i64 a0_0, .int .i64 a0_1, .int .i64 a0_2, .slice A0_3 l0_3.length c0_3] 188 (0, 0)) (by (with_reducible repeat (first | refine blk_drewN ?_ _ | refine blk_drew ?_ | refine blk_alloc ?_ _)); exact BK372.out)) : gb372 ≠ gb373)); have n6_ := Aside0.mk ((by rw [hg]; exact Nat.ne_of_gt (blk_lt (g := gb372) (o := .cells #[.int .i64 a0_0, .int .i64 a0_1, .int .i64 a0_2, .slice A0_3 l0_3.length c0_3] 188 (0, 0)) (by (with_reducible repeat (first | refine blk_drewN ?_ _ | refine blk_drew ?_ | refine blk_alloc ?_ _)); exact BK372.out)) : gb373 ≠ gb372)); clear BK372; clear HB; have BK372 := n0_; have HB := n1_; have BK373 := n2_; have GW373 := n3_; have GE373 := n4_; have NB372_373 := n5_; have NB373_372 := n6_; clear n0_ n1_ n2_ n3_ n4_ n5_ n6_; clear hb hbox hg) | ((with_reducible refine gate_dst (N := 3) rfl ?_); refine box_event ?hg (N := 3) ?hd (cs := #[.int .i64 0, .int .i64 0, .int .i64 0, .slice none 0 0]) (t := 172) ?hr ?_; (case hd => rfl); (case hg => rfl); (case hr => first | (go_simp; done) | (go_simp; rfl)); intro gb374 hg w5 hbox hb; have n0_ := Aside0.mk (blk_below (g := gb372) (o := .cells #[.int .i64 a0_0, .int .i64 a0_1, .int .i64 a0_2, .slice A0_3 l0_3.length c0_3] 188 (0, 0)) (by (with_reducible repeat (first | refine blk_drewN ?_ _ | refine blk_drew ?_ | refine blk_alloc ?_ _)); exact BK372.out) hb); have n1_ := Aside0.mk (blk_below (g := gb373) (o := .cells #[.int .i64 0, .int .i64 0, .int .i64 0, .slice none 0 0] 172 (0, 0)) (by (with_reducible repeat (first | refine blk_drewN ?_ _ | refine blk_drew ?_ | refine blk_alloc ?_ _)); exact BK373.out) hb); have n2_ := Aside0.mk (below_step (by repeat (first | (with_reducible first | exact HB.out | apply below_alloc | apply pw_below_drewN | apply below_drew1 | refine below_set ?_ GE372.out | refine below_set ?_ GE373.out) | exact HB.out)) hb); have n3_ := Aside0.mk (hbox); have n4_ := Aside0.mk ((by rw [hg]; exact (below_size (by repeat (first | (with_reducible first | exact HB.out | apply below_alloc | apply pw_below_drewN | apply below_drew1 | refine below_set ?_ GE372.out | refine below_set ?_ GE373.out) | exact HB.out))) : w.heap.size ≤ gb374)); have n5_ := Aside0.mk ((by rw [hg]; exact (below_size (by repeat (first | (with_reducible first | exact HB.out | apply below_alloc | apply pw_below_drewN | apply below_drew1 | refine below_set ?_ GE372.out | refine below_set ?_ GE373.out) | exact HB.out))) : w.heap.size ≤ gb374)); have n6_ := Aside0.mk ((by rw [hg]; exact Nat.ne_of_lt (blk_lt (g := gb372) (o := .cells #[.int .i64 a0_0, .int .i64 a0_1, .int .i64 a0_2, .slice A0_3 l0_3.length c0_3] 188 (0, 0)) (by (with_reducible repeat (first | refine blk_drewN ?_ _ | refine blk_drew ?_ | refine blk_alloc ?_ _)); exact BK372.out)) : gb372 ≠ gb374)); have n7_ := Aside0.mk ((by rw [hg]; exact Nat.ne_of_gt (blk_lt (g := gb372) (o := .cells #[.int .i64 a0_0, .int .i64 a0_1, .int .i64 a0_2, .slice A0_3 l0_3.length c0_3] 188 (0, 0)) (by (with_reducible repeat (first | refine blk_drewN ?_ _ | refine blk_drew ?_ | refine blk_alloc ?_ _)); exact BK372.out)) : gb374 ≠ gb372)); have n8_ := Aside0.mk ((by rw [hg]; exact Nat.ne_of_lt (blk_lt (g := gb373) (o := .cells #[.int .i64 0, .int .i64 0, .int .i64 0, .slice none 0 0] 172 (0, 0)) (by (with_reducible repeat (first | refine blk_drewN ?_ _ | refine blk_drew ?_ | refine blk_alloc ?_ _)); exact BK373.out)) : gb373 ≠ gb374)); have n9_ := Aside0.mk ((by rw [hg]; exact Nat.ne_of_gt (blk_lt (g := gb373) (o := .cells #[.int .i64 0, .int .i64 0, .int .i64 0, .slice none 0 0] 172 (0, 0)) (by (with_reducible repeat (first | refine blk_drewN ?_ _ | refine blk_drew ?_ | refine blk_alloc ?_ _)); exact BK373.out)) : gb374 ≠ gb373)); clear BK372; clear BK373; clear HB; have BK372 := n0_; have BK373 := n1_; have HB := n2_; have BK374 := n3_; have GW374 := n4_; have GE374 := n5_; have NB372_374 := n6_; have NB374_372 := n7_; have NB373_374 := n8_; have NB374_373 := n9_; clear n0_ n1_ n2_ n3_ n4_ n5_ n6_ n7_ n8_ n9_; clear hb hbox hg; have hnb6 := NB372_373.out; have hnc6 := NB373_372.out; have hnb7 := NB372_374.out; have hnc7 := NB374_372.out; have hcz8_0 : w5.cell? ⟨gb372, 0, none⟩ = some (.int .i64 a0_0) := (blk_cell BK372.out 0).trans rfl; have hcz8_1 : w5.cell? ⟨gb372, 1, none⟩ = some (.int .i64 a0_1) := (blk_cell BK372.out 1).trans rfl; have hcz8_2 : w5.cell? ⟨gb372, 2, none⟩ = some (.int .i64 a0_2) := (blk_cell BK372.out 2).trans rfl; have hcz8_3 : w5.cell? ⟨gb372, 3, none⟩ = some (.slice A0_3 l0_3.length c0_3) := (blk_cell BK372.out 3).trans rfl; have hfz8_0 := blk_frozen BK372.out 0; have hfz8_1 := blk_frozen BK372.out 1; have hfz8_2 := blk_frozen BK372.out 2; have hfz8_3 := blk_frozen BK372.out 3; have hnb9 := NB374_373.out; have hnc9 := NB373_374.out; have hcz10_0 : w5.cell? ⟨gb374, 0, none⟩ = some (.int .i64 0) := (blk_cell BK374.out 0).trans rfl; have hcz10_1 : w5.cell? ⟨gb374, 1, none⟩ = some (.int .i64 0) := (blk_cell BK374.out 1).trans rfl; have hcz10_2 : w5.cell? ⟨gb374, 2, none⟩ = some (.int .i64 0) := (blk_cell BK374.out 2).trans rfl; have hcz10_3 : w5.cell? ⟨gb374, 3, none⟩ = some (.slice none 0 0) := (blk_cell BK374.out 3).trans rfl; have hfz10_0 := blk_frozen BK374.out 0; have hfz10_1 := blk_frozen BK374.out 1; have hfz10_2 := blk_frozen BK374.out 2; have hfz10_3 := blk_frozen BK374.out 3) | ((with_reducible refine gate_callee (f := 332) rfl ?_); refine goesL_ (some 15) rfl rfl Tryz.func332 (by kernel_rfl) rfl #[.slice A0_3 l0_3.length c0_3] rfl (by (try simp only [List.map_toArray, List.map_cons, List.map_nil]); first | done | rfl | (simp only [List.length_drop, List.length_take]; rfl)) ?_; (with_reducible refine (ih_laws_toCondS k (by omega) _ _ l0_3 t375 _ ?side1 ?side2 A2.out).mono ?_); (case side1 => exact Kd.C_below HR0_3.out (by repeat (first | (with_reducible first | exact HB.out | apply below_alloc | apply pw_below_drewN | apply below_drew1 | refine below_set ?_ GE372.out | refine below_set ?_ GE373.out | refine below_set ?_ GE374.out) | exact HB.out))); (case side2 => exact HC0_3.out); rintro e w11 ⟨v376, rfl, ho0, hb⟩; refine ⟨_, rfl, ?_⟩; have n0_ := Aside0.mk (Kd.R_lower (Kd.R_newB (Kd.R_newB ho0 (g := gb373) (o := .cells #[.int .i64 0, .int .i64 0, .int .i64 0, .slice none 0 0] 172 (0, 0)) (by (with_reducible repeat (first | refine blk_drewN ?_ _ | refine blk_drew ?_ | refine blk_alloc ?_ _)); refine blk_far ?_ NB373_374.out _; (with_reducible repeat (first | refine blk_drewN ?_ _ | refine blk_drew ?_ | refine blk_alloc ?_ _)); refine blk_far ?_ NB373_374.out _; (with_reducible repeat (first | refine blk_drewN ?_ _ | refine blk_drew ?_ | refine blk_alloc ?_ _)); refine blk_far ?_ NB373_374.out _; (with_reducible repeat (first | refine blk_drewN ?_ _ | refine blk_drew ?_ | refine blk_alloc ?_ _)); exact BK373.out)) (g := gb374) (o := .cells #[.int .i64 a0_0, .int .i64 a0_1, .int .i64 a0_2, .slice none 0 0] 172 (0, 0)) (by (with_reducible repeat (first | refine blk_drewN ?_ _ | refine blk_drew ?_ | refine blk_alloc ?_ _)); refine blk_put (cs := #[.int .i64 a0_0, .int .i64 a0_1, .int .i64 0, .slice none 0 0]) ?_ 2 _ rfl; (with_reducible repeat (first | refine blk_drewN ?_ _ | refine blk_drew ?_ | refine blk_alloc ?_ _)); refine blk_put (cs := #[.int .i64 a0_0, .int .i64 0, .int .i64 0, .slice none 0 0]) ?_ 1 _ rfl; (with_reducible repeat (first | refine blk_drewN ?_ _ | refine blk_drew ?_ | refine blk_alloc ?_ _)); refine blk_put (cs := #[.int .i64 0, .int .i64 0, .int .i64 0, .slice none 0 0]) ?_ 0 _ rfl; (with_reducible repeat (first | refine blk_drewN ?_ _ | refine blk_drew ?_ | refine blk_alloc ?_ _)); exact BK374.out)) (below_size (by repeat (first | (with_reducible first | exact HB.out | apply below_alloc | apply pw_below_drewN | apply below_drew1 | refine below_set ?_ GE372.out | refine below_set ?_ GE373.out | refine below_set ?_ GE374.out) | exact HB.out)))); have n1_ := Aside0.mk (blk_below (g := gb372) (o := .cells #[.int .i64 a0_0, .int .i64 a0_1, .int .i64 a0_2, .slice A0_3 l0_3.length c0_3] 188 (0, 0)) (by (with_reducible repeat (first | refine blk_drewN ?_ _ | refine blk_drew ?_ | refine blk_alloc ?_ _)); refine blk_far ?_ NB372_374.out _; (with_reducible repeat (first | refine blk_drewN ?_ _ | refine blk_drew ?_ | refine blk_alloc ?_ _)); refine blk_far ?_ NB372_374.out _; (with_reducible repeat (first | refine blk_drewN ?_ _ | refine blk_drew ?_ | refine blk_alloc ?_ _)); refine blk_far ?_ NB372_374.out _; (with_reducible repeat (first | refine blk_drewN ?_ _ | refine blk_drew ?_ | refine blk_alloc ?_ _)); exact BK372.out) hb); have n2_ := Aside0.mk (blk_below (g := gb373) (o := .cells #[.int .i64 0, .int .i64 0, .int .i64 0, .slice none 0 0] 172 (0, 0)) (by (with_reducible repeat (first | refine blk_drewN ?_ _ | refine blk_drew ?_ | refine blk_alloc ?_ _)); refine blk_far ?_ NB373_374.out _; (with_reducible repeat (first | refine blk_drewN ?_ _ | refine blk_drew ?_ | refine blk_alloc ?_ _)); refine blk_far ?_ NB373_374.out _; (with_reducible repeat (first | refine blk_drewN ?_ _ | refine blk_drew ?_ | refine blk_alloc ?_ _)); refine blk_far ?_ NB373_374.out _; (with_reducible repeat (first | refine blk_drewN ?_ _ | refine blk_drew ?_ | refine blk_alloc ?_ _)); exact BK373.out) hb); have n3_ := Aside0.mk (blk_below (g := gb374) (o := .cells #[.int .i64 a0_0, .int .i64 a0_1, .int .i64 a0_2, .slice none 0 0] 172 (0, 0)) (by (with_reducible repeat (first | refine blk_drewN ?_ _ | refine blk_drew ?_ | refine blk_alloc ?_ _)); refine blk_put (cs := #[.int .i64 a0_0, .int .i64 a0_1, .int .i64 0, .slice none 0 0]) ?_ 2 _ rfl; (with_reducible repeat (first | refine blk_drewN ?_ _ | refine blk_drew ?_ | refine blk_alloc ?_ _)); refine blk_put (cs := #[.int .i64 a0_0, .int .i64 0, .int .i64 0, .slice none 0 0]) ?_ 1 _ rfl; (with_reducible repeat (first | refine blk_drewN ?_ _ | refine blk_drew ?_ | refine blk_alloc ?_ _)); refine blk_put (cs := #[.int .i64 0, .int .i64 0, .int .i64 0, .slice none 0 0]) ?_ 0 _ rfl; (with_reducible repeat (first | refine blk_drewN ?_ _ | refine blk_drew ?_ | refine blk_alloc ?_ _)); exact BK374.out) hb); have n4_ := Aside0.mk (below_step (by repeat (first | (with_reducible first | exact HB.out | apply below_alloc | apply pw_below_drewN | apply below_drew1 | refine below_set ?_ GE372.out | refine below_set ?_ GE373.out | refine below_set ?_ GE374.out) | exact HB.out)) hb); clear BK372; clear BK373; clear BK374; clear HB; have HO377 := n0_; (try have hv1_377 := fun (W_ : World) (a_ : Addr) (m_ : Mode) => run_store Tryz.prog W_ a_ _ m_ (Kd.R_val HO377.out).2); have BK372 := n1_; have BK373 := n2_; have BK374 := n3_; have HB := n4_; clear n0_ n1_ n2_ n3_ n4_; (try clear hb); (try clear hb2); (try clear hk); (try clear hi); (try clear ho0); obtain ⟨Ao12, co12, eo12⟩ := Kd.R_slice HO377.out; subst eo12; have hcz13_0 : w11.cell? ⟨gb374, 0, none⟩ = some (.int .i64 a0_0) := (blk_cell BK374.out 0).trans rfl; have hcz13_1 : w11.cell? ⟨gb374, 1, none⟩ = some (.int .i64 a0_1) := (blk_cell BK374.out 1).trans rfl; have hcz13_2 : w11.cell? ⟨gb374, 2, none⟩ = some (.int .i64 a0_2) := (blk_cell BK374.out 2).trans rfl; have hcz13_3 : w11.cell? ⟨gb374, 3, none⟩ = some (.slice none 0 0) := (blk_cell BK374.out 3).trans rfl; have hfz13_0 := blk_frozen BK374.out 0; have hfz13_1 := blk_frozen BK374.out 1; have hfz13_2 := blk_frozen BK374.out 2; have hfz13_3 := blk_frozen BK374.out 3; have hcz14_0 : w11.cell? ⟨gb373, 0, none⟩ = some (.int .i64 0) := (blk_cell BK373.out 0).trans rfl; have hcz14_1 : w11.cell? ⟨gb373, 1, none⟩ = some (.int .i64 0) := (blk_cell BK373.out 1).trans rfl; have hcz14_2 : w11.cell? ⟨gb373, 2, none⟩ = some (.int .i64 0) := (blk_cell BK373.out 2).trans rfl; have hcz14_3 : w11.cell? ⟨gb373, 3, none⟩ = some (.slice none 0 0) := (blk_cell BK373.out 3).trans rfl; have hfz14_0 := blk_frozen BK373.out 0; have hfz14_1 := blk_frozen BK373.out 1; have hfz14_2 := blk_frozen BK373.out 2; have hfz14_3 := blk_frozen BK373.out 3))
 refine bodyPost_ret (results_cell_row rfl _ _ gb373 172 #[.int .i64 a0_0, .int .i64 a0_1, .int .i64 a0_2, .slice Ao12 t375.length co12] (0, 0) _ rfl (by (with_reducible repeat (first | refine blk_drewN ?_ _ | refine blk_drew ?_ | refine blk_alloc ?_ _)); refine blk_put (cs := #[.int .i64 a0_0, .int .i64 a0_1, .int .i64 a0_2, .slice none 0 0]) ?_ 3 _ rfl; (with_reducible repeat (first | refine blk_drewN ?_ _ | refine blk_drew ?_ | refine blk_alloc ?_ _)); refine blk_put (cs := #[.int .i64 a0_0, .int .i64 a0_1, .int .i64 0, .slice none 0 0]) ?_ 2 _ rfl; (with_reducible repeat (first | refine blk_drewN ?_ _ | refine blk_drew ?_ | refine blk_alloc ?_ _)); refine blk_put (cs := #[.int .i64 a0_0, .int .i64 0, .int .i64 0, .slice none 0 0]) ?_ 1 _ rfl; (with_reducible repeat (first | refine blk_drewN ?_ _ | refine blk_drew ?_ | refine blk_alloc ?_ _)); refine blk_put (cs := #[.int .i64 0, .int .i64 0, .int .i64 0, .slice none 0 0]) ?_ 0 _ rfl; (with_reducible repeat (first | refine blk_drewN ?_ _ | refine blk_drew ?_ | refine blk_alloc ?_ _)); refine blk_far ?_ NB373_374.out _; (with_reducible repeat (first | refine blk_drewN ?_ _ | refine blk_drew ?_ | refine blk_alloc ?_ _)); exact BK373.out) Tryz.underlying172 rfl (by kernel_rfl)) rfl ?_
 exact ⟨_, by first | rfl | (simp [errW_none, errW_some] <;> rfl) | (simp [*, errW_none, errW_some] <;> rfl), by (with_reducible repeat (first | apply Kd.R_alloc | apply Kd.R_drewN | apply Kd.R_drew)); exact Kd.R_mono (Kd.R_far (p := ⟨gb373, 3, none⟩) (Kd.R_far (p := ⟨gb373, 2, none⟩) (Kd.R_far (p := ⟨gb373, 1, none⟩) (Kd.R_far (p := ⟨gb373, 0, none⟩) (Kd.R_far (p := ⟨gb374, 3, none⟩) (Kd.R_mono (Kd.R_mono HO377.out (fun k_ hk => (⟨hk, hk.2⟩ : _ ∧ k_ ≠ gb374))) (fun k_ hk => (⟨hk, hk.1.1.2⟩ : _ ∧ k_ ≠ gb373))) (fun _ hk => hk.1.2) (.slice Ao12 t375.length co12)) (fun _ hk => hk.2) (.int .i64 a0_0)) (fun _ hk => hk.2) (.int .i64 a0_1)) (fun _ hk => hk.2) (.int .i64 a0_2)) (fun _ hk => hk.2) (.slice Ao12 t375.length co12)) (fun _ hk => trivial), by repeat (first | (with_reducible first | exact HB.out | apply below_alloc | apply pw_below_drewN | apply below_drew1 | refine below_set ?_ GE372.out | refine below_set ?_ GE373.out | refine below_set ?_ GE374.out) | exact HB.out)⟩
theorem laws_toCondS.both (k : Nat) : laws_toCondS.Stmt k ∧ laws_toCond.Stmt k := by
 induction k using Nat.strongRecOn with
 | _ k ih =>
 exact ⟨laws_toCondS.step k (fun m hm => (ih m hm).1) (fun m hm => (ih m hm).2), laws_toCond.step k (fun m hm => (ih m hm).1) (fun m hm => (ih m hm).2)⟩
theorem laws_toCond.calls (k : Nat) : ∀ (a0_0 : Int) (a0_1 : Int) (a0_2 : Int) (A0_3 : Option Addr) (c0_3 : Nat) (l0_3 : List (S188)) (r1 : Int) (r2 : Int) (r3 : Int) (r4 : List (S172)) (w : World) (hr0_3 : Kd.C k188 w A0_3 l0_3.length l0_3) (hc0_3 : l0_3.length ≤ c0_3) (h : laws_toCond.f k a0_0 a0_1 a0_2 l0_3 = some (r1, r2, r3, r4)),
  Calls Tryz.prog 245 #[.agg #[.int .i64 a0_0, .int .i64 a0_1, .int .i64 a0_2, .slice A0_3 l0_3.length c0_3]] w fun e w' => ∃ v3_ : Value, e = .returned (.agg #[.int .i64 r1, .int .i64 r2, .int .i64 r3, v3_]) ∧ Kd.R k172 172 w' w.heap.size (fun _ => True) v3_ r4 ∧ Below w.heap.size w w' := (laws_toCondS.both k).2
def laws_toRule.f (k : Nat) (a0_0 : Int) (a0_1 : Int) (a0_2 : Int) (a0_3 : Int) (a0_4 : Int) (a0_5 : Int) (l0_6 : List (S188)) : Option (Int × Int × Int × Int × Int × Int × (List (S172))) := (laws_toCond.f k a0_3 a0_4 a0_5 l0_6).bind fun bt381 => (some (a0_0, a0_1, a0_2, bt381.1, bt381.2.1, bt381.2.2.1, bt381.2.2.2))
theorem laws_toRule.calls (k : Nat) (a0_0 : Int) (a0_1 : Int) (a0_2 : Int) (a0_3 : Int) (a0_4 : Int) (a0_5 : Int) (A0_6 : Option Addr) (c0_6 : Nat) (l0_6 : List (S188)) (r1 : Int) (r2 : Int) (r3 : Int) (r4 : Int) (r5 : Int) (r6 : Int) (r7 : List (S172)) (w : World) (hr0_6 : Kd.C k188 w A0_6 l0_6.length l0_6) (hc0_6 : l0_6.length ≤ c0_6) (h : laws_toRule.f k a0_0 a0_1 a0_2 a0_3 a0_4 a0_5 l0_6 = some (r1, r2, r3, r4, r5, r6, r7)) :
  Calls Tryz.prog 128 #[.agg #[.int .i64 a0_0, .int .i64 a0_1, .int .i64 a0_2, .int .i64 a0_3, .int .i64 a0_4, .int .i64 a0_5, .slice A0_6 l0_6.length c0_6]] w fun e w' => ∃ v6_ : Value, e = .returned (.agg #[.int .i64 r1, .int .i64 r2, .int .i64 r3, .int .i64 r4, .int .i64 r5, .int .i64 r6, v6_]) ∧ Kd.R k172 172 w' w.heap.size (fun _ => True) v6_ r7 ∧ Below w.heap.size w w' := by
 have hu172 := Tryz.underlying172; have hu174 := Tryz.underlying174; have hu188 := Tryz.underlying188; have hu190 := Tryz.underlying190
 have HR0_6 := Aside0.mk hr0_6; have HC0_6 := Aside0.mk hc0_6; clear hr0_6 hc0_6
 unfold laws_toRule.f at h
 obtain ⟨⟨y1_0, y1_1, y1_2, y1_3⟩, m1, h⟩ := Option.bind_eq_some_iff.mp h; try dsimp only at h
 simp only [Option.some.injEq, Prod.mk.injEq] at h
 obtain ⟨rfl, rfl, rfl, rfl, rfl, rfl, rfl⟩ := h
 replace m1 := Aside0.mk m1
 have HB := Aside0.mk (Below.refl w.heap.size w)
 go_enter Tryz.func128, Tryz.ntmps128
 go_upto_region 6 with (first | (go_at_call 245; refine (laws_toCond.calls k _ _ _ _ _ _ y1_0 y1_1 y1_2 y1_3 _ (Kd.C_below HR0_6.out (by repeat (first | exact HB.out | apply below_alloc | refine bSet ?_ (by omega)))) HC0_6.out m1.out).mono ?_; rintro e W1 ⟨v3, rfl, ho3, hb⟩; obtain ⟨A1_3, q1_3, rfl⟩ := Kd.R_slice ho3; have O1_3 := Aside0.mk (R_above (base := w.heap.size) (n := w.heap.size + 1 + 1 + 1) ho3 (by simp; omega) (by simp)); have q_ := alloc3 w (.cells #[.int .i64 a0_0, .int .i64 a0_1, .int .i64 a0_2, .int .i64 a0_3, .int .i64 a0_4, .int .i64 a0_5, .slice A0_6 l0_6.length c0_6] 190) (.cells #[.int .i64 0, .int .i64 0, .int .i64 0, .int .i64 0, .int .i64 0, .int .i64 0, .slice none 0 0] 174) (.cells #[.int .i64 a0_0, .int .i64 a0_1, .int .i64 a0_2, .int .i64 0, .int .i64 0, .int .i64 0, .slice none 0 0] 174); have B1 := Aside0.mk (blk_below q_.1 hb); have B2 := Aside0.mk (blk_below q_.2.1 hb); have B3 := Aside0.mk (blk_below q_.2.2 hb); clear q_; replace HB := Aside0.mk (below_step (by repeat (first | exact HB.out | apply below_alloc | refine bSet ?_ (by omega))) hb); clear hb ho3; have c1 := blk_cell B1.out; have c3 := blk_cell B3.out; have z3 := blk_frozen B3.out))
 have E3 : ((((W1.setCell ⟨w.heap.size + 1 + 1, 3, none⟩ (.int .i64 y1_0)).setCell ⟨w.heap.size + 1 + 1, 4, none⟩ (.int .i64 y1_1)).setCell ⟨w.heap.size + 1 + 1, 5, none⟩ (.int .i64 y1_2)).setCell ⟨w.heap.size + 1 + 1, 6, none⟩ (.slice A1_3 y1_3.length q1_3)).heap[w.heap.size + 1 + 1]? = some (.cells #[.int .i64 a0_0, .int .i64 a0_1, .int .i64 a0_2, .int .i64 y1_0, .int .i64 y1_1, .int .i64 y1_2, .slice A1_3 y1_3.length q1_3] 174 (0, 0)) := (blk_set (blk_set (blk_set (blk_set B3.out 3 (.int .i64 y1_0)) 4 (.int .i64 y1_1)) 5 (.int .i64 y1_2)) 6 (.slice A1_3 y1_3.length q1_3))
 have E2 : ((((W1.setCell ⟨w.heap.size + 1 + 1, 3, none⟩ (.int .i64 y1_0)).setCell ⟨w.heap.size + 1 + 1, 4, none⟩ (.int .i64 y1_1)).setCell ⟨w.heap.size + 1 + 1, 5, none⟩ (.int .i64 y1_2)).setCell ⟨w.heap.size + 1 + 1, 6, none⟩ (.slice A1_3 y1_3.length q1_3)).heap[w.heap.size + 1]? = some (.cells #[.int .i64 0, .int .i64 0, .int .i64 0, .int .i64 0, .int .i64 0, .int .i64 0, .slice none 0 0] 174 (0, 0)) := (by repeat (first | exact B2.out | refine blk_far ?_ (by simp <;> omega) _))
 have EB : Below w.heap.size w ((((W1.setCell ⟨w.heap.size + 1 + 1, 3, none⟩ (.int .i64 y1_0)).setCell ⟨w.heap.size + 1 + 1, 4, none⟩ (.int .i64 y1_1)).setCell ⟨w.heap.size + 1 + 1, 5, none⟩ (.int .i64 y1_2)).setCell ⟨w.heap.size + 1 + 1, 6, none⟩ (.slice A1_3 y1_3.length q1_3)) := (by repeat (first | exact HB.out | apply below_alloc | refine bSet ?_ (by omega)))
 have EO1_3 : Kd.R k172 172 ((((W1.setCell ⟨w.heap.size + 1 + 1, 3, none⟩ (.int .i64 y1_0)).setCell ⟨w.heap.size + 1 + 1, 4, none⟩ (.int .i64 y1_1)).setCell ⟨w.heap.size + 1 + 1, 5, none⟩ (.int .i64 y1_2)).setCell ⟨w.heap.size + 1 + 1, 6, none⟩ (.slice A1_3 y1_3.length q1_3)) w.heap.size (fun k_ => w.heap.size + 1 + 1 + 1 ≤ k_) (.slice A1_3 y1_3.length q1_3) y1_3 := (by repeat (first | exact O1_3.out | refine Kd.R_far ?_ (fun k_ h_ => by have h2_ : w.heap.size + 1 + 1 + 1 ≤ k_ := h_; show _ ≠ _; simp; omega) _))
 clear c1 c3 z3 HB B1 B2 B3 O1_3
 generalize ((((W1.setCell ⟨w.heap.size + 1 + 1, 3, none⟩ (.int .i64 y1_0)).setCell ⟨w.heap.size + 1 + 1, 4, none⟩ (.int .i64 y1_1)).setCell ⟨w.heap.size + 1 + 1, 5, none⟩ (.int .i64 y1_2)).setCell ⟨w.heap.size + 1 + 1, 6, none⟩ (.slice A1_3 y1_3.length q1_3)) = Wf at E3 E2 EB EO1_3 ⊢
 have c3 := blk_cell E3; have c2 := blk_cell E2; have z2 := blk_frozen E2
 go_wp2
 have cf := blk_cell (blk_sets0 (rest := [.int .i64 0, .int .i64 0, .int .i64 0, .int .i64 0, .int .i64 0, .int .i64 0, .slice none 0 0]) E2 [.int .i64 a0_0, .int .i64 a0_1, .int .i64 a0_2, .int .i64 y1_0, .int .i64 y1_1, .int .i64 y1_2, .slice A1_3 y1_3.length q1_3] rfl); simp only [World.setCells] at cf
 exact bodyPost_ret (v := .agg #[.int .i64 a0_0, .int .i64 a0_1, .int .i64 a0_2, .int .i64 y1_0, .int .i64 y1_1, .int .i64 y1_2, .slice A1_3 y1_3.length q1_3]) (by simp [results, Tryz.results128, go_sem, cf]) rfl ⟨_, rfl, Kd.R_mono (R_sets (g := w.heap.size + 1) EO1_3 (fun k_ h_ => by have h2_ : w.heap.size + 1 + 1 + 1 ≤ k_ := h_; omega) [.int .i64 a0_0, .int .i64 a0_1, .int .i64 a0_2, .int .i64 y1_0, .int .i64 y1_1, .int .i64 y1_2, .slice A1_3 y1_3.length q1_3] 0) (fun _ _ => trivial), below_sets (by omega) [.int .i64 a0_0, .int .i64 a0_1, .int .i64 a0_2, .int .i64 y1_0, .int .i64 y1_1, .int .i64 y1_2, .slice A1_3 y1_3.length q1_3] 0 _ EB⟩
def laws_toRuleS.l0 : Nat → List (S190) → List (S174) → Int → Option ((List (S174)))
 | 0, _, _, _ => none
 | k + 1, x0, x3, x4 => if x4 < (x0.length : Int) then (if 0 ≤ x4 then ((laws_toRule.f k ((rd_T190 x0 x4).f0) ((rd_T190 x0 x4).f1) ((rd_T190 x0 x4).f2) ((rd_T190 x0 x4).f3.f0) ((rd_T190 x0 x4).f3.f1) ((rd_T190 x0 x4).f3.f2) ((rd_T190 x0 x4).f3.f3)).bind fun bt400 => (if x4 < (x3.length : Int) then (laws_toRuleS.l0 k x0 (x3.set (x4 : Int).toNat (⟨bt400.1, bt400.2.1, bt400.2.2.1, (⟨bt400.2.2.2.1, bt400.2.2.2.2.1, bt400.2.2.2.2.2.1, bt400.2.2.2.2.2.2⟩ : S172)⟩ : S174)) (wrap64 (x4 + 1))) else (none))) else (none)) else (some x3)
def laws_toRuleS.f (k : Nat) (l0 : List (S190)) : Option ((List (S174))) := if 0 ≤ (l0.length : Int) then (if ((l0.length : Int) : Int).toNat ≤ 3909374676536 then (laws_toRuleS.l0 k l0 (List.replicate ((l0.length : Int) : Int).toNat z174) 0) else (none)) else (none)
theorem laws_toRuleS.calls (k : Nat) (A0 : Option Addr) (c0 : Nat) (l0 : List (S190)) (r : List (S174)) (w : World) (hr0 : Kd.C k190 w A0 l0.length l0) (hc0 : l0.length ≤ c0) (h : laws_toRuleS.f k l0 = some r) :
  Calls Tryz.prog 42 #[.slice A0 l0.length c0] w fun e w' => ∃ v0_ : Value, e = .returned (v0_) ∧ Kd.R k174 174 w' w.heap.size (fun _ => True) v0_ r ∧ Below w.heap.size w w' := by
 have hu190 := Tryz.underlying190; have hu174 := Tryz.underlying174
 have HR := Aside0.mk hr0; clear hr0
 have HB := Aside0.mk (Below.refl w.heap.size w)
 unfold laws_toRuleS.f at h
 replace h := ifN h; obtain ⟨c2, h⟩ := h; replace c2 := Aside0.mk c2; replace h := ifN h; obtain ⟨c3, h⟩ := h; replace c3 := Aside0.mk c3
 obtain ⟨ys, hy⟩ : ∃ y_, y_ = (List.replicate ((l0.length : Int) : Int).toNat z174) := ⟨_, rfl⟩
 rw [← hy] at h; replace hy := Aside0.mk hy; replace h := Aside0.mk h
 go_enter Tryz.func42, Tryz.ntmps42
 go_wp2_with (first | ((with_reducible refine gate_dst (N := 7) rfl ?_); refine Kd.R_make k174 _ 174 rfl (N := 7) rfl 37 _ _ rfl (l0.length : Int) rfl rfl Tryz.underlying37 (.agg #[(.int .i64 0), (.int .i64 0), (.int .i64 0), (.int .i64 0), (.int .i64 0), (.int .i64 0), (.slice none 0 0)]) 72 info174 rfl (by decide) (by omega) z174 (ok := fun _ => True) (okp := fun _ => True) (k174_mkM _ _ _ z174 (Kd.R_nil _ _ _ _ _)) (fun _ hk => hk) trivial c2.out (Nat.le_trans (Nat.mul_le_mul_right _ c3.out) (by omega)) (Below.refl _ _) (Nat.le_refl _) ?_; intro v W1 ho hb _ _; rw [← hy.out] at ho; have O := Aside0.mk (Kd.R_lower ho (below_size HB.out)); replace HB := Aside0.mk (below_step HB.out hb); clear hb ho))
 go_loopg [4] k (fun kq v4 w' => ∃ (xs : List S174) (i : Int), v4 = .int .i64 i ∧ Aside0 (laws_toRuleS.l0 kq l0 xs i = some r) ∧ Aside0 (kq ≤ k) ∧ Aside0 (Kd.R k174 174 w' w.heap.size (fun _ => True) v xs) ∧ Aside0 (Below w.heap.size w w'))
 case atStart => exact ⟨_, 0, rfl, h, ⟨Nat.le_refl _⟩, O, HB⟩
 case round =>
  clear h O HB c2 c3
  obtain ⟨xs, i, rfl, H, Hk, O, HB⟩ := hrel
  cases gk with
  | zero => exact absurd H.out (by simp [laws_toRuleS.l0])
  | succ k1 =>
   have h := H.out; clear H; simp only [laws_toRuleS.l0] at h; replace h := ifD h; rcases h with ⟨c, h⟩ | ⟨c, h⟩; rotate_left
   ·have d1 := decF c; clear c; obtain rfl := Option.some.inj h; go_wp2; go_ret; exact ⟨_, rfl, O.out, HB.out⟩
   have d1 := decT c; replace h := ifN h; obtain ⟨c7, h⟩ := h; replace h := Option.bind_eq_some_iff.mp h; obtain ⟨⟨t400, t401, t402, t403, t404, t405, t406⟩, m, h⟩ := h; try dsimp only at h
   replace h := ifN h; obtain ⟨c9, h⟩ := h; replace h := Aside0.mk h; replace m := Aside0.mk m; obtain ⟨ad, A6, a6, e_, x0, x1, x2, x3, x4, x5, x6, l6, f6⟩ := at_T190 HR.out i c7 c; cases e_; replace x0 := xC HB ⟨x0⟩; replace x1 := xC HB ⟨x1⟩; replace x2 := xC HB ⟨x2⟩; replace x3 := xC HB ⟨x3⟩; replace x4 := xC HB ⟨x4⟩; replace x5 := xC HB ⟨x5⟩; replace x6 := xC HB ⟨x6⟩; replace l6 := Aside0.mk l6; replace f6 := Aside0.mk f6; obtain ⟨g, co, eo, hg, hq, -, -⟩ := Kd.R_form O.out (by omega); cases eo; have e1 := eq_true c; have e2 := eq_true c7; have e3 := eq_true c9; replace c := Aside0.mk c; replace c7 := Aside0.mk c7; replace c9 := Aside0.mk c9; replace hg := Aside0.mk hg; replace hq := Aside0.mk hq; go_wp2_with (first | (go_at_call 128; refine (laws_toRule.calls k1 _ _ _ _ _ _ _ _ _ t400 t401 t402 t403 t404 t405 t406 _ (Kd.C_below f6.out HB.out) l6.out  m.out).mono ?_; rintro e W2 ⟨v6, rfl, o6, hb⟩; obtain ⟨B6, b6, rfl⟩ := Kd.R_slice o6; obtain ⟨hc, hf, HP⟩ := R_fill O.out hb c7.out c9.out z174 (seg := [.int .i64 t400, .int .i64 t401, .int .i64 t402, .int .i64 t403, .int .i64 t404, .int .i64 t405, .slice B6 t406.length b6]) 7 rfl rfl hq.out (k174_mkM _ _ _ (⟨t400, t401, t402, (⟨t403, t404, t405, t406⟩ : S172)⟩ : S174) (R_above o6 (below_size HB.out) (Nat.le_refl _))); obtain ⟨_, y0⟩ := hc 0 (by decide); have q0 := hf 0; obtain ⟨_, y1⟩ := hc 1 (by decide); have q1 := hf 1; obtain ⟨_, y2⟩ := hc 2 (by decide); have q2 := hf 2; obtain ⟨_, y3⟩ := hc 3 (by decide); have q3 := hf 3; obtain ⟨_, y4⟩ := hc 4 (by decide); have q4 := hf 4; obtain ⟨_, y5⟩ := hc 5 (by decide); have q5 := hf 5; obtain ⟨_, y6⟩ := hc 6 (by decide); have q6 := hf 6; simp only [Nat.add_zero] at y0 q0; replace HP := Aside0.mk HP; replace HB := Aside0.mk (below_step HB.out hb); clear hb hc hf O o6))
   go_roundg k1
   case measure => have := Hk.out; omega
   case rel => exact ⟨_, _, rfl, h, ⟨by have := Hk.out; omega⟩, HP, ⟨below_set (below_set (below_set (below_set (below_set (below_set (below_set (HB.out) hg.out) hg.out) hg.out) hg.out) hg.out) hg.out) hg.out⟩⟩
def laws_toPolicy.f (k : Nat) (a0_0 : Int) (l0_1 : List (S190)) : Option (Int × (List (S174))) := (laws_toRuleS.f k l0_1).bind fun t427 => (some (a0_0, t427))
theorem laws_toPolicy.calls (k : Nat) (a0_0 : Int) (A0_1 : Option Addr) (c0_1 : Nat) (l0_1 : List (S190)) (r1 : Int) (r2 : List (S174)) (w : World) (hr0_1 : Kd.C k190 w A0_1 l0_1.length l0_1) (hc0_1 : l0_1.length ≤ c0_1) (h : laws_toPolicy.f k a0_0 l0_1 = some (r1, r2)) :
  Calls Tryz.prog 20 #[.agg #[.int .i64 a0_0, .slice A0_1 l0_1.length c0_1]] w fun e w' => ∃ v1_ : Value, e = .returned (.agg #[.int .i64 r1, v1_]) ∧ Kd.R k174 174 w' w.heap.size (fun _ => True) v1_ r2 ∧ Below w.heap.size w w' := by
 have hu26 := Tryz.underlying26; have hu39 := Tryz.underlying39
 have HR0_1 := Aside0.mk hr0_1; have HC0_1 := Aside0.mk hc0_1; clear hr0_1 hc0_1
 unfold laws_toPolicy.f at h
 obtain ⟨y1_0, m1, h⟩ := Option.bind_eq_some_iff.mp h; try dsimp only at h
 simp only [Option.some.injEq, Prod.mk.injEq] at h
 obtain ⟨rfl, rfl⟩ := h
 replace m1 := Aside0.mk m1
 have HB := Aside0.mk (Below.refl w.heap.size w)
 go_enter Tryz.func20, Tryz.ntmps20
 go_upto_region 4 with (first | (go_at_call 42; refine (laws_toRuleS.calls k _ _ _ y1_0 _ (Kd.C_below HR0_1.out (by repeat (first | exact HB.out | apply below_alloc | refine bSet ?_ (by omega)))) HC0_1.out m1.out).mono ?_; rintro e W1 ⟨v0, rfl, ho0, hb⟩; obtain ⟨A1_0, q1_0, rfl⟩ := Kd.R_slice ho0; have O1_0 := Aside0.mk (R_above (base := w.heap.size) (n := w.heap.size + 1 + 1 + 1) ho0 (by simp; omega) (by simp)); have q_ := alloc3 w (.cells #[.int .i64 a0_0, .slice A0_1 l0_1.length c0_1] 26) (.cells #[.int .i64 0, .slice none 0 0] 39) (.cells #[.int .i64 a0_0, .slice none 0 0] 39); have B1 := Aside0.mk (blk_below q_.1 hb); have B2 := Aside0.mk (blk_below q_.2.1 hb); have B3 := Aside0.mk (blk_below q_.2.2 hb); clear q_; replace HB := Aside0.mk (below_step (by repeat (first | exact HB.out | apply below_alloc | refine bSet ?_ (by omega))) hb); clear hb ho0; have c1 := blk_cell B1.out; have c3 := blk_cell B3.out; have z3 := blk_frozen B3.out))
 have E3 : (W1.setCell ⟨w.heap.size + 1 + 1, 1, none⟩ (.slice A1_0 y1_0.length q1_0)).heap[w.heap.size + 1 + 1]? = some (.cells #[.int .i64 a0_0, .slice A1_0 y1_0.length q1_0] 39 (0, 0)) := (blk_set B3.out 1 (.slice A1_0 y1_0.length q1_0))
 have E2 : (W1.setCell ⟨w.heap.size + 1 + 1, 1, none⟩ (.slice A1_0 y1_0.length q1_0)).heap[w.heap.size + 1]? = some (.cells #[.int .i64 0, .slice none 0 0] 39 (0, 0)) := (by repeat (first | exact B2.out | refine blk_far ?_ (by simp <;> omega) _))
 have EB : Below w.heap.size w (W1.setCell ⟨w.heap.size + 1 + 1, 1, none⟩ (.slice A1_0 y1_0.length q1_0)) := (by repeat (first | exact HB.out | apply below_alloc | refine bSet ?_ (by omega)))
 have EO1_0 : Kd.R k174 174 (W1.setCell ⟨w.heap.size + 1 + 1, 1, none⟩ (.slice A1_0 y1_0.length q1_0)) w.heap.size (fun k_ => w.heap.size + 1 + 1 + 1 ≤ k_) (.slice A1_0 y1_0.length q1_0) y1_0 := (by repeat (first | exact O1_0.out | refine Kd.R_far ?_ (fun k_ h_ => by have h2_ : w.heap.size + 1 + 1 + 1 ≤ k_ := h_; show _ ≠ _; simp; omega) _))
 clear c1 c3 z3 HB B1 B2 B3 O1_0
 generalize (W1.setCell ⟨w.heap.size + 1 + 1, 1, none⟩ (.slice A1_0 y1_0.length q1_0)) = Wf at E3 E2 EB EO1_0 ⊢
 have c3 := blk_cell E3; have c2 := blk_cell E2; have z2 := blk_frozen E2
 go_wp2
 have cf := blk_cell (blk_sets0 (rest := [.int .i64 0, .slice none 0 0]) E2 [.int .i64 a0_0, .slice A1_0 y1_0.length q1_0] rfl); simp only [World.setCells] at cf
 exact bodyPost_ret (v := .agg #[.int .i64 a0_0, .slice A1_0 y1_0.length q1_0]) (by simp [results, Tryz.results20, go_sem, cf]) rfl ⟨_, rfl, Kd.R_mono (R_sets (g := w.heap.size + 1) EO1_0 (fun k_ h_ => by have h2_ : w.heap.size + 1 + 1 + 1 ≤ k_ := h_; omega) [.int .i64 a0_0, .slice A1_0 y1_0.length q1_0] 0) (fun _ _ => trivial), below_sets (by omega) [.int .i64 a0_0, .slice A1_0 y1_0.length q1_0] 0 _ EB⟩
def laws_toRequest.f (a0_0 : Int) (a0_1 : Int) (a0_2 : Int) (a0_3 : Int) (a0_4 : Int) (a0_5 : Int) : Option (Int × Int × Int × Int × Int × Int) := some (a0_0, a0_1, a0_2, a0_3, a0_4, a0_5)
theorem laws_toRequest.calls (a0_0 : Int) (a0_1 : Int) (a0_2 : Int) (a0_3 : Int) (a0_4 : Int) (a0_5 : Int) (r1 : Int) (r2 : Int) (r3 : Int) (r4 : Int) (r5 : Int) (r6 : Int) (w : World) (h : laws_toRequest.f a0_0 a0_1 a0_2 a0_3 a0_4 a0_5 = some (r1, r2, r3, r4, r5, r6)) :
  Calls Tryz.prog 21 #[.agg #[.int .i64 a0_0, .int .i64 a0_1, .int .i64 a0_2, .int .i64 a0_3, .int .i64 a0_4, .int .i64 a0_5]] w fun e w' => e = .returned (.agg #[.int .i64 r1, .int .i64 r2, .int .i64 r3, .int .i64 r4, .int .i64 r5, .int .i64 r6]) ∧ Below w.heap.size w w' := by
 have hu28 := Tryz.underlying28; have hu41 := Tryz.underlying41
 unfold laws_toRequest.f at h
 simp only [Option.some.injEq, Prod.mk.injEq] at h
 obtain ⟨rfl, rfl, rfl, rfl, rfl, rfl⟩ := h
 go_enter Tryz.func21, Tryz.ntmps21
 go_wp2
 exact bodyPost_ret (v := .agg #[.int .i64 a0_0, .int .i64 a0_1, .int .i64 a0_2, .int .i64 a0_3, .int .i64 a0_4, .int .i64 a0_5]) (by simp [results, Tryz.results21, go_sem]) rfl ⟨rfl, by repeat (first | exact Below.refl _ _ | apply below_alloc | refine bSet ?_ (by omega))⟩
def impl_InRange.f (a0 : Int) (a1 : Int) (a2 : Int) : Option (Bool) := if a1 ≤ a0 then (some (decide (a0 ≤ a2))) else (some false)
theorem impl_InRange.calls (a0 : Int) (a1 : Int) (a2 : Int) (r : Bool) (w : World) (h : impl_InRange.f a0 a1 a2 = some r) :
  Calls Tryz.prog 98 #[.int .i64 a0, .int .i64 a1, .int .i64 a2] w fun e w' => e = .returned (.bool r) ∧ Below w.heap.size w w' := by
 have HB := Aside0.mk (Below.refl w.heap.size w)
 have H := h
 clear h
 unfold impl_InRange.f at H
 go_enter Tryz.func98, Tryz.ntmps98
 replace H := ifD H; rcases H with ⟨c1, H⟩ | ⟨c1, H⟩
 ·have c1_0 := decT c1
  replace c1 := Aside0.mk c1
  (try rw [c1_0])
  cases H
  go_wp2
  go_ret
  exact ⟨rfl, HB.out⟩
 have c1_0 := decF c1
 replace c1 := Aside0.mk c1
 (try rw [c1_0])
 cases H
 go_wp2
 go_ret
 exact ⟨rfl, HB.out⟩
def impl_IsName.f (a0 : Int) : Option (Bool) := (impl_InRange.f a0 10 49).bind fun t442 => (some t442)
theorem impl_IsName.calls (a0 : Int) (r : Bool) (w : World) (h : impl_IsName.f a0 = some r) :
  Calls Tryz.prog 230 #[.int .i64 a0] w fun e w' => e = .returned (.bool r) ∧ Below w.heap.size w w' := by
 have HB := Aside0.mk (Below.refl w.heap.size w)
 have H := h
 clear h
 unfold impl_IsName.f at H
 go_enter Tryz.func230, Tryz.ntmps230
 replace H := obs H
 obtain ⟨t442, hm, H⟩ := H
 (try dsimp only at H)
 replace H := Aside0.mk H
 have hcall := impl_InRange.calls _ _ _ _ w  hm
 clear hm
 (go_wp2_with fail)
 refine hcall.mono ?_
 rintro e W1 ⟨rfl, hb⟩
 clear hcall
 replace HB := bH HB hb; clear hb
 replace H := H.out
 cases H
 go_wp2
 go_ret
 exact ⟨rfl, HB.out⟩
def impl_KindOf.f (a0 : Int) : Option (Int) := (impl_IsName.f a0).bind fun t443 => (if t443 = true then (some (wrap64 (Int.tdiv a0 10))) else (some 0))
theorem impl_KindOf.calls (a0 : Int) (r : Int) (w : World) (h : impl_KindOf.f a0 = some r) :
  Calls Tryz.prog 231 #[.int .i64 a0] w fun e w' => e = .returned (.int .i64 r) ∧ Below w.heap.size w w' := by
 have HB := Aside0.mk (Below.refl w.heap.size w)
 have H := h
 clear h
 unfold impl_KindOf.f at H
 go_enter Tryz.func231, Tryz.ntmps231
 replace H := obs H
 obtain ⟨t443, hm, H⟩ := H
 (try dsimp only at H)
 replace H := Aside0.mk H
 have hcall := impl_IsName.calls _ _ w  hm
 clear hm
 (go_wp2_with fail)
 refine hcall.mono ?_
 rintro e W1 ⟨rfl, hb⟩
 clear hcall
 replace HB := bH HB hb; clear hb
 replace H := ifD H.out; rcases H with ⟨c2, H⟩ | ⟨c2, H⟩
 ·subst c2
  cases H
  go_wp2
  go_ret
  exact ⟨rfl, HB.out⟩
 replace c2 := nT c2
 subst c2
 cases H
 go_wp2
 go_ret
 exact ⟨rfl, HB.out⟩
def impl_HasKind.f (a0 : Int) (a1 : Int) : Option (Bool) := (impl_IsName.f a0).bind fun t444 => (if t444 = true then ((impl_KindOf.f a0).bind fun t445 => (some (t445 == a1))) else (some false))
theorem impl_HasKind.calls (a0 : Int) (a1 : Int) (r : Bool) (w : World) (h : impl_HasKind.f a0 a1 = some r) :
  Calls Tryz.prog 108 #[.int .i64 a0, .int .i64 a1] w fun e w' => e = .returned (.bool r) ∧ Below w.heap.size w w' := by
 have HB := Aside0.mk (Below.refl w.heap.size w)
 have H := h
 clear h
 unfold impl_HasKind.f at H
 go_enter Tryz.func108, Tryz.ntmps108
 replace H := obs H
 obtain ⟨t444, hm, H⟩ := H
 (try dsimp only at H)
 replace H := Aside0.mk H
 have hcall := impl_IsName.calls _ _ w  hm
 clear hm
 (go_wp2_with fail)
 refine hcall.mono ?_
 rintro e W1 ⟨rfl, hb⟩
 clear hcall
 replace HB := bH HB hb; clear hb
 replace H := ifD H.out; rcases H with ⟨c2, H⟩ | ⟨c2, H⟩
 rotate_left
 ·replace c2 := nT c2
  subst c2
  cases H
  go_wp2
  go_ret
  exact ⟨rfl, HB.out⟩
 subst c2
 replace H := obs H
 obtain ⟨t445, hm, H⟩ := H
 (try dsimp only at H)
 replace H := Aside0.mk H
 have hcall := impl_KindOf.calls _ _ W1  hm
 clear hm
 (go_wp2_with fail)
 refine hcall.mono ?_
 rintro e W3 ⟨rfl, hb⟩
 clear hcall
 replace HB := bH HB hb; clear hb
 replace H := H.out
 cases H
 go_wp2
 go_ret
 exact ⟨rfl, HB.out⟩
def impl_IsTime.f (a0 : Int) : Option (Bool) := (impl_InRange.f a0 0 10000).bind fun t446 => (some t446)
theorem impl_IsTime.calls (a0 : Int) (r : Bool) (w : World) (h : impl_IsTime.f a0 = some r) :
  Calls Tryz.prog 109 #[.int .i64 a0] w fun e w' => e = .returned (.bool r) ∧ Below w.heap.size w w' := by
 have HB := Aside0.mk (Below.refl w.heap.size w)
 have H := h
 clear h
 unfold impl_IsTime.f at H
 go_enter Tryz.func109, Tryz.ntmps109
 replace H := obs H
 obtain ⟨t446, hm, H⟩ := H
 (try dsimp only at H)
 replace H := Aside0.mk H
 have hcall := impl_InRange.calls _ _ _ _ w  hm
 clear hm
 (go_wp2_with fail)
 refine hcall.mono ?_
 rintro e W1 ⟨rfl, hb⟩
 clear hcall
 replace HB := bH HB hb; clear hb
 replace H := H.out
 cases H
 go_wp2
 go_ret
 exact ⟨rfl, HB.out⟩
def impl_IsRequest.f (a0_0 : Int) (a0_1 : Int) (a0_2 : Int) (a0_3 : Int) (a0_4 : Int) (a0_5 : Int) : Option (Bool) := (impl_HasKind.f a0_0 1).bind fun t448 => (if t448 = true then ((impl_HasKind.f a0_1 2).bind fun t449 => (if t449 = true then ((impl_HasKind.f a0_2 3).bind fun t450 => (if t450 = true then ((impl_HasKind.f a0_4 4).bind fun t451 => (if t451 = true then ((impl_InRange.f a0_3 0 5).bind fun t452 => (if t452 = true then ((impl_IsTime.f a0_5).bind fun t453 => (some t453)) else (some false))) else (some false))) else (some false))) else (some false))) else (some false))
theorem impl_IsRequest.calls (a0_0 : Int) (a0_1 : Int) (a0_2 : Int) (a0_3 : Int) (a0_4 : Int) (a0_5 : Int) (r : Bool) (w : World) (h : impl_IsRequest.f a0_0 a0_1 a0_2 a0_3 a0_4 a0_5 = some r) :
  Calls Tryz.prog 33 #[.agg #[.int .i64 a0_0, .int .i64 a0_1, .int .i64 a0_2, .int .i64 a0_3, .int .i64 a0_4, .int .i64 a0_5]] w fun e w' => e = .returned (.bool r) ∧ Below w.heap.size w w' := by
 have HB := Aside0.mk (Below.refl w.heap.size w)
 have H := h
 clear h
 unfold impl_IsRequest.f at H
 have hu41 := Tryz.underlying41
 go_enter Tryz.func33, Tryz.ntmps33
 replace H := Aside0.mk H
 go_upto_region 1 with (first | ((with_reducible refine gate_dst (N := 1) rfl ?_); refine box_event ?hg (N := 1) ?hd (cs := #[.int .i64 a0_0, .int .i64 a0_1, .int .i64 a0_2, .int .i64 a0_3, .int .i64 a0_4, .int .i64 a0_5]) (t := 41) ?hr ?_; (case hd => rfl); (case hg => rfl); (case hr => first | (go_simp; done) | (go_simp; rfl)); intro gb1 hg W1 hbox hb; replace HB := bH HB hb; clear hb; have BK1 := Aside0.mk hbox; have c_BK1 := blk_cell hbox; have z_BK1 := blk_frozen hbox; clear hg hbox))
 replace H := H.out
 replace H := obs H
 obtain ⟨t448, hm, H⟩ := H
 (try dsimp only at H)
 replace H := Aside0.mk H
 have hcall := impl_HasKind.calls _ _ _ W1  hm
 clear hm
 (go_wp2_with fail)
 refine hcall.mono ?_
 rintro e W2 ⟨rfl, hb⟩
 clear hcall
 replace BK1 := bK BK1 hb; replace c_BK1 := bcl BK1; replace z_BK1 := bfr BK1
 replace HB := bH HB hb; clear hb
 replace H := ifD H.out; rcases H with ⟨c3, H⟩ | ⟨c3, H⟩
 rotate_left
 ·replace c3 := nT c3
  subst c3
  cases H
  go_wp2
  go_ret
  exact ⟨rfl, HB.out⟩
 subst c3
 replace H := obs H
 obtain ⟨t449, hm, H⟩ := H
 (try dsimp only at H)
 replace H := Aside0.mk H
 have hcall := impl_HasKind.calls _ _ _ W2  hm
 clear hm
 (go_wp2_with fail)
 refine hcall.mono ?_
 rintro e W4 ⟨rfl, hb⟩
 clear hcall
 replace BK1 := bK BK1 hb; replace c_BK1 := bcl BK1; replace z_BK1 := bfr BK1
 replace HB := bH HB hb; clear hb
 replace H := ifD H.out; rcases H with ⟨c5, H⟩ | ⟨c5, H⟩
 rotate_left
 ·replace c5 := nT c5
  subst c5
  cases H
  go_wp2
  go_ret
  exact ⟨rfl, HB.out⟩
 subst c5
 replace H := obs H
 obtain ⟨t450, hm, H⟩ := H
 (try dsimp only at H)
 replace H := Aside0.mk H
 have hcall := impl_HasKind.calls _ _ _ W4  hm
 clear hm
 (go_wp2_with fail)
 refine hcall.mono ?_
 rintro e W6 ⟨rfl, hb⟩
 clear hcall
 replace BK1 := bK BK1 hb; replace c_BK1 := bcl BK1; replace z_BK1 := bfr BK1
 replace HB := bH HB hb; clear hb
 replace H := ifD H.out; rcases H with ⟨c7, H⟩ | ⟨c7, H⟩
 rotate_left
 ·replace c7 := nT c7
  subst c7
  cases H
  go_wp2
  go_ret
  exact ⟨rfl, HB.out⟩
 subst c7
 replace H := obs H
 obtain ⟨t451, hm, H⟩ := H
 (try dsimp only at H)
 replace H := Aside0.mk H
 have hcall := impl_HasKind.calls _ _ _ W6  hm
 clear hm
 (go_wp2_with fail)
 refine hcall.mono ?_
 rintro e W8 ⟨rfl, hb⟩
 clear hcall
 replace BK1 := bK BK1 hb; replace c_BK1 := bcl BK1; replace z_BK1 := bfr BK1
 replace HB := bH HB hb; clear hb
 replace H := ifD H.out; rcases H with ⟨c9, H⟩ | ⟨c9, H⟩
 rotate_left
 ·replace c9 := nT c9
  subst c9
  cases H
  go_wp2
  go_ret
  exact ⟨rfl, HB.out⟩
 subst c9
 replace H := obs H
 obtain ⟨t452, hm, H⟩ := H
 (try dsimp only at H)
 replace H := Aside0.mk H
 have hcall := impl_InRange.calls _ _ _ _ W8  hm
 clear hm
 (go_wp2_with fail)
 refine hcall.mono ?_
 rintro e W10 ⟨rfl, hb⟩
 clear hcall
 replace BK1 := bK BK1 hb; replace c_BK1 := bcl BK1; replace z_BK1 := bfr BK1
 replace HB := bH HB hb; clear hb
 replace H := ifD H.out; rcases H with ⟨c11, H⟩ | ⟨c11, H⟩
 rotate_left
 ·replace c11 := nT c11
  subst c11
  cases H
  go_wp2
  go_ret
  exact ⟨rfl, HB.out⟩
 subst c11
 replace H := obs H
 obtain ⟨t453, hm, H⟩ := H
 (try dsimp only at H)
 replace H := Aside0.mk H
 have hcall := impl_IsTime.calls _ _ W10  hm
 clear hm
 (go_wp2_with fail)
 refine hcall.mono ?_
 rintro e W12 ⟨rfl, hb⟩
 clear hcall
 replace BK1 := bK BK1 hb; replace c_BK1 := bcl BK1; replace z_BK1 := bfr BK1
 replace HB := bH HB hb; clear hb
 replace H := H.out
 cases H
 go_wp2
 go_ret
 exact ⟨rfl, HB.out⟩
end Go.Proofs.YtmgfklmhelabcaaGreat.QFnExactDecisionUntil
