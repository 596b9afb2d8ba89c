/- The machine side of FnExactIsCenter: what each function that it reaches computes, and that the machine's call gives just that. -/
import Derived.Test.YtineejdlpcgnkaaGreatQFnExactIsCenterx0
import Derived.Test.YtineejdlpcgnkaaGreatQFnExactIsCenterx1
import Derived.Test.YtineejdlpcgnkaaGreatQFnExactIsCenterx3
import Derived.Test.YtineejdlpcgnkaaGreatQFnExactIsCenterx6
import Derived.Test.YtineejdlpcgnkaaGreatQFnExactIsCenterx7
namespace Go.Proofs.YtineejdlpcgnkaaGreat.QFnExactIsCenter
open Go.RowKit Go.Proofs.YtineejdlpcgnkaaGreatW.PrintWords Go.Proofs.YtineejdlpcgnkaaGreatW.PrintLast Go.Proofs.YtineejdlpcgnkaaGreatW.PrintMore
attribute [local go_sem] max2_int min2_int max_two min_two max_three min_three max_four min_four   -- for this text's walks alone
set_option linter.unusedVariables false
set_option linter.unusedSimpArgs false

attribute [local go_sem high] eqA64
/-! ### spec_IsCenter: function 8 -/
def spec_IsCenter.l0 : Nat → Int → List (S110) → List (S117) → List (S53) → List (S121) → Int → List (S64) → Option (Bool)
 | 0, _, _, _, _, _, _, _ => none
 | k + 1, x3, x288000, x288001, x288002, x288003, x288004, x288005 => if x3 < (x288005.length : Int) then (if 0 ≤ x3 then (if ((rd_T64 x288005 x3).f0) = (wrap64 (x3 + 1)) then ((spec_IsCert.f ((rd_T64 x288005 x3).f0) ((rd_T64 x288005 x3).f1) ((rd_T64 x288005 x3).f2) ((rd_T64 x288005 x3).f3) ((rd_T64 x288005 x3).f4) ((rd_T64 x288005 x3).f5)).bind fun t290 => (if t290 = true then ((spec_MarkCert.f k x288004 ((rd_T64 x288005 x3).f0) ((rd_T64 x288005 x3).f1) ((rd_T64 x288005 x3).f2) ((rd_T64 x288005 x3).f3) ((rd_T64 x288005 x3).f4) ((rd_T64 x288005 x3).f5)).bind fun bt292 => (if (!(bt292.1 == ((rd_T64 x288005 x3).f0)) || (!(bt292.2.1 == ((rd_T64 x288005 x3).f1)) || (!(bt292.2.2.1 == ((rd_T64 x288005 x3).f2)) || (!(bt292.2.2.2.1 == ((rd_T64 x288005 x3).f3)) || (!(bt292.2.2.2.2.1 == ((rd_T64 x288005 x3).f4)) || (!(bt292.2.2.2.2.2 == ((rd_T64 x288005 x3).f5)))))))) = true then (some false) else (spec_IsCenter.l0 k (wrap64 (x3 + 1)) x288000 x288001 x288002 x288003 x288004 x288005))) else (some false))) else (some false)) else (none)) else ((spec_AreIssuers.f k x288000).bind fun t299 => (if t299 = true then ((spec_AreEpochs.f k x288001).bind fun t300 => (if t300 = true then ((spec_IsStore.f k x288002).bind fun t301 => (if t301 = true then ((spec_AreRevoked.f k x288003).bind fun t302 => (if t302 = true then ((spec_IsValidKey.f x288004).bind fun t303 => (if t303 = true then (some (decide ((x288005.length : Int) ≤ 20))) else (some false))) else (some false))) else (some false))) else (some false))) else (some false)))
def spec_IsCenter.f (k : Nat) (l0_0 : List (S110)) (l0_1 : List (S117)) (l0_2 : List (S53)) (l0_3 : List (S121)) (a0_4 : Int) (l0_5 : List (S64)) : Option (Bool) := spec_IsCenter.l0 k 0 l0_0 l0_1 l0_2 l0_3 a0_4 l0_5
open Go.Proofs.YtineejdlpcgnkaaGreatM in
set_option maxHeartbeats 8000000 in
set_option maxRecDepth 100000 in
theorem spec_IsCenter.calls (k : Nat) (A0_0 : Option Addr) (c0_0 : Nat) (l0_0 : List (S110)) (A0_1 : Option Addr) (c0_1 : Nat) (l0_1 : List (S117)) (A0_2 : Option Addr) (c0_2 : Nat) (l0_2 : List (S53)) (A0_3 : Option Addr) (c0_3 : Nat) (l0_3 : List (S121)) (a0_4 : Int) (A0_5 : Option Addr) (c0_5 : Nat) (l0_5 : List (S64)) (r : Bool) (w : World) (hr0_0 : Kd.C k110 w A0_0 l0_0.length l0_0) (hc0_0 : l0_0.length ≤ c0_0) (hr0_1 : Kd.C k117 w A0_1 l0_1.length l0_1) (hc0_1 : l0_1.length ≤ c0_1) (hr0_2 : Kd.C k53 w A0_2 l0_2.length l0_2) (hc0_2 : l0_2.length ≤ c0_2) (hr0_3 : Kd.C k121 w A0_3 l0_3.length l0_3) (hc0_3 : l0_3.length ≤ c0_3) (hr0_5 : Kd.C k64 w A0_5 l0_5.length l0_5) (hc0_5 : l0_5.length ≤ c0_5) (h : spec_IsCenter.f k l0_0 l0_1 l0_2 l0_3 a0_4 l0_5 = some r) :
  Calls Tryz.prog 8 #[.agg #[.slice A0_0 l0_0.length c0_0, .slice A0_1 l0_1.length c0_1, .slice A0_2 l0_2.length c0_2, .slice A0_3 l0_3.length c0_3, .int .i64 a0_4, .slice A0_5 l0_5.length c0_5]] w fun e w' => e = .returned (.bool r) ∧ Below w.heap.size w w' := by
 have HR0_0 := Aside0.mk hr0_0
 have HC0_0 := Aside0.mk hc0_0
 clear hr0_0 hc0_0
 have HR0_1 := Aside0.mk hr0_1
 have HC0_1 := Aside0.mk hc0_1
 clear hr0_1 hc0_1
 have HR0_2 := Aside0.mk hr0_2
 have HC0_2 := Aside0.mk hc0_2
 clear hr0_2 hc0_2
 have HR0_3 := Aside0.mk hr0_3
 have HC0_3 := Aside0.mk hc0_3
 clear hr0_3 hc0_3
 have HR0_5 := Aside0.mk hr0_5
 have HC0_5 := Aside0.mk hc0_5
 clear hr0_5 hc0_5
 have HB := Aside0.mk (Below.refl w.heap.size w)
 have H := h
 clear h
 unfold spec_IsCenter.f at H
 have hu37 := Tryz.underlying37
 have hu64 := Tryz.underlying64
 go_enter Tryz.func8, Tryz.ntmps8
 replace H := Aside0.mk H
 go_upto_region 1 with (first | ((with_reducible refine gate_dst (N := 1) rfl ?_); refine box_event ?hg (N := 1) ?hd (cs := #[.slice A0_0 l0_0.length c0_0, .slice A0_1 l0_1.length c0_1, .slice A0_2 l0_2.length c0_2, .slice A0_3 l0_3.length c0_3, .int .i64 a0_4, .slice A0_5 l0_5.length c0_5]) (t := 37) ?hr ?_; (case hd => rfl); (case hg => rfl); (case hr => first | (go_simp; done) | (go_simp; rfl)); intro gb1 hg W1 hbox hb; replace HB := bH HB hb; clear hb; have BK1 := Aside0.mk hbox; have c_BK1 := blk_cell hbox; have z_BK1 := blk_frozen hbox; clear hg hbox))
 go_wp2
 go_loopg [3] k (fun kq v3 w' => ∃ (x3_2 : Int), v3 = .int .i64 x3_2 ∧ Aside0 (spec_IsCenter.l0 kq x3_2 l0_0 l0_1 l0_2 l0_3 a0_4 l0_5 = some r) ∧ Aside0 (kq ≤ k) ∧ Aside0 (w'.heap[gb1]? = some (.cells #[.slice A0_0 l0_0.length c0_0, .slice A0_1 l0_1.length c0_1, .slice A0_2 l0_2.length c0_2, .slice A0_3 l0_3.length c0_3, .int .i64 a0_4, .slice A0_5 l0_5.length c0_5] 37 (0, 0))) ∧ Aside0 (Below w.heap.size w w'))
 case atStart => exact ⟨(0), (by first | rfl | (simp; done) | (simp [*]; done)), H, ⟨Nat.le_refl _⟩, BK1, HB⟩
 case round =>
  clear H HB BK1 c_BK1 z_BK1
  obtain ⟨x3_2, rfl, HA, Hk2, BK1, HB⟩ := hrel
  have c_BK1 := blk_cell BK1.out; have z_BK1 := blk_frozen BK1.out
  cases gk with
  | zero => exact absurd HA.out (by simp [spec_IsCenter.l0])
  | succ k2 =>
   have H := HA.out
   clear HA
   simp only [spec_IsCenter.l0] at H
   replace H := ifD H; rcases H with ⟨c3, H⟩ | ⟨c3, H⟩
   ·have c3_0 := decT c3
    replace c3 := Aside0.mk c3
    first | rw [c3_0] | skip
    replace H := Aside0.mk H
    try go_wp2
    clear c_BK1 z_BK1; have rBK1 := BK1; replace BK1 := dK BK1
    have HBr := HB; replace HB := dH HB
    refine stA (n := 34) (S := fun w' => Below wr.heap.size wr w') (by kernel_rfl) rfl (below_drew1 (Below.refl _ wr)) (by kernel_rfl) (fun hHeld => ?_)
    generalize wr.drew = W4 at HB BK1 hHeld ⊢
    refine pu 0 (some 11) 1 ?_; refine pu 2 (some 13) 5 ?_; refine ld 1 (some 12) 7 hHeld ?_ (hr := by (intro w' h_; have y_ := kD rBK1 h_; go_simp; with_reducible rfl))
    replace H := H.out
    replace H := ifN H; obtain ⟨c5, H⟩ := H
    have c5_0 := decT c5
    replace c5 := Aside0.mk c5
    first | rw [c5_0] | skip
    have p288 : 0 ≤ (x3_2 : Int) := (of_decide_eq_true (by assumption))
    have q288 : x3_2 < (l0_5.length : Int) := (of_decide_eq_true (by assumption))
    obtain ⟨ad288, e288, hx288_0, hx288_1, hx288_2, hx288_3, hx288_4, hx288_5⟩ := at_T64 HR0_5.out x3_2 p288 q288
    cases e288
    replace hx288_0 := Aside0.mk hx288_0
    replace hx288_1 := Aside0.mk hx288_1
    replace hx288_2 := Aside0.mk hx288_2
    replace hx288_3 := Aside0.mk hx288_3
    replace hx288_4 := Aside0.mk hx288_4
    replace hx288_5 := Aside0.mk hx288_5
    have r288 := eq_true p288; have s288 := eq_true q288
    replace p288 := Aside0.mk p288; replace q288 := Aside0.mk q288
    replace H := Aside0.mk H
    refine pu 3 (some 14) 15 ?_; refine pu 4 (some 15) 31 ?_; refine pu 6 (some 17) 95 ?_; refine pu 7 (some 18) 223 ?_; refine ld 5 (some 16) 255 hHeld ?_ (hr := by (intro w' h_; have y0_ := xD HBr h_ hx288_0; have y1_ := xD HBr h_ hx288_1; have y2_ := xD HBr h_ hx288_2; have y3_ := xD HBr h_ hx288_3; have y4_ := xD HBr h_ hx288_4; have y5_ := xD HBr h_ hx288_5; go_simp; with_reducible rfl))
    replace H := H.out
    replace H := ifD H; rcases H with ⟨c6, H⟩ | ⟨c6, H⟩
    ·have c6_0 := decT c6; have c6_1 := eqT c6; have c6_2 := neT c6
     clear c6
     first | rw [c6_1] | rw [c6_2] | skip
     replace H := Option.bind_eq_some_iff.mp H
     obtain ⟨t290, hm, H⟩ := H
     try dsimp only at H
     replace hm := Aside0.mk hm
     replace H := Aside0.mk H
     refine pu 8 (some 19) 511 ?_; refine pu 9 (some 20) 1023 ?_; refine pu 10 (some 21) 2047 ?_; refine pu 12 (some 23) 6143 ?_; refine ld 11 (some 22) 8191 hHeld ?_ (hr := by (intro w' h_; have y_ := kD rBK1 h_; go_simp; with_reducible rfl)); refine pu 13 (some 24) 16383 ?_; refine ld 14 (some 25) 32767 hHeld ?_ (hr := by (intro w' h_; have y0_ := xD HBr h_ hx288_0; have y1_ := xD HBr h_ hx288_1; have y2_ := xD HBr h_ hx288_2; have y3_ := xD HBr h_ hx288_3; have y4_ := xD HBr h_ hx288_4; have y5_ := xD HBr h_ hx288_5; go_simp; with_reducible rfl))
     refine on 15 (some 26) 65535 (fun K hK => ?_)
     have hcall := spec_IsCert.calls _ _ _ _ _ _ _ W4  hm.out
     refine goes_ Tryz.func26 (by kernel_rfl) rfl #[.agg #[.int .i64 ((rd_T64 l0_5 x3_2).f0), .int .i64 ((rd_T64 l0_5 x3_2).f1), .int .i64 ((rd_T64 l0_5 x3_2).f2), .int .i64 ((rd_T64 l0_5 x3_2).f3), .int .i64 ((rd_T64 l0_5 x3_2).f4), .int .i64 ((rd_T64 l0_5 x3_2).f5)]] (by rfl) rfl rfl (by (try simp only [List.map_toArray, List.map_cons, List.map_nil]); first | done | rfl) ?_
     refine hcall.mono ?_
     rintro e W8 ⟨rfl, hb⟩
     refine ⟨_, rfl, ?_⟩
     clear hcall hm
     replace hHeld := below_step hHeld hb
     replace BK1 := bK BK1 hb
     replace HB := bH HB hb; clear hb
     refine hK.out _ _ hHeld (fun hHeld => ?_)
     clear hK K
     refine nr 26 ?_
     replace H := H.out
     replace H := ifD H; rcases H with ⟨c9, H⟩ | ⟨c9, H⟩
     ·subst c9
      replace H := Option.bind_eq_some_iff.mp H
      obtain ⟨⟨t292, t293, t294, t295, t296, t297⟩, hm, H⟩ := H
      try dsimp only at H
      replace hm := Aside0.mk hm
      replace H := Aside0.mk H
      refine pu 16 (some 27) 131071 ?_; refine pu 17 (some 28) 262143 ?_; refine pu 18 (some 29) 524287 ?_; refine pu 19 (some 30) 1048575 ?_; refine pu 21 (some 32) 3145727 ?_; refine pu 23 (some 34) 11534335 ?_; refine ld 20 (some 31) 12582911 hHeld ?_ (hr := by (intro w' h_; have y_ := kD rBK1 h_; go_simp; with_reducible rfl)); refine ld 22 (some 33) 16777215 hHeld ?_ (hr := by (intro w' h_; have y_ := kD rBK1 h_; go_simp; with_reducible rfl)); refine pu 24 (some 35) 33554431 ?_; refine ld 25 (some 36) 67108863 hHeld ?_ (hr := by (intro w' h_; have y0_ := xD HBr h_ hx288_0; have y1_ := xD HBr h_ hx288_1; have y2_ := xD HBr h_ hx288_2; have y3_ := xD HBr h_ hx288_3; have y4_ := xD HBr h_ hx288_4; have y5_ := xD HBr h_ hx288_5; go_simp; with_reducible rfl))
      refine pu 27 (some 38) 201326591 ?_; refine pu 29 (some 40) 738197503 ?_; refine ld 28 (some 39) 1006632959 hHeld ?_ (hr := by (intro w' h_; have y_ := kD rBK1 h_; go_simp; with_reducible rfl)); refine pu 30 (some 41) 2080374783 ?_; refine ld 31 (some 42) 4227858431 hHeld ?_ (hr := by (intro w' h_; have y0_ := xD HBr h_ hx288_0; have y1_ := xD HBr h_ hx288_1; have y2_ := xD HBr h_ hx288_2; have y3_ := xD HBr h_ hx288_3; have y4_ := xD HBr h_ hx288_4; have y5_ := xD HBr h_ hx288_5; go_simp; with_reducible rfl))
      refine on 26 (some 37) 4294967295 (fun K hK => ?_)
      have hcall := spec_MarkCert.calls k2 _ _ _ _ _ _ _ _ _ _ _ _ _ W8  hm.out
      refine goes_ Tryz.func27 (by kernel_rfl) rfl #[.int .i64 a0_4, .agg #[.int .i64 ((rd_T64 l0_5 x3_2).f0), .int .i64 ((rd_T64 l0_5 x3_2).f1), .int .i64 ((rd_T64 l0_5 x3_2).f2), .int .i64 ((rd_T64 l0_5 x3_2).f3), .int .i64 ((rd_T64 l0_5 x3_2).f4), .int .i64 ((rd_T64 l0_5 x3_2).f5)]] (by rfl) rfl rfl (by (try simp only [List.map_toArray, List.map_cons, List.map_nil]); first | done | rfl) ?_
      refine hcall.mono ?_
      rintro e W11 ⟨rfl, hb⟩
      refine ⟨_, rfl, ?_⟩
      clear hcall hm
      replace hHeld := below_step hHeld hb
      replace BK1 := bK BK1 hb
      replace HB := bH HB hb; clear hb
      refine hK.out _ _ hHeld (fun hHeld => ?_)
      clear hK K
      refine nr 37 ?_
      refine pu 32 (some 43) 8589934591 ?_; refine pu 33 (some 44) 17179869183 ?_
      refine dn (by kernel_rfl) ?_
      clear hHeld HBr rBK1
      have c_BK1 := blk_cell BK1.out; have z_BK1 := blk_frozen BK1.out
      replace H := H.out
      replace H := ifD H; rcases H with ⟨c12, H⟩ | ⟨c12, H⟩
      ·try rw [c12]
       obtain rfl := Option.some.inj H
       clear H
       go_wp2
       go_ret
       exact ⟨rfl, HB.out⟩
      ·replace c12 := (Bool.not_eq_true _).mp c12
       try rw [c12]
       replace H := Aside0.mk H
       go_wp2
       go_roundg k2
       case measure => have := Hk2.out; omega
       case rel => exact ⟨(wrap64 (x3_2 + 1)), (by first | rfl | (simp; done) | (simp [*]; done)), H, ⟨by have := Hk2.out; omega⟩, BK1, HB⟩
     ·replace c9 := (Bool.not_eq_true _).mp c9
      subst c9
      replace H := Aside0.mk H
      refine pu 16 (some 27) 131071 ?_; refine pu 17 (some 28) 262143 ?_; refine pu 18 (some 29) 524287 ?_; refine sk 19 (some 30) 1048575 ?_; refine sk 20 (some 31) 2097151 ?_; refine sk 21 (some 32) 4194303 ?_; refine sk 22 (some 33) 8388607 ?_; refine sk 23 (some 34) 16777215 ?_; refine sk 24 (some 35) 33554431 ?_; refine sk 25 (some 36) 67108863 ?_; refine sk 26 (some 37) 134217727 ?_; refine sk 27 (some 38) 268435455 ?_; refine sk 28 (some 39) 536870911 ?_; refine sk 29 (some 40) 1073741823 ?_; refine sk 30 (some 41) 2147483647 ?_; refine sk 31 (some 42) 4294967295 ?_; refine sk 32 (some 43) 8589934591 ?_; refine pu 33 (some 44) 17179869183 ?_
      refine dn (by kernel_rfl) ?_
      clear hHeld HBr rBK1
      have c_BK1 := blk_cell BK1.out; have z_BK1 := blk_frozen BK1.out
      replace H := H.out
      obtain rfl := Option.some.inj H
      clear H
      go_wp2
      go_ret
      exact ⟨rfl, HB.out⟩
    ·have c6_0 := decF c6; have c6_1 := eqF c6; have c6_2 := neF c6
     clear c6
     first | rw [c6_1] | rw [c6_2] | skip
     replace H := Aside0.mk H
     refine pu 8 (some 19) 511 ?_; refine pu 9 (some 20) 1023 ?_; refine sk 10 (some 21) 2047 ?_; refine sk 11 (some 22) 4095 ?_; refine sk 12 (some 23) 8191 ?_; refine sk 13 (some 24) 16383 ?_; refine sk 14 (some 25) 32767 ?_; refine sk 15 (some 26) 65535 ?_; refine sk 16 (some 27) 131071 ?_; refine pu 17 (some 28) 262143 ?_; refine pu 18 (some 29) 524287 ?_; refine sk 19 (some 30) 1048575 ?_; refine sk 20 (some 31) 2097151 ?_; refine sk 21 (some 32) 4194303 ?_; refine sk 22 (some 33) 8388607 ?_; refine sk 23 (some 34) 16777215 ?_; refine sk 24 (some 35) 33554431 ?_; refine sk 25 (some 36) 67108863 ?_; refine sk 26 (some 37) 134217727 ?_; refine sk 27 (some 38) 268435455 ?_; refine sk 28 (some 39) 536870911 ?_; refine sk 29 (some 40) 1073741823 ?_; refine sk 30 (some 41) 2147483647 ?_; refine sk 31 (some 42) 4294967295 ?_; refine sk 32 (some 43) 8589934591 ?_; refine pu 33 (some 44) 17179869183 ?_
     refine dn (by kernel_rfl) ?_
     clear hHeld HBr rBK1
     have c_BK1 := blk_cell BK1.out; have z_BK1 := blk_frozen BK1.out
     replace H := H.out
     obtain rfl := Option.some.inj H
     clear H
     go_wp2
     go_ret
     exact ⟨rfl, HB.out⟩
   ·have c3_0 := decF c3
    replace c3 := Aside0.mk c3
    first | rw [c3_0] | skip
    replace H := Option.bind_eq_some_iff.mp H
    obtain ⟨t299, hm, H⟩ := H
    try dsimp only at H
    replace H := Aside0.mk H
    have hcall := spec_AreIssuers.calls k2 _ _ _ _ wr (Kd.C_below HR0_0.out HB.out) HC0_0.out hm
    clear hm
    go_wp2_with fail
    refine hcall.mono ?_
    rintro e W13 ⟨rfl, hb⟩
    clear hcall
    replace BK1 := bK BK1 hb; replace c_BK1 := blk_cell BK1.out; replace z_BK1 := blk_frozen BK1.out
    replace HB := bH HB hb; clear hb
    replace H := H.out
    replace H := ifD H; rcases H with ⟨c14, H⟩ | ⟨c14, H⟩
    ·subst c14
     replace H := Option.bind_eq_some_iff.mp H
     obtain ⟨t300, hm, H⟩ := H
     try dsimp only at H
     replace H := Aside0.mk H
     have hcall := spec_AreEpochs.calls k2 _ _ _ _ W13 (Kd.C_below HR0_1.out HB.out) HC0_1.out hm
     clear hm
     go_wp2_with fail
     refine hcall.mono ?_
     rintro e W15 ⟨rfl, hb⟩
     clear hcall
     replace BK1 := bK BK1 hb; replace c_BK1 := blk_cell BK1.out; replace z_BK1 := blk_frozen BK1.out
     replace HB := bH HB hb; clear hb
     replace H := H.out
     replace H := ifD H; rcases H with ⟨c16, H⟩ | ⟨c16, H⟩
     ·subst c16
      replace H := Option.bind_eq_some_iff.mp H
      obtain ⟨t301, hm, H⟩ := H
      try dsimp only at H
      replace H := Aside0.mk H
      have hcall := spec_IsStore.calls k2 _ _ _ _ W15 (Kd.C_below HR0_2.out HB.out) HC0_2.out hm
      clear hm
      go_wp2_with fail
      refine hcall.mono ?_
      rintro e W17 ⟨rfl, hb⟩
      clear hcall
      replace BK1 := bK BK1 hb; replace c_BK1 := blk_cell BK1.out; replace z_BK1 := blk_frozen BK1.out
      replace HB := bH HB hb; clear hb
      replace H := H.out
      replace H := ifD H; rcases H with ⟨c18, H⟩ | ⟨c18, H⟩
      ·subst c18
       replace H := Option.bind_eq_some_iff.mp H
       obtain ⟨t302, hm, H⟩ := H
       try dsimp only at H
       replace H := Aside0.mk H
       have hcall := spec_AreRevoked.calls k2 _ _ _ _ W17 (Kd.C_below HR0_3.out HB.out) HC0_3.out hm
       clear hm
       go_wp2_with fail
       refine hcall.mono ?_
       rintro e W19 ⟨rfl, hb⟩
       clear hcall
       replace BK1 := bK BK1 hb; replace c_BK1 := blk_cell BK1.out; replace z_BK1 := blk_frozen BK1.out
       replace HB := bH HB hb; clear hb
       replace H := H.out
       replace H := ifD H; rcases H with ⟨c20, H⟩ | ⟨c20, H⟩
       ·subst c20
        replace H := Option.bind_eq_some_iff.mp H
        obtain ⟨t303, hm, H⟩ := H
        try dsimp only at H
        replace H := Aside0.mk H
        have hcall := spec_IsValidKey.calls _ _ W19  hm
        clear hm
        go_wp2_with fail
        refine hcall.mono ?_
        rintro e W21 ⟨rfl, hb⟩
        clear hcall
        replace BK1 := bK BK1 hb; replace c_BK1 := blk_cell BK1.out; replace z_BK1 := blk_frozen BK1.out
        replace HB := bH HB hb; clear hb
        replace H := H.out
        replace H := ifD H; rcases H with ⟨c22, H⟩ | ⟨c22, H⟩
        ·subst c22
         obtain rfl := Option.some.inj H
         clear H
         go_wp2
         go_ret
         exact ⟨rfl, HB.out⟩
        ·replace c22 := (Bool.not_eq_true _).mp c22
         subst c22
         obtain rfl := Option.some.inj H
         clear H
         go_wp2
         go_ret
         exact ⟨rfl, HB.out⟩
       ·replace c20 := (Bool.not_eq_true _).mp c20
        subst c20
        obtain rfl := Option.some.inj H
        clear H
        go_wp2
        go_ret
        exact ⟨rfl, HB.out⟩
      ·replace c18 := (Bool.not_eq_true _).mp c18
       subst c18
       obtain rfl := Option.some.inj H
       clear H
       go_wp2
       go_ret
       exact ⟨rfl, HB.out⟩
     ·replace c16 := (Bool.not_eq_true _).mp c16
      subst c16
      obtain rfl := Option.some.inj H
      clear H
      go_wp2
      go_ret
      exact ⟨rfl, HB.out⟩
    ·replace c14 := (Bool.not_eq_true _).mp c14
     subst c14
     obtain rfl := Option.some.inj H
     clear H
     go_wp2
     go_ret
     exact ⟨rfl, HB.out⟩

/-! ### laws_toIntS: function 129 -/
def laws_toIntS.l0 : Nat → List Int → List Int → Int → Option (List Int)
 | 0, _, _, _ => none
 | k + 1, x0, x3, x4 => if x4 < (x0.length : Int) then (if 0 ≤ x4 then (if x4 < (x3.length : Int) then (laws_toIntS.l0 k x0 (x3.set (x4 : Int).toNat (rd x0 x4)) (wrap64 (x4 + 1))) else (none)) else (none)) else (some x3)
def laws_toIntS.f (k : Nat) (l0 : List Int) : Option (List Int) := if 0 ≤ (l0.length : Int) then (if ((l0.length : Int) : Int).toNat ≤ 35184372088832 then (laws_toIntS.l0 k l0 (List.replicate ((l0.length : Int) : Int).toNat 0) 0) else (none)) else (none)
set_option maxHeartbeats 8000000 in
set_option maxRecDepth 100000 in
theorem laws_toIntS.calls (k : Nat) (A0 : Option Addr) (c0 : Nat) (l0 : List Int) (r : List Int) (w : World) (hr0 : Kd.C (Kd.int .i64) w A0 l0.length l0) (hc0 : l0.length ≤ c0) (h : laws_toIntS.f k l0 = some r) :
  Calls Tryz.prog 129 #[.slice A0 l0.length c0] w fun e w' => ∃ v0_ : Value, e = .returned (v0_) ∧ Kd.R (Kd.int .i64) 3 w' w.heap.size (fun _ => True) v0_ r ∧ Below w.heap.size w w' := by
 have HR0 := Aside0.mk hr0
 have HC0 := Aside0.mk hc0
 clear hr0 hc0
 have HB := Aside0.mk (Below.refl w.heap.size w)
 have H : (if 0 ≤ (l0.length : Int) then (if ((l0.length : Int) : Int).toNat ≤ 35184372088832 then (laws_toIntS.l0 k l0 (List.replicate ((l0.length : Int) : Int).toNat 0) 0) else (none)) else (none)) = some r := h
 clear h
 replace H := ifN H; obtain ⟨c2, H⟩ := H
 have c2b0 := eq_true c2
 have c2b1 : decide (0 ≤ (l0.length : Int)) = true := decide_eq_true c2
 clear c2
 replace H := ifN H; obtain ⟨c3, H⟩ := H
 have c3b0 := eq_true c3
 have c3b1 : decide (((l0.length : Int) : Int).toNat ≤ 35184372088832) = true := decide_eq_true c3
 clear c3
 obtain ⟨y304, hy304⟩ : ∃ y_ : List Int, y_ = (List.replicate ((l0.length : Int) : Int).toNat 0) := ⟨_, rfl⟩
 replace H : (laws_toIntS.l0 k l0 y304 0) = some r := by first | (rw [hy304]; with_reducible exact H) | (have H2_ := (Option.bind_some _ _).symm.trans H; rw [hy304]; with_reducible exact H2_) | (have H2_ := (Option.bind_some _ _).symm.trans H; with_reducible exact H2_) | with_reducible exact H | (rw [hy304]; exact H) | exact H
 have Ny304 := Aside0.mk hy304
 clear hy304
 have H' := Aside0.mk H
 clear H
 go_enter Tryz.func129, Tryz.ntmps129
 go_wp2_with (first | ((with_reducible refine gate_dst (N := 7) rfl ?_); refine Kd.R_make (Kd.int .i64) _ 3 rfl (N := 7) rfl 98 _ _ rfl (l0.length : Int) rfl rfl Tryz.underlying98 (.int .i64 0) 8 info3 rfl (by decide) (by omega) 0 (ok := fun _ => True) (okp := fun _ => True) rfl (fun _ hk => hk) trivial (of_decide_eq_true (by first | (with_reducible assumption) | assumption)) (Nat.le_trans (Nat.mul_le_mul_right _ (of_decide_eq_true (by first | (with_reducible assumption) | assumption) : (l0.length : Int).toNat ≤ 35184372088832)) (by omega)) (Below.refl _ _) (Nat.le_refl _) ?_; intro v305 w4 ho5 hb hg_ hnew_; clear hg_ hnew_; (first | rw [← Ny304.out] at ho5 | (simp only [Int.reduceToNat] at ho5; rw [← Ny304.out] at ho5)); have n0_ := Aside0.mk (Kd.R_lower ho5 (below_size (by repeat (first | (with_reducible first | exact HB.out | apply below_alloc | apply pw_below_drewN | apply below_drew1) | exact HB.out)))); have n1_ := Aside0.mk (below_step (by repeat (first | (with_reducible first | exact HB.out | apply below_alloc | apply pw_below_drewN | apply below_drew1) | exact HB.out)) hb); clear HB; have HO306 := n0_; (try have hv1_306 := fun (W_ : World) (a_ : Addr) (m_ : Mode) => run_store Tryz.prog W_ a_ _ m_ (Kd.R_val HO306.out).2); have HB := n1_; clear n0_ n1_; clear hb ho5))
 go_loopg [4] k (fun kq v4 w' => ∃ (x3_1 : List Int) (x4_1 : Int), v4 = .int .i64 x4_1 ∧ Aside0 (laws_toIntS.l0 kq l0 x3_1 x4_1 = some r) ∧ Aside0 (kq ≤ k) ∧ Aside0 (Kd.R (Kd.int .i64) 3 w' w.heap.size (fun _ => True) v305 x3_1) ∧ Aside0 (Below w.heap.size w w'))
 case atStart => exact ⟨(y304), (0), (by first | rfl | (simp; done) | (simp [*]; done)), H', ⟨Nat.le_refl _⟩, ⟨by (with_reducible repeat (first | apply Kd.R_alloc | apply Kd.R_drewN | apply Kd.R_drew)); exact HO306.out⟩, ⟨by repeat (first | (with_reducible first | exact HB.out | apply below_alloc | apply pw_below_drewN | apply below_drew1) | exact HB.out)⟩⟩
 case round =>
  clear H'
  try clear c1
  try clear c2
  try clear c2b0
  try clear c2b1
  try clear p2
  try clear c3
  try clear c3b0
  try clear c3b1
  obtain ⟨x3_1, x4_1, rfl, HA, HK1, HO_3, HB⟩ := hrel
  cases gk with
  | zero => exact absurd HA.out (by simp [laws_toIntS.l0])
  | succ k1 =>
   have H := HA.out
   clear HA
   simp only [laws_toIntS.l0] at H
   replace H := ifD H; rcases H with ⟨c6, H⟩ | ⟨c6, H⟩
   ·have c6b0 : decide (x4_1 < (l0.length : Int)) = true := decide_eq_true c6
    clear c6
    replace H := ifN H; obtain ⟨c7, H⟩ := H
    have c7b0 : decide (0 ≤ x4_1) = true := decide_eq_true c7
    clear c7
    replace H := ifN H; obtain ⟨c8, H⟩ := H
    have c8b0 : decide (x4_1 < (x3_1.length : Int)) = true := decide_eq_true c8
    clear c8
    obtain ⟨y308, hy308⟩ : ∃ y_ : List Int, y_ = (x3_1.set (x4_1 : Int).toNat (rd l0 x4_1)) := ⟨_, rfl⟩
    replace H : (laws_toIntS.l0 k1 l0 y308 (wrap64 (x4_1 + 1))) = some r := by first | (rw [hy308]; with_reducible exact H) | (have H2_ := (Option.bind_some _ _).symm.trans H; rw [hy308]; with_reducible exact H2_) | (have H2_ := (Option.bind_some _ _).symm.trans H; with_reducible exact H2_) | with_reducible exact H | (rw [hy308]; exact H) | exact H
    have Ny308 := Aside0.mk hy308
    clear hy308
    have H' := Aside0.mk H
    clear H
    have p307 : 0 ≤ (x4_1 : Int) := of_decide_eq_true (by first | (with_reducible assumption) | assumption)
    have q307 : x4_1 < (l0.length : Int) := of_decide_eq_true (by first | (with_reducible assumption) | assumption)
    obtain ⟨ad307, e307, hx307_0⟩ := Kd.at_int HR0.out x4_1 p307 q307
    cases e307
    replace hx307_0 := (HB.out.cell (World.block_lt_of_cell? w _ hx307_0)).trans hx307_0
    replace p307 := eq_true p307
    replace q307 := eq_true q307
    have p9 : 0 ≤ (x4_1 : Int) := of_decide_eq_true (by first | (with_reducible assumption) | assumption)
    have q9 : (x4_1 : Int) < ((x3_1.length : Int) : Int) := of_decide_eq_true (by first | (with_reducible assumption) | assumption)
    obtain ⟨go9, co9, eo9, gb9, gl9, cl9, HG9⟩ := Kd.R_form HO_3.out (by omega)
    (first | cases eo9 | (injection eo9 with ea_ en_ ec_; (first | subst ea_ | (injection ea_ with ea_; subst ea_)); subst ec_; clear en_))
    have GB9 := Aside0.mk gb9
    have GG9 := Aside0.mk HG9
    clear gb9 gl9 HG9
    obtain ⟨hx9_0, hf9_0⟩ := Kd.R_celln 0 HO_3.out (x4_1 : Int) p9 q9
    replace p9 := eq_true p9
    replace q9 := eq_true q9
    have HP10 := Kd.R_putg HO_3.out (x4_1 : Int) (rd l0 x4_1)
    go_wp2_with (first | ((with_reducible refine gate_store (t := 3) (p := 20) rfl ?_); refine store_event (t := 3) (p := 20) (v := ?vo_w11) (w1 := (wr.setCell ⟨go9, (x4_1 : Int).toNat, none⟩ (.int .i64 (rd l0 x4_1)))) ?hg ?ho ?hn ?hr ?_; (case ho => rfl); (case hg => rfl); (case hn => rfl); (case hr => first | (go_simp; done) | (go_simp; rfl)); intro w11 hw; have hg : wr.grownBy w11 (some go9) := (by rw [hw]; exact HP10.2); have hp_ : Kd.R (Kd.int .i64) 3 w11 w.heap.size (fun _ => True) (.slice (some ⟨go9, 0, none⟩) x3_1.length co9) y308 := (by rw [hw, Ny308.out]; exact HP10.1); clear HP10; have n0_ := Aside0.mk (hp_); have n1_ := Aside0.mk ((by rw [hw]; exact below_set (HB.out) GB9.out : Below w.heap.size w w11)); clear HO_3; clear HB; have HO_3 := n0_; have HB := n1_; clear n0_ n1_; clear hg hw hp_))
    go_roundg k1
    case measure => have := HK1.out; omega
    case rel => exact ⟨(y308), (wrap64 (x4_1 + 1)), (by first | rfl | (simp; done) | (simp [*]; done)), H', ⟨by have := HK1.out; omega⟩, ⟨by (with_reducible repeat (first | apply Kd.R_alloc | apply Kd.R_drewN | apply Kd.R_drew)); exact HO_3.out⟩, ⟨by repeat (first | (with_reducible first | exact HB.out | apply below_alloc | apply pw_below_drewN | apply below_drew1) | exact HB.out)⟩⟩
   ·have c6b0 : decide (x4_1 < (l0.length : Int)) = false := decide_eq_false c6
    clear c6
    obtain rfl := Option.some.inj H
    go_wp2
    go_ret
    exact ⟨_, by first | rfl | (simp [errW_none, errW_some] <;> rfl) | (simp [*, errW_none, errW_some] <;> rfl), by (with_reducible repeat (first | apply Kd.R_alloc | apply Kd.R_drewN | apply Kd.R_drew)); exact HO_3.out, by repeat (first | (with_reducible first | exact HB.out | apply below_alloc | apply pw_below_drewN | apply below_drew1) | exact HB.out)⟩
/-! ### laws_toIssuer: function 82 -/
def laws_toIssuer.f (k : Nat) (a0_0 : Int) (l0_1 : List Int) (a0_2 : Int) : Option (Int × List Int × Int) := (laws_toIntS.f k l0_1).bind fun t312 => (some (a0_0, t312, a0_2))
open Go.Proofs.YtineejdlpcgnkaaGreatM in
set_option maxHeartbeats 8000000 in
set_option maxRecDepth 100000 in
theorem laws_toIssuer.calls (k : Nat) (a0_0 : Int) (A0_1 : Option Addr) (c0_1 : Nat) (l0_1 : List Int) (a0_2 : Int) (r1 : Int) (r2 : List Int) (r3 : Int) (w : World) (hr0_1 : Kd.C (Kd.int .i64) w A0_1 l0_1.length l0_1) (hc0_1 : l0_1.length ≤ c0_1) (h : laws_toIssuer.f k a0_0 l0_1 a0_2 = some (r1, r2, r3)) :
  Calls Tryz.prog 82 #[.agg #[.int .i64 a0_0, .slice A0_1 l0_1.length c0_1, .int .i64 a0_2]] w fun e w' => ∃ v1_ : Value, e = .returned (.agg #[.int .i64 r1, v1_, .int .i64 r3]) ∧ Kd.R (Kd.int .i64) 3 w' w.heap.size (fun _ => True) v1_ r2 ∧ Below w.heap.size w w' := by
 have hu100 := Tryz.underlying100; have hu110 := Tryz.underlying110
 have HR0_1 := Aside0.mk hr0_1; have HC0_1 := Aside0.mk hc0_1; clear hr0_1 hc0_1
 unfold laws_toIssuer.f at h
 obtain ⟨y1_0, m1, h⟩ := Option.bind_eq_some_iff.mp h; try dsimp only at h
 simp only [Option.some.injEq, Prod.mk.injEq] at h
 obtain ⟨rfl, rfl, rfl⟩ := h
 replace m1 := Aside0.mk m1
 have HB := Aside0.mk (Below.refl w.heap.size w)
 go_enter Tryz.func82, Tryz.ntmps82
 go_upto_region 5 with (first | (go_at_call 129; refine (laws_toIntS.calls k _ _ _ y1_0 _ (Kd.C_below HR0_1.out (by repeat (first | exact HB.out | apply below_alloc | refine bSet ?_ (by omega)))) HC0_1.out m1.out).mono ?_; rintro e W1 ⟨v0, rfl, ho0, hb⟩; obtain ⟨A1_0, q1_0, rfl⟩ := Kd.R_slice ho0; have O1_0 := Aside0.mk (R_above (base := w.heap.size) (n := w.heap.size + 1 + 1 + 1) ho0 (by simp; omega) (by simp)); have q_ := alloc3 w (.cells #[.int .i64 a0_0, .slice A0_1 l0_1.length c0_1, .int .i64 a0_2] 100) (.cells #[.int .i64 0, .slice none 0 0, .int .i64 0] 110) (.cells #[.int .i64 a0_0, .slice none 0 0, .int .i64 0] 110); have B1 := Aside0.mk (blk_below q_.1 hb); have B2 := Aside0.mk (blk_below q_.2.1 hb); have B3 := Aside0.mk (blk_below q_.2.2 hb); clear q_; replace HB := Aside0.mk (below_step (by repeat (first | exact HB.out | apply below_alloc | refine bSet ?_ (by omega))) hb); clear hb ho0; have c1 := blk_cell B1.out; have c3 := blk_cell B3.out; have z3 := blk_frozen B3.out))
 have E3 : ((W1.setCell ⟨w.heap.size + 1 + 1, 1, none⟩ (.slice A1_0 y1_0.length q1_0)).setCell ⟨w.heap.size + 1 + 1, 2, none⟩ (.int .i64 a0_2)).heap[w.heap.size + 1 + 1]? = some (.cells #[.int .i64 a0_0, .slice A1_0 y1_0.length q1_0, .int .i64 a0_2] 110 (0, 0)) := (blk_set (blk_set B3.out 1 (.slice A1_0 y1_0.length q1_0)) 2 (.int .i64 a0_2))
 have E2 : ((W1.setCell ⟨w.heap.size + 1 + 1, 1, none⟩ (.slice A1_0 y1_0.length q1_0)).setCell ⟨w.heap.size + 1 + 1, 2, none⟩ (.int .i64 a0_2)).heap[w.heap.size + 1]? = some (.cells #[.int .i64 0, .slice none 0 0, .int .i64 0] 110 (0, 0)) := (by repeat (first | exact B2.out | refine blk_far ?_ (by simp <;> omega) _))
 have EB : Below w.heap.size w ((W1.setCell ⟨w.heap.size + 1 + 1, 1, none⟩ (.slice A1_0 y1_0.length q1_0)).setCell ⟨w.heap.size + 1 + 1, 2, none⟩ (.int .i64 a0_2)) := (by repeat (first | exact HB.out | apply below_alloc | refine bSet ?_ (by omega)))
 have EO1_0 : Kd.R (Kd.int .i64) 3 ((W1.setCell ⟨w.heap.size + 1 + 1, 1, none⟩ (.slice A1_0 y1_0.length q1_0)).setCell ⟨w.heap.size + 1 + 1, 2, none⟩ (.int .i64 a0_2)) w.heap.size (fun k_ => w.heap.size + 1 + 1 + 1 ≤ k_) (.slice A1_0 y1_0.length q1_0) y1_0 := (by repeat (first | exact O1_0.out | refine Kd.R_far ?_ (fun k_ h_ => by have h2_ : w.heap.size + 1 + 1 + 1 ≤ k_ := h_; show _ ≠ _; simp; omega) _))
 clear c1 c3 z3 HB B1 B2 B3 O1_0
 generalize ((W1.setCell ⟨w.heap.size + 1 + 1, 1, none⟩ (.slice A1_0 y1_0.length q1_0)).setCell ⟨w.heap.size + 1 + 1, 2, none⟩ (.int .i64 a0_2)) = Wf at E3 E2 EB EO1_0 ⊢
 have c3 := blk_cell E3; have c2 := blk_cell E2; have z2 := blk_frozen E2
 go_wp2
 have cf := blk_cell (blk_sets0 (rest := [.int .i64 0, .slice none 0 0, .int .i64 0]) E2 [.int .i64 a0_0, .slice A1_0 y1_0.length q1_0, .int .i64 a0_2] rfl); simp only [World.setCells] at cf
 exact bodyPost_ret (v := .agg #[.int .i64 a0_0, .slice A1_0 y1_0.length q1_0, .int .i64 a0_2]) (by simp [results, Tryz.results82, go_sem, cf]) rfl ⟨_, rfl, Kd.R_mono (R_sets (g := w.heap.size + 1) EO1_0 (fun k_ h_ => by have h2_ : w.heap.size + 1 + 1 + 1 ≤ k_ := h_; omega) [.int .i64 a0_0, .slice A1_0 y1_0.length q1_0, .int .i64 a0_2] 0) (fun _ _ => trivial), below_sets (by omega) [.int .i64 a0_0, .slice A1_0 y1_0.length q1_0, .int .i64 a0_2] 0 _ EB⟩

/-! ### laws_toIssuerS: function 33 -/
def laws_toIssuerS.l0 : Nat → List (S100) → List (S110) → Int → Option ((List (S110)))
 | 0, _, _, _ => none
 | k + 1, x0, x3, x4 => if x4 < (x0.length : Int) then (if 0 ≤ x4 then ((laws_toIssuer.f k ((rd_T100 x0 x4).f0) ((rd_T100 x0 x4).f1) ((rd_T100 x0 x4).f2)).bind fun bt325 => (if x4 < (x3.length : Int) then (laws_toIssuerS.l0 k x0 (x3.set (x4 : Int).toNat (⟨bt325.1, bt325.2.1, bt325.2.2⟩ : S110)) (wrap64 (x4 + 1))) else (none))) else (none)) else (some x3)
def laws_toIssuerS.f (k : Nat) (l0 : List (S100)) : Option ((List (S110))) := if 0 ≤ (l0.length : Int) then (if ((l0.length : Int) : Int).toNat ≤ 7036874417766 then (laws_toIssuerS.l0 k l0 (List.replicate ((l0.length : Int) : Int).toNat z110) 0) else (none)) else (none)
set_option maxHeartbeats 8000000 in
set_option maxRecDepth 100000 in
theorem laws_toIssuerS.calls (k : Nat) (A0 : Option Addr) (c0 : Nat) (l0 : List (S100)) (r : List (S110)) (w : World) (hr0 : Kd.C k100 w A0 l0.length l0) (hc0 : l0.length ≤ c0) (h : laws_toIssuerS.f k l0 = some r) :
  Calls Tryz.prog 33 #[.slice A0 l0.length c0] w fun e w' => ∃ v0_ : Value, e = .returned (v0_) ∧ Kd.S k110 110 w' w.heap.size (fun _ => True) v0_ r ∧ Below w.heap.size w w' := by
 have hu100 := Tryz.underlying100
 have hu110 := Tryz.underlying110
 have HR0 := Aside0.mk hr0
 have HC0 := Aside0.mk hc0
 clear hr0 hc0
 have HB := Aside0.mk (Below.refl w.heap.size w)
 have H : (if 0 ≤ (l0.length : Int) then (if ((l0.length : Int) : Int).toNat ≤ 7036874417766 then (laws_toIssuerS.l0 k l0 (List.replicate ((l0.length : Int) : Int).toNat z110) 0) else (none)) else (none)) = some r := h
 clear h
 replace H := ifN H; obtain ⟨c2, H⟩ := H
 have c2b0 := eq_true c2
 have c2b1 : decide (0 ≤ (l0.length : Int)) = true := decide_eq_true c2
 clear c2
 replace H := ifN H; obtain ⟨c3, H⟩ := H
 have c3b0 := eq_true c3
 have c3b1 : decide (((l0.length : Int) : Int).toNat ≤ 7036874417766) = true := decide_eq_true c3
 clear c3
 obtain ⟨y321, hy321⟩ : ∃ y_ : List (S110), y_ = (List.replicate ((l0.length : Int) : Int).toNat z110) := ⟨_, rfl⟩
 replace H : (laws_toIssuerS.l0 k l0 y321 0) = some r := by first | (rw [hy321]; with_reducible exact H) | (have H2_ := (Option.bind_some _ _).symm.trans H; rw [hy321]; with_reducible exact H2_) | (have H2_ := (Option.bind_some _ _).symm.trans H; with_reducible exact H2_) | with_reducible exact H | (rw [hy321]; exact H) | exact H
 have Ny321 := Aside0.mk hy321
 clear hy321
 have H' := Aside0.mk H
 clear H
 go_enter Tryz.func33, Tryz.ntmps33
 go_wp2_with (first | ((with_reducible refine gate_dst (N := 7) rfl ?_); refine Kd.S_make k110 _ 110 rfl (N := 7) rfl 31 _ _ rfl (l0.length : Int) rfl rfl Tryz.underlying31 (.agg #[(.int .i64 0), (.slice none 0 0), (.int .i64 0)]) 40 info110 rfl (by decide) (by omega) z110 (ok := fun _ => True) (okp := fun _ => True) (k110_mkM _ _ _ z110 (Kd.R_nil _ _ _ _ _)) (fun _ hk => hk) trivial (of_decide_eq_true (by first | (with_reducible assumption) | assumption)) (Nat.le_trans (Nat.mul_le_mul_right _ (of_decide_eq_true (by first | (with_reducible assumption) | assumption) : (l0.length : Int).toNat ≤ 7036874417766)) (by omega)) (Below.refl _ _) (Nat.le_refl _) ?_; intro v322 w4 ho5 hb hg_ hnew_; clear hg_ hnew_; (first | rw [← Ny321.out] at ho5 | (simp only [Int.reduceToNat] at ho5; rw [← Ny321.out] at ho5)); have n0_ := Aside0.mk (Kd.S_lower ho5 (below_size (by repeat (first | (with_reducible first | exact HB.out | apply below_alloc | apply pw_below_drewN | apply below_drew1) | exact HB.out)))); have n1_ := Aside0.mk (below_step (by repeat (first | (with_reducible first | exact HB.out | apply below_alloc | apply pw_below_drewN | apply below_drew1) | exact HB.out)) hb); clear HB; have HO323 := n0_; (try have hv1_323 := fun (W_ : World) (a_ : Addr) (m_ : Mode) => run_store Tryz.prog W_ a_ _ m_ (Kd.R_val HO323.out).2); have HB := n1_; clear n0_ n1_; clear hb ho5))
 go_loopg [4] k (fun kq v4 w' => ∃ (x3_1 : List (S110)) (x4_1 : Int), v4 = .int .i64 x4_1 ∧ Aside0 (laws_toIssuerS.l0 kq l0 x3_1 x4_1 = some r) ∧ Aside0 (kq ≤ k) ∧ Aside0 (Kd.S k110 110 w' w.heap.size (fun _ => True) v322 x3_1) ∧ Aside0 (Below w.heap.size w w'))
 case atStart => exact ⟨(y321), (0), (by first | rfl | (simp; done) | (simp [*]; done)), H', ⟨Nat.le_refl _⟩, ⟨by (with_reducible repeat (first | apply Kd.S_alloc | apply Kd.S_drewN | apply Kd.S_drew)); exact HO323.out⟩, ⟨by repeat (first | (with_reducible first | exact HB.out | apply below_alloc | apply pw_below_drewN | apply below_drew1) | exact HB.out)⟩⟩
 case round =>
  clear H'
  try clear c2
  try clear c2b0
  try clear c2b1
  try clear p2
  try clear c3
  try clear c3b0
  try clear c3b1
  obtain ⟨x3_1, x4_1, rfl, HA, HK1, HO_3, HB⟩ := hrel
  cases gk with
  | zero => exact absurd HA.out (by simp [laws_toIssuerS.l0])
  | succ k1 =>
   have H := HA.out
   clear HA
   simp only [laws_toIssuerS.l0] at H
   replace H := ifD H; rcases H with ⟨c6, H⟩ | ⟨c6, H⟩
   ·have c6b0 : decide (x4_1 < (l0.length : Int)) = true := decide_eq_true c6
    clear c6
    replace H := ifN H; obtain ⟨c7, H⟩ := H
    have c7b0 : decide (0 ≤ x4_1) = true := decide_eq_true c7
    clear c7
    replace H := Option.bind_eq_some_iff.mp H
    obtain ⟨⟨t325, t326, t329⟩, A80, H⟩ := H
    replace H : (if x4_1 < (x3_1.length : Int) then (laws_toIssuerS.l0 k1 l0 (x3_1.set (x4_1 : Int).toNat (⟨t325, t326, t329⟩ : S110)) (wrap64 (x4_1 + 1))) else (none)) = some r := H
    have A8 := Aside0.mk A80
    clear A80
    replace H := ifN H; obtain ⟨c9, H⟩ := H
    have c9b0 : decide (x4_1 < (x3_1.length : Int)) = true := decide_eq_true c9
    clear c9
    obtain ⟨y330, hy330⟩ : ∃ y_ : List (S110), y_ = (x3_1.set (x4_1 : Int).toNat (⟨t325, t326, t329⟩ : S110)) := ⟨_, rfl⟩
    replace H : (laws_toIssuerS.l0 k1 l0 y330 (wrap64 (x4_1 + 1))) = some r := by first | (rw [hy330]; with_reducible exact H) | (have H2_ := (Option.bind_some _ _).symm.trans H; rw [hy330]; with_reducible exact H2_) | (have H2_ := (Option.bind_some _ _).symm.trans H; with_reducible exact H2_) | with_reducible exact H | (rw [hy330]; exact H) | exact H
    have Ny330 := Aside0.mk hy330
    clear hy330
    have H' := Aside0.mk H
    clear H
    have p324 : 0 ≤ (x4_1 : Int) := of_decide_eq_true (by first | (with_reducible assumption) | assumption)
    have q324 : x4_1 < (l0.length : Int) := of_decide_eq_true (by first | (with_reducible assumption) | assumption)
    obtain ⟨ad324, A324_1, c324_1, e324, hx324_0, hx324_1, hx324_2, hl324_1, hi324_1⟩ := at_T100 HR0.out x4_1 p324 q324
    cases e324
    replace hx324_0 := (HB.out.cell (World.block_lt_of_cell? w _ hx324_0)).trans hx324_0
    replace hx324_1 := (HB.out.cell (World.block_lt_of_cell? w _ hx324_1)).trans hx324_1
    replace hx324_2 := (HB.out.cell (World.block_lt_of_cell? w _ hx324_2)).trans hx324_2
    have HR324_1 := Aside0.mk hi324_1
    have HC324_1 := Aside0.mk hl324_1
    clear hi324_1 hl324_1
    replace p324 := eq_true p324
    replace q324 := eq_true q324
    go_wp2_with (first | ((with_reducible refine gate_callee (f := 82) rfl ?_); refine goesL_ (some 20) rfl rfl Tryz.func82 (by kernel_rfl) rfl #[.agg #[.int .i64 ((rd_T100 l0 x4_1).f0), .slice A324_1 ((rd_T100 l0 x4_1).f1).length c324_1, .int .i64 ((rd_T100 l0 x4_1).f2)]] rfl (by (try simp only [List.map_toArray, List.map_cons, List.map_nil]); first | done | rfl | (simp only [List.length_drop, List.length_take]; rfl)) ?_; (with_reducible refine (laws_toIssuer.calls k1 ((rd_T100 l0 x4_1).f0) _ _ ((rd_T100 l0 x4_1).f1) ((rd_T100 l0 x4_1).f2) t325 t326 t329 _ ?side1 ?side2 A8.out).mono ?_); (case side1 => repeat (first | exact (Kd.C_below HR324_1.out HB.out) | (with_reducible refine Kd.C_alloc ?_ _) | (with_reducible refine Kd.C_drewN ?_ _) | (with_reducible refine Kd.C_drew ?_))); (case side2 => exact HC324_1.out); rintro e w11 ⟨v327, rfl, ho0, hb⟩; refine ⟨_, rfl, ?_⟩; have n0_ := Aside0.mk (Kd.S_elder' (by (with_reducible repeat (first | apply Kd.S_alloc | apply Kd.S_drewN | apply Kd.S_drew)); exact HO_3.out) (Kd.R_base ho0) hb); have n1_ := Aside0.mk (Kd.R_lower ho0 (below_size (by repeat (first | (with_reducible first | exact HB.out | apply below_alloc | apply pw_below_drewN | apply below_drew1) | exact HB.out)))); have n2_ := Aside0.mk (below_step (by repeat (first | (with_reducible first | exact HB.out | apply below_alloc | apply pw_below_drewN | apply below_drew1) | exact HB.out)) hb); clear HO_3; clear HB; have HO_3 := n0_; have HO328 := n1_; (try have hv1_328 := fun (W_ : World) (a_ : Addr) (m_ : Mode) => run_store Tryz.prog W_ a_ _ m_ (Kd.R_val HO328.out).2); have HB := n2_; clear n0_ n1_ n2_; (try clear hb); (try clear hb2); (try clear hk); (try clear hi); (try clear ho0); have p10 : 0 ≤ (x4_1 : Int) := of_decide_eq_true (by first | (with_reducible assumption) | assumption); have q10 : (x4_1 : Int) < ((x3_1.length : Int) : Int) := of_decide_eq_true (by first | (with_reducible assumption) | assumption); obtain ⟨go10, co10, eo10, gb10, gl10, cl10, HG10⟩ := Kd.S_form HO_3.out (by omega); (first | cases eo10 | (injection eo10 with ea_ en_ ec_; (first | subst ea_ | (injection ea_ with ea_; subst ea_)); subst ec_; clear en_)); have GB10 := Aside0.mk gb10; have GG10 := Aside0.mk HG10; clear gb10 gl10 HG10; obtain ⟨_, ce10, hcl10, hM10, hcc10, hfr10, _, _⟩ := Kd.S_elem HO_3.out z110 (x4_1 : Int) p10 q10; obtain ⟨ve10_1, rfl, ge10_1⟩ := k110_openM hM10; have hx10_0 : w11.cell? ⟨go10, (x4_1 : Int).toNat * 3, none⟩ = some (.int .i64 ((rd_T110 x3_1 x4_1).f0)) := hcc10 0 _ rfl; have hx10_1 : w11.cell? ⟨go10, (x4_1 : Int).toNat * 3 + 1, none⟩ = some (ve10_1) := hcc10 1 _ rfl; have hx10_2 : w11.cell? ⟨go10, (x4_1 : Int).toNat * 3 + 2, none⟩ = some (.int .i64 ((rd_T110 x3_1 x4_1).f2)) := hcc10 2 _ rfl; have hf10_0 : w11.frozen? ⟨go10, (x4_1 : Int).toNat * 3, none⟩ = false := hfr10 0; have hf10_1 : w11.frozen? ⟨go10, (x4_1 : Int).toNat * 3 + 1, none⟩ = false := hfr10 1; have hf10_2 : w11.frozen? ⟨go10, (x4_1 : Int).toNat * 3 + 2, none⟩ = false := hfr10 2; clear hcl10 hcc10 hfr10 hM10; replace p10 := eq_true p10; replace q10 := eq_true q10; have n_ := Aside0.mk (Kd.S_mono (ok' := (fun k_ => some k_ ≠ (v327 : Value).ownBlock)) HO_3.out (fun k_ hk => hk.2)); clear HO_3; have HO_3 := n_; clear n_; have HX12 := Aside0.mk (show Kd.S k110 110 w11 w.heap.size (fun k_ => ((fun _ => True)) k_ ∧ ¬ ((fun k_ => some k_ = (v327 : Value).ownBlock)) k_) (.slice (some ⟨go10, 0, none⟩) x3_1.length co10) x3_1 from (by (with_reducible repeat (first | apply Kd.S_alloc | apply Kd.S_drewN | apply Kd.S_drew)); exact Kd.S_mono HO_3.out (fun k_ hk => ⟨trivial, fun e_ => hk e_⟩))); obtain ⟨oki12, ce12, hcl12, hM12, hcc12, hfr12, hoki12, hH12⟩ := Kd.S_elem HX12.out z110 (x4_1 : Int) (of_decide_eq_true (by first | (with_reducible assumption) | assumption)) (by have h_ : (x4_1 : Int) < ((x3_1.length : Int) : Int) := of_decide_eq_true (by first | (with_reducible assumption) | assumption); first | exact h_ | (have e_ := (Kd.S_reads' HO_3.out).1; omega) | simpa using h_); obtain ⟨ve12_1, rfl, ge12_1⟩ := k110_openM hM12; have HP12 := Kd.S_seg hH12 (of_decide_eq_true (by first | (with_reducible assumption) | assumption)) (by have h_ : (x4_1 : Int) < ((x3_1.length : Int) : Int) := of_decide_eq_true (by first | (with_reducible assumption) | assumption); first | exact h_ | (have e_ := (Kd.S_reads' HO_3.out).1; omega) | simpa using h_) (seg := [.int .i64 t325, v327, .int .i64 t329]) (j := 0) (show 3 ≤ 3 from by decide) (x' := (⟨t325, t326, t329⟩ : S110)) (k110_mkM _ _ _ (⟨t325, t326, t329⟩ : S110) (Kd.R_mono (Kd.R_tight rfl (Kd.R_mono (ok' := fun k_ => ((fun _ => True)) k_ ∧ k_ ≠ go10) (Kd.R_apart' (HO328.out) (Kd.S_typed HO_3.out) (by decide)) (fun k_ hk => ⟨trivial, fun e_ => (hk.2) (by rw [e_]; rfl)⟩))) (fun _ h_ => Or.inr (h_)))) (fun _ hk => hk) (fun k_ hk_ => ((Kd.R_mono (ok' := fun k_ => ((fun _ => True)) k_ ∧ k_ ≠ go10) (Kd.R_apart' (HO328.out) (Kd.S_typed HO_3.out) (by decide)) (fun k_ hk => ⟨trivial, fun e_ => (hk.2) (by rw [e_]; rfl)⟩))).1 k_ hk_.symm); have hx12_0 := hcc12 0 _ rfl; (try simp only [show (k110).sz = 3 from rfl, Nat.mul_one, Nat.add_zero] at hx12_0); have hf12_0 := hfr12 0; (try simp only [show (k110).sz = 3 from rfl, Nat.mul_one, Nat.add_zero] at hf12_0); have hx12_1 := hcc12 1 _ rfl; (try simp only [show (k110).sz = 3 from rfl, Nat.mul_one, Nat.add_zero] at hx12_1); have hf12_1 := hfr12 1; (try simp only [show (k110).sz = 3 from rfl, Nat.mul_one, Nat.add_zero] at hf12_1); have hx12_2 := hcc12 2 _ rfl; (try simp only [show (k110).sz = 3 from rfl, Nat.mul_one, Nat.add_zero] at hx12_2); have hf12_2 := hfr12 2; (try simp only [show (k110).sz = 3 from rfl, Nat.mul_one, Nat.add_zero] at hf12_2); clear hcl12 hcc12 hfr12 hM12 hoki12 hH12) | ((with_reducible refine gate_store (t := 110) (p := 21) rfl ?_); refine store_event (t := 110) (p := 21) (v := ?vo_w13) (w1 := (((w11.setCell ⟨go10, (x4_1 : Int).toNat * 3, none⟩ (.int .i64 t325)).setCell ⟨go10, (x4_1 : Int).toNat * 3 + 1, none⟩ (v327)).setCell ⟨go10, (x4_1 : Int).toNat * 3 + 2, none⟩ (.int .i64 t329))) ?hg ?ho ?hn ?hr ?_; (case ho => rfl); (case hg => rfl); (case hn => rfl); (case hr => first | (go_simp; done) | (go_simp; rfl)); intro w13 hw; have hg : w11.grownBy w13 (some go10) := (by rw [hw]; exact HP12.2); have hp_ : Kd.S k110 110 w13 w.heap.size (fun _ => True) (.slice (some ⟨go10, 0, none⟩) x3_1.length co10) y330 := (by rw [hw, Ny330.out]; exact HP12.1); clear HP12; have n0_ := Aside0.mk (hp_); have n1_ := Aside0.mk ((by rw [hw]; exact below_set (below_set (below_set (HB.out) GB10.out) GB10.out) GB10.out : Below w.heap.size w w13)); clear HO_3; clear HB; clear HO328; have HO_3 := n0_; have HB := n1_; clear n0_ n1_; clear hg hw hp_))
    go_roundg k1
    case measure => have := HK1.out; omega
    case rel => exact ⟨(y330), (wrap64 (x4_1 + 1)), (by first | rfl | (simp; done) | (simp [*]; done)), H', ⟨by have := HK1.out; omega⟩, ⟨by (with_reducible repeat (first | apply Kd.S_alloc | apply Kd.S_drewN | apply Kd.S_drew)); exact HO_3.out⟩, ⟨by repeat (first | (with_reducible first | exact HB.out | apply below_alloc | apply pw_below_drewN | apply below_drew1) | exact HB.out)⟩⟩
   ·have c6b0 : decide (x4_1 < (l0.length : Int)) = false := decide_eq_false c6
    clear c6
    obtain rfl := Option.some.inj H
    go_wp2
    go_ret
    exact ⟨_, by first | rfl | (simp [errW_none, errW_some] <;> rfl) | (simp [*, errW_none, errW_some] <;> rfl), by (with_reducible repeat (first | apply Kd.S_alloc | apply Kd.S_drewN | apply Kd.S_drew)); exact HO_3.out, by repeat (first | (with_reducible first | exact HB.out | apply below_alloc | apply pw_below_drewN | apply below_drew1) | exact HB.out)⟩
/-! ### laws_toIncludes: function 160 -/
def laws_toIncludes.f (a0_0 : Int) (a0_1 : Int) : Option (Int × Int) := some (a0_0, a0_1)
set_option maxHeartbeats 8000000 in
set_option maxRecDepth 100000 in
theorem laws_toIncludes.calls (a0_0 : Int) (a0_1 : Int) (r1 : Int) (r2 : Int) (w : World) (h : laws_toIncludes.f a0_0 a0_1 = some (r1, r2)) :
  Calls Tryz.prog 160 #[.agg #[.int .i64 a0_0, .int .i64 a0_1]] w fun e w' => e = .returned (.agg #[.int .i64 r1, .int .i64 r2]) ∧ Below w.heap.size w w' := by
 have hu161 := Tryz.underlying161; have hu177 := Tryz.underlying177
 unfold laws_toIncludes.f at h
 simp only [Option.some.injEq, Prod.mk.injEq] at h
 obtain ⟨rfl, rfl⟩ := h
 go_enter Tryz.func160, Tryz.ntmps160
 go_wp2
 exact bodyPost_ret (v := .agg #[.int .i64 a0_0, .int .i64 a0_1]) (by simp [results, Tryz.results160, go_sem]) rfl ⟨rfl, by repeat (first | exact Below.refl _ _ | apply below_alloc | refine bSet ?_ (by omega))⟩

/-! ### laws_toIncludesS: function 130 -/
def laws_toIncludesS.l0 : Nat → List (S177) → List (S161) → Int → Option ((List (S161)))
 | 0, _, _, _ => none
 | k + 1, x0, x3, x4 => if x4 < (x0.length : Int) then (if 0 ≤ x4 then ((laws_toIncludes.f ((rd_T177 x0 x4).f0) ((rd_T177 x0 x4).f1)).bind fun bt341 => (if x4 < (x3.length : Int) then (laws_toIncludesS.l0 k x0 (x3.set (x4 : Int).toNat (⟨bt341.1, bt341.2⟩ : S161)) (wrap64 (x4 + 1))) else (none))) else (none)) else (some x3)
def laws_toIncludesS.f (k : Nat) (l0 : List (S177)) : Option ((List (S161))) := if 0 ≤ (l0.length : Int) then (if ((l0.length : Int) : Int).toNat ≤ 17592186044416 then (laws_toIncludesS.l0 k l0 (List.replicate ((l0.length : Int) : Int).toNat z161) 0) else (none)) else (none)
open Go.Proofs.YtineejdlpcgnkaaGreatM in
set_option maxHeartbeats 8000000 in
set_option maxRecDepth 100000 in
theorem laws_toIncludesS.calls (k : Nat) (A0 : Option Addr) (c0 : Nat) (l0 : List (S177)) (r : List (S161)) (w : World) (hr0 : Kd.C k177 w A0 l0.length l0) (hc0 : l0.length ≤ c0) (h : laws_toIncludesS.f k l0 = some r) :
  Calls Tryz.prog 130 #[.slice A0 l0.length c0] w fun e w' => ∃ v0_ : Value, e = .returned (v0_) ∧ Kd.R k161 161 w' w.heap.size (fun _ => True) v0_ r ∧ Below w.heap.size w w' := by
 have hu177 := Tryz.underlying177; have hu161 := Tryz.underlying161
 have HR := Aside0.mk hr0; clear hr0
 have HB := Aside0.mk (Below.refl w.heap.size w)
 unfold laws_toIncludesS.f at h
 replace h := ifN h; obtain ⟨c2, h⟩ := h; replace c2 := Aside0.mk c2; replace h := ifN h; obtain ⟨c3, h⟩ := h; replace c3 := Aside0.mk c3
 obtain ⟨ys, hy⟩ : ∃ y_, y_ = (List.replicate ((l0.length : Int) : Int).toNat z161) := ⟨_, rfl⟩
 rw [← hy] at h; replace hy := Aside0.mk hy; replace h := Aside0.mk h
 go_enter Tryz.func130, Tryz.ntmps130
 go_wp2_with (first | ((with_reducible refine gate_dst (N := 7) rfl ?_); refine Kd.R_make k161 _ 161 rfl (N := 7) rfl 112 _ _ rfl (l0.length : Int) rfl rfl Tryz.underlying112 (.agg #[(.int .i64 0), (.int .i64 0)]) 16 info161 rfl (by decide) (by omega) z161 (ok := fun _ => True) (okp := fun _ => True) (k161_mkM _ _ _ z161 ) (fun _ hk => hk) trivial c2.out (Nat.le_trans (Nat.mul_le_mul_right _ c3.out) (by omega)) (Below.refl _ _) (Nat.le_refl _) ?_; intro v W1 ho hb _ _; rw [← hy.out] at ho; have O := Aside0.mk (Kd.R_lower ho (below_size HB.out)); replace HB := Aside0.mk (below_step HB.out hb); clear hb ho))
 go_loopg [4] k (fun kq v4 w' => ∃ (xs : List S161) (i : Int), v4 = .int .i64 i ∧ Aside0 (laws_toIncludesS.l0 kq l0 xs i = some r) ∧ Aside0 (kq ≤ k) ∧ Aside0 (Kd.R k161 161 w' w.heap.size (fun _ => True) v xs) ∧ Aside0 (Below w.heap.size w w'))
 case atStart => exact ⟨_, 0, rfl, h, ⟨Nat.le_refl _⟩, O, HB⟩
 case round =>
  clear h O HB c2 c3
  obtain ⟨xs, i, rfl, H, Hk, O, HB⟩ := hrel
  cases gk with
  | zero => exact absurd H.out (by simp [laws_toIncludesS.l0])
  | succ k1 =>
   have h := H.out; clear H
   simp only [laws_toIncludesS.l0] at h
   replace h := ifD h; rcases h with ⟨c, h⟩ | ⟨c, h⟩
   ·have d1 := decT c; replace h := ifN h; obtain ⟨c7, h⟩ := h; replace h := Option.bind_eq_some_iff.mp h
    obtain ⟨⟨t341, t342⟩, m, h⟩ := h
    try dsimp only at h
    replace h := ifN h; obtain ⟨c9, h⟩ := h; replace h := Aside0.mk h; replace m := Aside0.mk m
    obtain ⟨ad, e_, x0, x1⟩ := at_T177 HR.out i c7 c
    cases e_
    replace x0 := xC HB ⟨x0⟩; replace x1 := xC HB ⟨x1⟩
    obtain ⟨g, co, eo, hg, hq, -, -⟩ := Kd.R_form O.out (by omega)
    cases eo
    have e1 := eq_true c; have e2 := eq_true c7; have e3 := eq_true c9; replace c := Aside0.mk c; replace c7 := Aside0.mk c7; replace c9 := Aside0.mk c9; replace hg := Aside0.mk hg; replace hq := Aside0.mk hq
    go_wp2_with (first | (go_at_call 160; refine (laws_toIncludes.calls _ _ t341 t342 _  m.out).mono ?_; rintro e W2 ⟨rfl, hb⟩; obtain ⟨hc, hf, HP⟩ := R_fill O.out hb c7.out c9.out z161 (seg := [.int .i64 t341, .int .i64 t342]) 2 rfl rfl hq.out (k161_mkM _ _ _ (⟨t341, t342⟩ : S161)); obtain ⟨_, y0⟩ := hc 0 (by decide); have q0 := hf 0; obtain ⟨_, y1⟩ := hc 1 (by decide); have q1 := hf 1; simp only [Nat.add_zero] at y0 q0; replace HP := Aside0.mk HP; replace HB := Aside0.mk (below_step HB.out hb); clear hb hc hf O ))
    go_roundg k1
    case measure => have := Hk.out; omega
    case rel => exact ⟨_, _, rfl, h, ⟨by have := Hk.out; omega⟩, HP, ⟨below_set (below_set (HB.out) hg.out) hg.out⟩⟩
   ·have d1 := decF c; clear c; obtain rfl := Option.some.inj h
    go_wp2
    go_ret
    exact ⟨_, rfl, O.out, HB.out⟩

/-! ### laws_toCondS: function 198 -/
/-! ### laws_toCond: function 191 -/
mutual
def laws_toCondS.l0 : Nat → List (S191) → List (S164) → Int → Option ((List (S164)))
 | 0, _, _, _ => none
 | k + 1, x0, x3, x4 => if x4 < (x0.length : Int) then (if 0 ≤ x4 then ((laws_toCond.f k ((rd_T191 x0 x4).f0) ((rd_T191 x0 x4).f1) ((rd_T191 x0 x4).f2) ((rd_T191 x0 x4).f3)).bind fun bt355 => (if x4 < (x3.length : Int) then (laws_toCondS.l0 k x0 (x3.set (x4 : Int).toNat (⟨bt355.1, bt355.2.1, bt355.2.2.1, bt355.2.2.2⟩ : S164)) (wrap64 (x4 + 1))) else (none))) else (none)) else (some x3)
def laws_toCondS.f : Nat → List (S191) → Option ((List (S164)))
 | 0, _ => none
 | k + 1, l0 => if 0 ≤ (l0.length : Int) then (if ((l0.length : Int) : Int).toNat ≤ 5864062014805 then (laws_toCondS.l0 k l0 (List.replicate ((l0.length : Int) : Int).toNat z164) 0) else (none)) else (none)
def laws_toCond.f : Nat → Int → Int → Int → List (S191) → Option (Int × Int × Int × (List (S164)))
 | 0, _, _, _, _ => none
 | k + 1, a0_0, a0_1, a0_2, l0_3 => (laws_toCondS.f k l0_3).bind fun t365 => (some (a0_0, a0_1, a0_2, t365))
end
abbrev laws_toCondS.Stmt (k : Nat) : Prop := ∀ (A0 : Option Addr) (c0 : Nat) (l0 : List (S191)) (r : List (S164)) (w : World) (hr0 : Kd.C k191 w A0 l0.length l0) (hc0 : l0.length ≤ c0) (h : laws_toCondS.f k l0 = some r),
  Calls Tryz.prog 198 #[.slice A0 l0.length c0] w fun e w' => ∃ v0_ : Value, e = .returned (v0_) ∧ Kd.R k164 164 w' w.heap.size (fun _ => True) v0_ r ∧ Below w.heap.size w w'
abbrev laws_toCond.Stmt (k : Nat) : Prop := ∀ (a0_0 : Int) (a0_1 : Int) (a0_2 : Int) (A0_3 : Option Addr) (c0_3 : Nat) (l0_3 : List (S191)) (r1 : Int) (r2 : Int) (r3 : Int) (r4 : List (S164)) (w : World) (hr0_3 : Kd.C k191 w A0_3 l0_3.length l0_3) (hc0_3 : l0_3.length ≤ c0_3) (h : laws_toCond.f k a0_0 a0_1 a0_2 l0_3 = some (r1, r2, r3, r4)),
  Calls Tryz.prog 191 #[.agg #[.int .i64 a0_0, .int .i64 a0_1, .int .i64 a0_2, .slice A0_3 l0_3.length c0_3]] w fun e w' => ∃ v3_ : Value, e = .returned (.agg #[.int .i64 r1, .int .i64 r2, .int .i64 r3, v3_]) ∧ Kd.R k164 164 w' w.heap.size (fun _ => True) v3_ r4 ∧ Below w.heap.size w w'
set_option maxHeartbeats 8000000 in
set_option maxRecDepth 100000 in
theorem laws_toCondS.step (k : Nat) (ih_laws_toCondS : ∀ m_, m_ < k → laws_toCondS.Stmt m_) (ih_laws_toCond : ∀ m_, m_ < k → laws_toCond.Stmt m_) : laws_toCondS.Stmt k := by
 unfold laws_toCondS.Stmt
 intro A0 c0 l0 r w hr0 hc0 h
 cases k with
 | zero => exact absurd h (by simp [laws_toCondS.f])
 | succ k =>
 simp only [laws_toCondS.f] at h
 have hu191 := Tryz.underlying191
 have hu164 := Tryz.underlying164
 have HR0 := Aside0.mk hr0
 have HC0 := Aside0.mk hc0
 clear hr0 hc0
 have HB := Aside0.mk (Below.refl w.heap.size w)
 have H : (if 0 ≤ (l0.length : Int) then (if ((l0.length : Int) : Int).toNat ≤ 5864062014805 then (laws_toCondS.l0 k l0 (List.replicate ((l0.length : Int) : Int).toNat z164) 0) else (none)) else (none)) = some r := h
 clear h
 replace H := ifN H; obtain ⟨c2, H⟩ := H
 have c2b0 := eq_true c2
 have c2b1 : decide (0 ≤ (l0.length : Int)) = true := decide_eq_true c2
 clear c2
 replace H := ifN H; obtain ⟨c3, H⟩ := H
 have c3b0 := eq_true c3
 have c3b1 : decide (((l0.length : Int) : Int).toNat ≤ 5864062014805) = true := decide_eq_true c3
 clear c3
 obtain ⟨y351, hy351⟩ : ∃ y_ : List (S164), y_ = (List.replicate ((l0.length : Int) : Int).toNat z164) := ⟨_, rfl⟩
 replace H : (laws_toCondS.l0 k l0 y351 0) = some r := by first | (rw [hy351]; with_reducible exact H) | (have H2_ := (Option.bind_some _ _).symm.trans H; rw [hy351]; with_reducible exact H2_) | (have H2_ := (Option.bind_some _ _).symm.trans H; with_reducible exact H2_) | with_reducible exact H | (rw [hy351]; exact H) | exact H
 have Ny351 := Aside0.mk hy351
 clear hy351
 have H' := Aside0.mk H
 clear H
 go_enter Tryz.func198, Tryz.ntmps198
 go_wp2_with (first | ((with_reducible refine gate_dst (N := 7) rfl ?_); refine Kd.R_make k164 _ 164 rfl (N := 7) rfl 162 _ _ rfl (l0.length : Int) rfl rfl Tryz.underlying162 (.agg #[(.int .i64 0), (.int .i64 0), (.int .i64 0), (.slice none 0 0)]) 48 info164 rfl (by decide) (by omega) z164 (ok := fun _ => True) (okp := fun _ => True) (k164_mkM _ _ _ z164 (Kd.R_nil _ _ _ _ _)) (fun _ hk => hk) trivial (of_decide_eq_true (by first | (with_reducible assumption) | assumption)) (Nat.le_trans (Nat.mul_le_mul_right _ (of_decide_eq_true (by first | (with_reducible assumption) | assumption) : (l0.length : Int).toNat ≤ 5864062014805)) (by omega)) (Below.refl _ _) (Nat.le_refl _) ?_; intro v352 w4 ho5 hb hg_ hnew_; clear hg_ hnew_; (first | rw [← Ny351.out] at ho5 | (simp only [Int.reduceToNat] at ho5; rw [← Ny351.out] at ho5)); have n0_ := Aside0.mk (Kd.R_lower ho5 (below_size (by repeat (first | (with_reducible first | exact HB.out | apply below_alloc | apply pw_below_drewN | apply below_drew1) | exact HB.out)))); have n1_ := Aside0.mk (below_step (by repeat (first | (with_reducible first | exact HB.out | apply below_alloc | apply pw_below_drewN | apply below_drew1) | exact HB.out)) hb); clear HB; have HO353 := n0_; (try have hv1_353 := fun (W_ : World) (a_ : Addr) (m_ : Mode) => run_store Tryz.prog W_ a_ _ m_ (Kd.R_val HO353.out).2); have HB := n1_; clear n0_ n1_; clear hb ho5))
 go_loopg [4] k (fun kq v4 w' => ∃ (x3_1 : List (S164)) (x4_1 : Int), v4 = .int .i64 x4_1 ∧ Aside0 (laws_toCondS.l0 kq l0 x3_1 x4_1 = some r) ∧ Aside0 (kq ≤ k) ∧ Aside0 (Kd.R k164 164 w' w.heap.size (fun _ => True) v352 x3_1) ∧ Aside0 (Below w.heap.size w w'))
 case atStart => exact ⟨(y351), (0), (by first | rfl | (simp; done) | (simp [*]; done)), H', ⟨Nat.le_refl _⟩, ⟨by (with_reducible repeat (first | apply Kd.R_alloc | apply Kd.R_drewN | apply Kd.R_drew)); exact HO353.out⟩, ⟨by repeat (first | (with_reducible first | exact HB.out | apply below_alloc | apply pw_below_drewN | apply below_drew1) | exact HB.out)⟩⟩
 case round =>
  clear H'
  try clear c1
  try clear c2
  try clear c2b0
  try clear c2b1
  try clear p2
  try clear c3
  try clear c3b0
  try clear c3b1
  obtain ⟨x3_1, x4_1, rfl, HA, HK1, HO_3, HB⟩ := hrel
  cases gk with
  | zero => exact absurd HA.out (by simp [laws_toCondS.l0])
  | succ k1 =>
   have H := HA.out
   clear HA
   simp only [laws_toCondS.l0] at H
   replace H := ifD H; rcases H with ⟨c6, H⟩ | ⟨c6, H⟩
   ·have c6b0 : decide (x4_1 < (l0.length : Int)) = true := decide_eq_true c6
    clear c6
    replace H := ifN H; obtain ⟨c7, H⟩ := H
    have c7b0 : decide (0 ≤ x4_1) = true := decide_eq_true c7
    clear c7
    replace H := Option.bind_eq_some_iff.mp H
    obtain ⟨⟨t355, t356, t357, t358⟩, A80, H⟩ := H
    replace H : (if x4_1 < (x3_1.length : Int) then (laws_toCondS.l0 k1 l0 (x3_1.set (x4_1 : Int).toNat (⟨t355, t356, t357, t358⟩ : S164)) (wrap64 (x4_1 + 1))) else (none)) = some r := H
    have A8 := Aside0.mk A80
    clear A80
    replace H := ifN H; obtain ⟨c9, H⟩ := H
    have c9b0 : decide (x4_1 < (x3_1.length : Int)) = true := decide_eq_true c9
    clear c9
    obtain ⟨y361, hy361⟩ : ∃ y_ : List (S164), y_ = (x3_1.set (x4_1 : Int).toNat (⟨t355, t356, t357, t358⟩ : S164)) := ⟨_, rfl⟩
    replace H : (laws_toCondS.l0 k1 l0 y361 (wrap64 (x4_1 + 1))) = some r := by first | (rw [hy361]; with_reducible exact H) | (have H2_ := (Option.bind_some _ _).symm.trans H; rw [hy361]; with_reducible exact H2_) | (have H2_ := (Option.bind_some _ _).symm.trans H; with_reducible exact H2_) | with_reducible exact H | (rw [hy361]; exact H) | exact H
    have Ny361 := Aside0.mk hy361
    clear hy361
    have H' := Aside0.mk H
    clear H
    have p354 : 0 ≤ (x4_1 : Int) := of_decide_eq_true (by first | (with_reducible assumption) | assumption)
    have q354 : x4_1 < (l0.length : Int) := of_decide_eq_true (by first | (with_reducible assumption) | assumption)
    obtain ⟨ad354, A354_3, c354_3, e354, hx354_0, hx354_1, hx354_2, hx354_3, hl354_3, hi354_3⟩ := at_T191 HR0.out x4_1 p354 q354
    cases e354
    replace hx354_0 := (HB.out.cell (World.block_lt_of_cell? w _ hx354_0)).trans hx354_0
    replace hx354_1 := (HB.out.cell (World.block_lt_of_cell? w _ hx354_1)).trans hx354_1
    replace hx354_2 := (HB.out.cell (World.block_lt_of_cell? w _ hx354_2)).trans hx354_2
    replace hx354_3 := (HB.out.cell (World.block_lt_of_cell? w _ hx354_3)).trans hx354_3
    have HR354_3 := Aside0.mk hi354_3
    have HC354_3 := Aside0.mk hl354_3
    clear hi354_3 hl354_3
    replace p354 := eq_true p354
    replace q354 := eq_true q354
    go_wp2_with (first | ((with_reducible refine gate_callee (f := 191) rfl ?_); refine goesL_ (some 20) rfl rfl Tryz.func191 (by kernel_rfl) rfl #[.agg #[.int .i64 ((rd_T191 l0 x4_1).f0), .int .i64 ((rd_T191 l0 x4_1).f1), .int .i64 ((rd_T191 l0 x4_1).f2), .slice A354_3 ((rd_T191 l0 x4_1).f3).length c354_3]] rfl (by (try simp only [List.map_toArray, List.map_cons, List.map_nil]); first | done | rfl | (simp only [List.length_drop, List.length_take]; rfl)) ?_; (with_reducible refine (ih_laws_toCond k1 (by have := HK1.out; omega) ((rd_T191 l0 x4_1).f0) ((rd_T191 l0 x4_1).f1) ((rd_T191 l0 x4_1).f2) _ _ ((rd_T191 l0 x4_1).f3) t355 t356 t357 t358 _ ?side1 ?side2 A8.out).mono ?_); (case side1 => repeat (first | exact (Kd.C_below HR354_3.out HB.out) | (with_reducible refine Kd.C_alloc ?_ _) | (with_reducible refine Kd.C_drewN ?_ _) | (with_reducible refine Kd.C_drew ?_))); (case side2 => exact HC354_3.out); rintro e w11 ⟨v359, rfl, ho0, hb⟩; refine ⟨_, rfl, ?_⟩; have n0_ := Aside0.mk (Kd.R_elder' (by (with_reducible repeat (first | apply Kd.R_alloc | apply Kd.R_drewN | apply Kd.R_drew)); exact HO_3.out) (Kd.R_base ho0) hb); have n1_ := Aside0.mk (Kd.R_lower (Kd.R_new' ho0 (Kd.R_lt (by (with_reducible repeat (first | apply Kd.R_alloc | apply Kd.R_drewN | apply Kd.R_drew)); exact HO_3.out))) (below_size (by repeat (first | (with_reducible first | exact HB.out | apply below_alloc | apply pw_below_drewN | apply below_drew1) | exact HB.out)))); have n2_ := Aside0.mk (below_step (by repeat (first | (with_reducible first | exact HB.out | apply below_alloc | apply pw_below_drewN | apply below_drew1) | exact HB.out)) hb); clear HO_3; clear HB; have HO_3 := n0_; have HO360 := n1_; (try have hv1_360 := fun (W_ : World) (a_ : Addr) (m_ : Mode) => run_store Tryz.prog W_ a_ _ m_ (Kd.R_val HO360.out).2); have HB := n2_; clear n0_ n1_ n2_; (try clear hb); (try clear hb2); (try clear hk); (try clear hi); (try clear ho0); have p10 : 0 ≤ (x4_1 : Int) := of_decide_eq_true (by first | (with_reducible assumption) | assumption); have q10 : (x4_1 : Int) < ((x3_1.length : Int) : Int) := of_decide_eq_true (by first | (with_reducible assumption) | assumption); obtain ⟨go10, co10, eo10, gb10, gl10, cl10, HG10⟩ := Kd.R_form HO_3.out (by omega); (first | cases eo10 | (injection eo10 with ea_ en_ ec_; (first | subst ea_ | (injection ea_ with ea_; subst ea_)); subst ec_; clear en_)); have GB10 := Aside0.mk gb10; have GG10 := Aside0.mk HG10; clear gb10 gl10 HG10; obtain ⟨ce10, hcl10, hM10, hcc10, hfr10⟩ := Kd.R_elem HO_3.out z164 (x4_1 : Int) p10 q10; obtain ⟨ve10_3, rfl, ge10_3⟩ := k164_openM hM10; have hx10_0 : w11.cell? ⟨go10, (x4_1 : Int).toNat * 4, none⟩ = some (.int .i64 ((rd_T164 x3_1 x4_1).f0)) := hcc10 0 _ rfl; have hx10_1 : w11.cell? ⟨go10, (x4_1 : Int).toNat * 4 + 1, none⟩ = some (.int .i64 ((rd_T164 x3_1 x4_1).f1)) := hcc10 1 _ rfl; have hx10_2 : w11.cell? ⟨go10, (x4_1 : Int).toNat * 4 + 2, none⟩ = some (.int .i64 ((rd_T164 x3_1 x4_1).f2)) := hcc10 2 _ rfl; have hx10_3 : w11.cell? ⟨go10, (x4_1 : Int).toNat * 4 + 3, none⟩ = some (ve10_3) := hcc10 3 _ rfl; have hf10_0 : w11.frozen? ⟨go10, (x4_1 : Int).toNat * 4, none⟩ = false := hfr10 0; have hf10_1 : w11.frozen? ⟨go10, (x4_1 : Int).toNat * 4 + 1, none⟩ = false := hfr10 1; have hf10_2 : w11.frozen? ⟨go10, (x4_1 : Int).toNat * 4 + 2, none⟩ = false := hfr10 2; have hf10_3 : w11.frozen? ⟨go10, (x4_1 : Int).toNat * 4 + 3, none⟩ = false := hfr10 3; clear hcl10 hcc10 hfr10 hM10; replace p10 := eq_true p10; replace q10 := eq_true q10; have n_ := Aside0.mk (Kd.R_mono (ok' := (fun k_ => some k_ ≠ (v359 : Value).ownBlock)) HO_3.out (fun k_ hk => hk.2)); clear HO_3; have HO_3 := n_; clear n_; have HX12 := Aside0.mk (show Kd.R k164 164 w11 w.heap.size (fun _ => True) (.slice (some ⟨go10, 0, none⟩) x3_1.length co10) x3_1 from (by (with_reducible repeat (first | apply Kd.R_alloc | apply Kd.R_drewN | apply Kd.R_drew)); exact Kd.R_mono HO_3.out (fun _ hk => trivial))); obtain ⟨ce12, hcl12, hM12, hcc12, hfr12⟩ := Kd.R_elem HX12.out z164 (x4_1 : Int) (of_decide_eq_true (by first | (with_reducible assumption) | assumption)) (by have h_ : (x4_1 : Int) < ((x3_1.length : Int) : Int) := of_decide_eq_true (by first | (with_reducible assumption) | assumption); first | exact h_ | (have e_ := (Kd.R_reads' HO_3.out).1; omega) | simpa using h_); obtain ⟨ve12_3, rfl, ge12_3⟩ := k164_openM hM12; have HP12 := Kd.R_seg HX12.out (x4_1 : Int) (of_decide_eq_true (by first | (with_reducible assumption) | assumption)) (by have h_ : (x4_1 : Int) < ((x3_1.length : Int) : Int) := of_decide_eq_true (by first | (with_reducible assumption) | assumption); first | exact h_ | (have e_ := (Kd.R_reads' HO_3.out).1; omega) | simpa using h_) (seg := [.int .i64 t355, .int .i64 t356, .int .i64 t357, v359]) (j := 0) hcl12 hcc12 (show 4 ≤ 4 from by decide) (x' := (⟨t355, t356, t357, t358⟩ : S164)) (k164_mkM _ _ _ (⟨t355, t356, t357, t358⟩ : S164) (Kd.R_mono (HO360.out) (fun k_ hk => ⟨trivial, fun e_ => (hk.2) (by rw [e_]; rfl)⟩))) (fun _ hk => hk); have hx12_0 := hcc12 0 _ rfl; (try simp only [show (k164).sz = 4 from rfl, Nat.mul_one, Nat.add_zero] at hx12_0); have hf12_0 := hfr12 0; (try simp only [show (k164).sz = 4 from rfl, Nat.mul_one, Nat.add_zero] at hf12_0); have hx12_1 := hcc12 1 _ rfl; (try simp only [show (k164).sz = 4 from rfl, Nat.mul_one, Nat.add_zero] at hx12_1); have hf12_1 := hfr12 1; (try simp only [show (k164).sz = 4 from rfl, Nat.mul_one, Nat.add_zero] at hf12_1); have hx12_2 := hcc12 2 _ rfl; (try simp only [show (k164).sz = 4 from rfl, Nat.mul_one, Nat.add_zero] at hx12_2); have hf12_2 := hfr12 2; (try simp only [show (k164).sz = 4 from rfl, Nat.mul_one, Nat.add_zero] at hf12_2); have hx12_3 := hcc12 3 _ rfl; (try simp only [show (k164).sz = 4 from rfl, Nat.mul_one, Nat.add_zero] at hx12_3); have hf12_3 := hfr12 3; (try simp only [show (k164).sz = 4 from rfl, Nat.mul_one, Nat.add_zero] at hf12_3); clear hcl12 hcc12 hfr12 hM12) | ((with_reducible refine gate_store (t := 164) (p := 21) rfl ?_); refine store_event (t := 164) (p := 21) (v := ?vo_w13) (w1 := ((((w11.setCell ⟨go10, (x4_1 : Int).toNat * 4, none⟩ (.int .i64 t355)).setCell ⟨go10, (x4_1 : Int).toNat * 4 + 1, none⟩ (.int .i64 t356)).setCell ⟨go10, (x4_1 : Int).toNat * 4 + 2, none⟩ (.int .i64 t357)).setCell ⟨go10, (x4_1 : Int).toNat * 4 + 3, none⟩ (v359))) ?hg ?ho ?hn ?hr ?_; (case ho => rfl); (case hg => rfl); (case hn => rfl); (case hr => first | (go_simp; done) | (go_simp; rfl)); intro w13 hw; have hg : w11.grownBy w13 (some go10) := (by rw [hw]; exact HP12.2); have hp_ : Kd.R k164 164 w13 w.heap.size (fun _ => True) (.slice (some ⟨go10, 0, none⟩) x3_1.length co10) y361 := (by rw [hw, Ny361.out]; exact HP12.1); clear HP12; have n0_ := Aside0.mk (hp_); have n1_ := Aside0.mk ((by rw [hw]; exact below_set (below_set (below_set (below_set (HB.out) GB10.out) GB10.out) GB10.out) GB10.out : Below w.heap.size w w13)); clear HO_3; clear HB; clear HO360; have HO_3 := n0_; have HB := n1_; clear n0_ n1_; clear hg hw hp_))
    go_roundg k1
    case measure => have := HK1.out; omega
    case rel => exact ⟨(y361), (wrap64 (x4_1 + 1)), (by first | rfl | (simp; done) | (simp [*]; done)), H', ⟨by have := HK1.out; omega⟩, ⟨by (with_reducible repeat (first | apply Kd.R_alloc | apply Kd.R_drewN | apply Kd.R_drew)); exact HO_3.out⟩, ⟨by repeat (first | (with_reducible first | exact HB.out | apply below_alloc | apply pw_below_drewN | apply below_drew1) | exact HB.out)⟩⟩
   ·have c6b0 : decide (x4_1 < (l0.length : Int)) = false := decide_eq_false c6
    clear c6
    obtain rfl := Option.some.inj H
    go_wp2
    go_ret
    exact ⟨_, by first | rfl | (simp [errW_none, errW_some] <;> rfl) | (simp [*, errW_none, errW_some] <;> rfl), by (with_reducible repeat (first | apply Kd.R_alloc | apply Kd.R_drewN | apply Kd.R_drew)); exact HO_3.out, by repeat (first | (with_reducible first | exact HB.out | apply below_alloc | apply pw_below_drewN | apply below_drew1) | exact HB.out)⟩
set_option maxHeartbeats 8000000 in
set_option maxRecDepth 100000 in
theorem laws_toCond.step (k : Nat) (ih_laws_toCondS : ∀ m_, m_ < k → laws_toCondS.Stmt m_) (ih_laws_toCond : ∀ m_, m_ < k → laws_toCond.Stmt m_) : laws_toCond.Stmt k := by
 unfold laws_toCond.Stmt
 intro a0_0 a0_1 a0_2 A0_3 c0_3 l0_3 r1 r2 r3 r4 w hr0_3 hc0_3 h
 cases k with
 | zero => exact absurd h (by simp [laws_toCond.f])
 | succ k =>
 simp only [laws_toCond.f] at h
 have hu191 := Tryz.underlying191
 have hu164 := Tryz.underlying164
 have HR0_3 := Aside0.mk hr0_3
 have HC0_3 := Aside0.mk hc0_3
 clear hr0_3 hc0_3
 have HB := Aside0.mk (Below.refl w.heap.size w)
 have H : ((laws_toCondS.f k l0_3).bind fun t365 => (some (a0_0, a0_1, a0_2, t365))) = some (r1, r2, r3, r4) := h
 clear h
 replace H := Option.bind_eq_some_iff.mp H
 obtain ⟨t365, A20, H⟩ := H
 replace H : (some (a0_0, a0_1, a0_2, t365)) = some (r1, r2, r3, r4) := H
 have A2 := Aside0.mk A20
 clear A20
 simp only [Option.some.injEq, Prod.mk.injEq] at H
 obtain ⟨rfl, rfl, rfl, rfl⟩ := H
 go_enter Tryz.func191, Tryz.ntmps191
 go_wp2_with (first | ((with_reducible refine gate_dst (N := 1) rfl ?_); refine box_event ?hg (N := 1) ?hd (cs := #[.int .i64 a0_0, .int .i64 a0_1, .int .i64 a0_2, .slice A0_3 l0_3.length c0_3]) (t := 191) ?hr ?_; (case hd => rfl); (case hg => rfl); (case hr => first | (go_simp; done) | (go_simp; rfl)); intro gb362 hg w3 hbox hb; have n0_ := Aside0.mk (below_step (by repeat (first | (with_reducible first | exact HB.out | apply below_alloc | apply pw_below_drewN | apply below_drew1) | exact HB.out)) hb); have n1_ := Aside0.mk (hbox); have n2_ := Aside0.mk ((by rw [hg]; exact (below_size (by repeat (first | (with_reducible first | exact HB.out | apply below_alloc | apply pw_below_drewN | apply below_drew1) | exact HB.out))) : w.heap.size ≤ gb362)); have n3_ := Aside0.mk ((by rw [hg]; exact (below_size (by repeat (first | (with_reducible first | exact HB.out | apply below_alloc | apply pw_below_drewN | apply below_drew1) | exact HB.out))) : w.heap.size ≤ gb362)); clear HB; have HB := n0_; have BK362 := n1_; have GW362 := n2_; have GE362 := n3_; clear n0_ n1_ n2_ n3_; clear hb hbox hg) | ((with_reducible refine gate_dst (N := 2) rfl ?_); refine box_event ?hg (N := 2) ?hd (cs := #[.int .i64 0, .int .i64 0, .int .i64 0, .slice none 0 0]) (t := 164) ?hr ?_; (case hd => rfl); (case hg => rfl); (case hr => first | (go_simp; done) | (go_simp; rfl)); intro gb363 hg w4 hbox hb; have n0_ := Aside0.mk (blk_below (g := gb362) (o := .cells #[.int .i64 a0_0, .int .i64 a0_1, .int .i64 a0_2, .slice A0_3 l0_3.length c0_3] 191 (0, 0)) (by (with_reducible repeat (first | refine blk_drewN ?_ _ | refine blk_drew ?_ | refine blk_alloc ?_ _)); exact BK362.out) hb); have n1_ := Aside0.mk (below_step (by repeat (first | (with_reducible first | exact HB.out | apply below_alloc | apply pw_below_drewN | apply below_drew1 | refine below_set ?_ GE362.out) | exact HB.out)) hb); have n2_ := Aside0.mk (hbox); have n3_ := Aside0.mk ((by rw [hg]; exact (below_size (by repeat (first | (with_reducible first | exact HB.out | apply below_alloc | apply pw_below_drewN | apply below_drew1 | refine below_set ?_ GE362.out) | exact HB.out))) : w.heap.size ≤ gb363)); have n4_ := Aside0.mk ((by rw [hg]; exact (below_size (by repeat (first | (with_reducible first | exact HB.out | apply below_alloc | apply pw_below_drewN | apply below_drew1 | refine below_set ?_ GE362.out) | exact HB.out))) : w.heap.size ≤ gb363)); have n5_ := Aside0.mk ((by rw [hg]; exact Nat.ne_of_lt (blk_lt (g := gb362) (o := .cells #[.int .i64 a0_0, .int .i64 a0_1, .int .i64 a0_2, .slice A0_3 l0_3.length c0_3] 191 (0, 0)) (by (with_reducible repeat (first | refine blk_drewN ?_ _ | refine blk_drew ?_ | refine blk_alloc ?_ _)); exact BK362.out)) : gb362 ≠ gb363)); have n6_ := Aside0.mk ((by rw [hg]; exact Nat.ne_of_gt (blk_lt (g := gb362) (o := .cells #[.int .i64 a0_0, .int .i64 a0_1, .int .i64 a0_2, .slice A0_3 l0_3.length c0_3] 191 (0, 0)) (by (with_reducible repeat (first | refine blk_drewN ?_ _ | refine blk_drew ?_ | refine blk_alloc ?_ _)); exact BK362.out)) : gb363 ≠ gb362)); clear BK362; clear HB; have BK362 := n0_; have HB := n1_; have BK363 := n2_; have GW363 := n3_; have GE363 := n4_; have NB362_363 := n5_; have NB363_362 := n6_; clear n0_ n1_ n2_ n3_ n4_ n5_ n6_; clear hb hbox hg) | ((with_reducible refine gate_dst (N := 3) rfl ?_); refine box_event ?hg (N := 3) ?hd (cs := #[.int .i64 0, .int .i64 0, .int .i64 0, .slice none 0 0]) (t := 164) ?hr ?_; (case hd => rfl); (case hg => rfl); (case hr => first | (go_simp; done) | (go_simp; rfl)); intro gb364 hg w5 hbox hb; have n0_ := Aside0.mk (blk_below (g := gb362) (o := .cells #[.int .i64 a0_0, .int .i64 a0_1, .int .i64 a0_2, .slice A0_3 l0_3.length c0_3] 191 (0, 0)) (by (with_reducible repeat (first | refine blk_drewN ?_ _ | refine blk_drew ?_ | refine blk_alloc ?_ _)); exact BK362.out) hb); have n1_ := Aside0.mk (blk_below (g := gb363) (o := .cells #[.int .i64 0, .int .i64 0, .int .i64 0, .slice none 0 0] 164 (0, 0)) (by (with_reducible repeat (first | refine blk_drewN ?_ _ | refine blk_drew ?_ | refine blk_alloc ?_ _)); exact BK363.out) hb); have n2_ := Aside0.mk (below_step (by repeat (first | (with_reducible first | exact HB.out | apply below_alloc | apply pw_below_drewN | apply below_drew1 | refine below_set ?_ GE362.out | refine below_set ?_ GE363.out) | exact HB.out)) hb); have n3_ := Aside0.mk (hbox); have n4_ := Aside0.mk ((by rw [hg]; exact (below_size (by repeat (first | (with_reducible first | exact HB.out | apply below_alloc | apply pw_below_drewN | apply below_drew1 | refine below_set ?_ GE362.out | refine below_set ?_ GE363.out) | exact HB.out))) : w.heap.size ≤ gb364)); have n5_ := Aside0.mk ((by rw [hg]; exact (below_size (by repeat (first | (with_reducible first | exact HB.out | apply below_alloc | apply pw_below_drewN | apply below_drew1 | refine below_set ?_ GE362.out | refine below_set ?_ GE363.out) | exact HB.out))) : w.heap.size ≤ gb364)); have n6_ := Aside0.mk ((by rw [hg]; exact Nat.ne_of_lt (blk_lt (g := gb362) (o := .cells #[.int .i64 a0_0, .int .i64 a0_1, .int .i64 a0_2, .slice A0_3 l0_3.length c0_3] 191 (0, 0)) (by (with_reducible repeat (first | refine blk_drewN ?_ _ | refine blk_drew ?_ | refine blk_alloc ?_ _)); exact BK362.out)) : gb362 ≠ gb364)); have n7_ := Aside0.mk ((by rw [hg]; exact Nat.ne_of_gt (blk_lt (g := gb362) (o := .cells #[.int .i64 a0_0, .int .i64 a0_1, .int .i64 a0_2, .slice A0_3 l0_3.length c0_3] 191 (0, 0)) (by (with_reducible repeat (first | refine blk_drewN ?_ _ | refine blk_drew ?_ | refine blk_alloc ?_ _)); exact BK362.out)) : gb364 ≠ gb362)); have n8_ := Aside0.mk ((by rw [hg]; exact Nat.ne_of_lt (blk_lt (g := gb363) (o := .cells #[.int .i64 0, .int .i64 0, .int .i64 0, .slice none 0 0] 164 (0, 0)) (by (with_reducible repeat (first | refine blk_drewN ?_ _ | refine blk_drew ?_ | refine blk_alloc ?_ _)); exact BK363.out)) : gb363 ≠ gb364)); have n9_ := Aside0.mk ((by rw [hg]; exact Nat.ne_of_gt (blk_lt (g := gb363) (o := .cells #[.int .i64 0, .int .i64 0, .int .i64 0, .slice none 0 0] 164 (0, 0)) (by (with_reducible repeat (first | refine blk_drewN ?_ _ | refine blk_drew ?_ | refine blk_alloc ?_ _)); exact BK363.out)) : gb364 ≠ gb363)); clear BK362; clear BK363; clear HB; have BK362 := n0_; have BK363 := n1_; have HB := n2_; have BK364 := n3_; have GW364 := n4_; have GE364 := n5_; have NB362_364 := n6_; have NB364_362 := n7_; have NB363_364 := n8_; have NB364_363 := n9_; clear n0_ n1_ n2_ n3_ n4_ n5_ n6_ n7_ n8_ n9_; clear hb hbox hg; have hnb6 := NB362_363.out; have hnc6 := NB363_362.out; have hnb7 := NB362_364.out; have hnc7 := NB364_362.out; have hcz8_0 : w5.cell? ⟨gb362, 0, none⟩ = some (.int .i64 a0_0) := (blk_cell BK362.out 0).trans rfl; have hcz8_1 : w5.cell? ⟨gb362, 1, none⟩ = some (.int .i64 a0_1) := (blk_cell BK362.out 1).trans rfl; have hcz8_2 : w5.cell? ⟨gb362, 2, none⟩ = some (.int .i64 a0_2) := (blk_cell BK362.out 2).trans rfl; have hcz8_3 : w5.cell? ⟨gb362, 3, none⟩ = some (.slice A0_3 l0_3.length c0_3) := (blk_cell BK362.out 3).trans rfl; have hfz8_0 := blk_frozen BK362.out 0; have hfz8_1 := blk_frozen BK362.out 1; have hfz8_2 := blk_frozen BK362.out 2; have hfz8_3 := blk_frozen BK362.out 3; have hnb9 := NB364_363.out; have hnc9 := NB363_364.out; have hcz10_0 : w5.cell? ⟨gb364, 0, none⟩ = some (.int .i64 0) := (blk_cell BK364.out 0).trans rfl; have hcz10_1 : w5.cell? ⟨gb364, 1, none⟩ = some (.int .i64 0) := (blk_cell BK364.out 1).trans rfl; have hcz10_2 : w5.cell? ⟨gb364, 2, none⟩ = some (.int .i64 0) := (blk_cell BK364.out 2).trans rfl; have hcz10_3 : w5.cell? ⟨gb364, 3, none⟩ = some (.slice none 0 0) := (blk_cell BK364.out 3).trans rfl; have hfz10_0 := blk_frozen BK364.out 0; have hfz10_1 := blk_frozen BK364.out 1; have hfz10_2 := blk_frozen BK364.out 2; have hfz10_3 := blk_frozen BK364.out 3) | ((with_reducible refine gate_callee (f := 198) rfl ?_); refine goesL_ (some 15) rfl rfl Tryz.func198 (by kernel_rfl) rfl #[.slice A0_3 l0_3.length c0_3] rfl (by (try simp only [List.map_toArray, List.map_cons, List.map_nil]); first | done | rfl | (simp only [List.length_drop, List.length_take]; rfl)) ?_; (with_reducible refine (ih_laws_toCondS k (by omega) _ _ l0_3 t365 _ ?side1 ?side2 A2.out).mono ?_); (case side1 => exact Kd.C_below HR0_3.out (by repeat (first | (with_reducible first | exact HB.out | apply below_alloc | apply pw_below_drewN | apply below_drew1 | refine below_set ?_ GE362.out | refine below_set ?_ GE363.out | refine below_set ?_ GE364.out) | exact HB.out))); (case side2 => exact HC0_3.out); rintro e w11 ⟨v366, rfl, ho0, hb⟩; refine ⟨_, rfl, ?_⟩; have n0_ := Aside0.mk (Kd.R_lower (Kd.R_newB (Kd.R_newB ho0 (g := gb363) (o := .cells #[.int .i64 0, .int .i64 0, .int .i64 0, .slice none 0 0] 164 (0, 0)) (by (with_reducible repeat (first | refine blk_drewN ?_ _ | refine blk_drew ?_ | refine blk_alloc ?_ _)); refine blk_far ?_ NB363_364.out _; (with_reducible repeat (first | refine blk_drewN ?_ _ | refine blk_drew ?_ | refine blk_alloc ?_ _)); refine blk_far ?_ NB363_364.out _; (with_reducible repeat (first | refine blk_drewN ?_ _ | refine blk_drew ?_ | refine blk_alloc ?_ _)); refine blk_far ?_ NB363_364.out _; (with_reducible repeat (first | refine blk_drewN ?_ _ | refine blk_drew ?_ | refine blk_alloc ?_ _)); exact BK363.out)) (g := gb364) (o := .cells #[.int .i64 a0_0, .int .i64 a0_1, .int .i64 a0_2, .slice none 0 0] 164 (0, 0)) (by (with_reducible repeat (first | refine blk_drewN ?_ _ | refine blk_drew ?_ | refine blk_alloc ?_ _)); refine blk_put (cs := #[.int .i64 a0_0, .int .i64 a0_1, .int .i64 0, .slice none 0 0]) ?_ 2 _ rfl; (with_reducible repeat (first | refine blk_drewN ?_ _ | refine blk_drew ?_ | refine blk_alloc ?_ _)); refine blk_put (cs := #[.int .i64 a0_0, .int .i64 0, .int .i64 0, .slice none 0 0]) ?_ 1 _ rfl; (with_reducible repeat (first | refine blk_drewN ?_ _ | refine blk_drew ?_ | refine blk_alloc ?_ _)); refine blk_put (cs := #[.int .i64 0, .int .i64 0, .int .i64 0, .slice none 0 0]) ?_ 0 _ rfl; (with_reducible repeat (first | refine blk_drewN ?_ _ | refine blk_drew ?_ | refine blk_alloc ?_ _)); exact BK364.out)) (below_size (by repeat (first | (with_reducible first | exact HB.out | apply below_alloc | apply pw_below_drewN | apply below_drew1 | refine below_set ?_ GE362.out | refine below_set ?_ GE363.out | refine below_set ?_ GE364.out) | exact HB.out)))); have n1_ := Aside0.mk (blk_below (g := gb362) (o := .cells #[.int .i64 a0_0, .int .i64 a0_1, .int .i64 a0_2, .slice A0_3 l0_3.length c0_3] 191 (0, 0)) (by (with_reducible repeat (first | refine blk_drewN ?_ _ | refine blk_drew ?_ | refine blk_alloc ?_ _)); refine blk_far ?_ NB362_364.out _; (with_reducible repeat (first | refine blk_drewN ?_ _ | refine blk_drew ?_ | refine blk_alloc ?_ _)); refine blk_far ?_ NB362_364.out _; (with_reducible repeat (first | refine blk_drewN ?_ _ | refine blk_drew ?_ | refine blk_alloc ?_ _)); refine blk_far ?_ NB362_364.out _; (with_reducible repeat (first | refine blk_drewN ?_ _ | refine blk_drew ?_ | refine blk_alloc ?_ _)); exact BK362.out) hb); have n2_ := Aside0.mk (blk_below (g := gb363) (o := .cells #[.int .i64 0, .int .i64 0, .int .i64 0, .slice none 0 0] 164 (0, 0)) (by (with_reducible repeat (first | refine blk_drewN ?_ _ | refine blk_drew ?_ | refine blk_alloc ?_ _)); refine blk_far ?_ NB363_364.out _; (with_reducible repeat (first | refine blk_drewN ?_ _ | refine blk_drew ?_ | refine blk_alloc ?_ _)); refine blk_far ?_ NB363_364.out _; (with_reducible repeat (first | refine blk_drewN ?_ _ | refine blk_drew ?_ | refine blk_alloc ?_ _)); refine blk_far ?_ NB363_364.out _; (with_reducible repeat (first | refine blk_drewN ?_ _ | refine blk_drew ?_ | refine blk_alloc ?_ _)); exact BK363.out) hb); have n3_ := Aside0.mk (blk_below (g := gb364) (o := .cells #[.int .i64 a0_0, .int .i64 a0_1, .int .i64 a0_2, .slice none 0 0] 164 (0, 0)) (by (with_reducible repeat (first | refine blk_drewN ?_ _ | refine blk_drew ?_ | refine blk_alloc ?_ _)); refine blk_put (cs := #[.int .i64 a0_0, .int .i64 a0_1, .int .i64 0, .slice none 0 0]) ?_ 2 _ rfl; (with_reducible repeat (first | refine blk_drewN ?_ _ | refine blk_drew ?_ | refine blk_alloc ?_ _)); refine blk_put (cs := #[.int .i64 a0_0, .int .i64 0, .int .i64 0, .slice none 0 0]) ?_ 1 _ rfl; (with_reducible repeat (first | refine blk_drewN ?_ _ | refine blk_drew ?_ | refine blk_alloc ?_ _)); refine blk_put (cs := #[.int .i64 0, .int .i64 0, .int .i64 0, .slice none 0 0]) ?_ 0 _ rfl; (with_reducible repeat (first | refine blk_drewN ?_ _ | refine blk_drew ?_ | refine blk_alloc ?_ _)); exact BK364.out) hb); have n4_ := Aside0.mk (below_step (by repeat (first | (with_reducible first | exact HB.out | apply below_alloc | apply pw_below_drewN | apply below_drew1 | refine below_set ?_ GE362.out | refine below_set ?_ GE363.out | refine below_set ?_ GE364.out) | exact HB.out)) hb); clear BK362; clear BK363; clear BK364; clear HB; have HO367 := n0_; (try have hv1_367 := fun (W_ : World) (a_ : Addr) (m_ : Mode) => run_store Tryz.prog W_ a_ _ m_ (Kd.R_val HO367.out).2); have BK362 := n1_; have BK363 := n2_; have BK364 := n3_; have HB := n4_; clear n0_ n1_ n2_ n3_ n4_; (try clear hb); (try clear hb2); (try clear hk); (try clear hi); (try clear ho0); obtain ⟨Ao12, co12, eo12⟩ := Kd.R_slice HO367.out; subst eo12; have hcz13_0 : w11.cell? ⟨gb364, 0, none⟩ = some (.int .i64 a0_0) := (blk_cell BK364.out 0).trans rfl; have hcz13_1 : w11.cell? ⟨gb364, 1, none⟩ = some (.int .i64 a0_1) := (blk_cell BK364.out 1).trans rfl; have hcz13_2 : w11.cell? ⟨gb364, 2, none⟩ = some (.int .i64 a0_2) := (blk_cell BK364.out 2).trans rfl; have hcz13_3 : w11.cell? ⟨gb364, 3, none⟩ = some (.slice none 0 0) := (blk_cell BK364.out 3).trans rfl; have hfz13_0 := blk_frozen BK364.out 0; have hfz13_1 := blk_frozen BK364.out 1; have hfz13_2 := blk_frozen BK364.out 2; have hfz13_3 := blk_frozen BK364.out 3; have hcz14_0 : w11.cell? ⟨gb363, 0, none⟩ = some (.int .i64 0) := (blk_cell BK363.out 0).trans rfl; have hcz14_1 : w11.cell? ⟨gb363, 1, none⟩ = some (.int .i64 0) := (blk_cell BK363.out 1).trans rfl; have hcz14_2 : w11.cell? ⟨gb363, 2, none⟩ = some (.int .i64 0) := (blk_cell BK363.out 2).trans rfl; have hcz14_3 : w11.cell? ⟨gb363, 3, none⟩ = some (.slice none 0 0) := (blk_cell BK363.out 3).trans rfl; have hfz14_0 := blk_frozen BK363.out 0; have hfz14_1 := blk_frozen BK363.out 1; have hfz14_2 := blk_frozen BK363.out 2; have hfz14_3 := blk_frozen BK363.out 3))
 refine bodyPost_ret (results_cell_row rfl _ _ gb363 164 #[.int .i64 a0_0, .int .i64 a0_1, .int .i64 a0_2, .slice Ao12 t365.length co12] (0, 0) _ rfl (by (with_reducible repeat (first | refine blk_drewN ?_ _ | refine blk_drew ?_ | refine blk_alloc ?_ _)); refine blk_put (cs := #[.int .i64 a0_0, .int .i64 a0_1, .int .i64 a0_2, .slice none 0 0]) ?_ 3 _ rfl; (with_reducible repeat (first | refine blk_drewN ?_ _ | refine blk_drew ?_ | refine blk_alloc ?_ _)); refine blk_put (cs := #[.int .i64 a0_0, .int .i64 a0_1, .int .i64 0, .slice none 0 0]) ?_ 2 _ rfl; (with_reducible repeat (first | refine blk_drewN ?_ _ | refine blk_drew ?_ | refine blk_alloc ?_ _)); refine blk_put (cs := #[.int .i64 a0_0, .int .i64 0, .int .i64 0, .slice none 0 0]) ?_ 1 _ rfl; (with_reducible repeat (first | refine blk_drewN ?_ _ | refine blk_drew ?_ | refine blk_alloc ?_ _)); refine blk_put (cs := #[.int .i64 0, .int .i64 0, .int .i64 0, .slice none 0 0]) ?_ 0 _ rfl; (with_reducible repeat (first | refine blk_drewN ?_ _ | refine blk_drew ?_ | refine blk_alloc ?_ _)); refine blk_far ?_ NB363_364.out _; (with_reducible repeat (first | refine blk_drewN ?_ _ | refine blk_drew ?_ | refine blk_alloc ?_ _)); exact BK363.out) Tryz.underlying164 rfl (by kernel_rfl)) rfl ?_
 exact ⟨_, by first | rfl | (simp [errW_none, errW_some] <;> rfl) | (simp [*, errW_none, errW_some] <;> rfl), by (with_reducible repeat (first | apply Kd.R_alloc | apply Kd.R_drewN | apply Kd.R_drew)); exact Kd.R_mono (Kd.R_far (p := ⟨gb363, 3, none⟩) (Kd.R_far (p := ⟨gb363, 2, none⟩) (Kd.R_far (p := ⟨gb363, 1, none⟩) (Kd.R_far (p := ⟨gb363, 0, none⟩) (Kd.R_far (p := ⟨gb364, 3, none⟩) (Kd.R_mono (Kd.R_mono HO367.out (fun k_ hk => (⟨hk, hk.2⟩ : _ ∧ k_ ≠ gb364))) (fun k_ hk => (⟨hk, hk.1.1.2⟩ : _ ∧ k_ ≠ gb363))) (fun _ hk => hk.1.2) (.slice Ao12 t365.length co12)) (fun _ hk => hk.2) (.int .i64 a0_0)) (fun _ hk => hk.2) (.int .i64 a0_1)) (fun _ hk => hk.2) (.int .i64 a0_2)) (fun _ hk => hk.2) (.slice Ao12 t365.length co12)) (fun _ hk => trivial), by repeat (first | (with_reducible first | exact HB.out | apply below_alloc | apply pw_below_drewN | apply below_drew1 | refine below_set ?_ GE362.out | refine below_set ?_ GE363.out | refine below_set ?_ GE364.out) | exact HB.out)⟩
theorem laws_toCondS.both (k : Nat) : laws_toCondS.Stmt k ∧ laws_toCond.Stmt k := by
 induction k using Nat.strongRecOn with
 | _ k ih =>
 exact ⟨laws_toCondS.step k (fun m hm => (ih m hm).1) (fun m hm => (ih m hm).2), laws_toCond.step k (fun m hm => (ih m hm).1) (fun m hm => (ih m hm).2)⟩
theorem laws_toCond.calls (k : Nat) : ∀ (a0_0 : Int) (a0_1 : Int) (a0_2 : Int) (A0_3 : Option Addr) (c0_3 : Nat) (l0_3 : List (S191)) (r1 : Int) (r2 : Int) (r3 : Int) (r4 : List (S164)) (w : World) (hr0_3 : Kd.C k191 w A0_3 l0_3.length l0_3) (hc0_3 : l0_3.length ≤ c0_3) (h : laws_toCond.f k a0_0 a0_1 a0_2 l0_3 = some (r1, r2, r3, r4)),
  Calls Tryz.prog 191 #[.agg #[.int .i64 a0_0, .int .i64 a0_1, .int .i64 a0_2, .slice A0_3 l0_3.length c0_3]] w fun e w' => ∃ v3_ : Value, e = .returned (.agg #[.int .i64 r1, .int .i64 r2, .int .i64 r3, v3_]) ∧ Kd.R k164 164 w' w.heap.size (fun _ => True) v3_ r4 ∧ Below w.heap.size w w' := (laws_toCondS.both k).2

/-! ### laws_toRule: function 179 -/
def laws_toRule.f (k : Nat) (a0_0 : Int) (a0_1 : Int) (a0_2 : Int) (a0_3 : Int) (a0_4 : Int) (a0_5 : Int) (l0_6 : List (S191)) : Option (Int × Int × Int × Int × Int × Int × (List (S164))) := (laws_toCond.f k a0_3 a0_4 a0_5 l0_6).bind fun bt371 => (some (a0_0, a0_1, a0_2, bt371.1, bt371.2.1, bt371.2.2.1, bt371.2.2.2))
open Go.Proofs.YtineejdlpcgnkaaGreatM in
set_option maxHeartbeats 8000000 in
set_option maxRecDepth 100000 in
theorem laws_toRule.calls (k : Nat) (a0_0 : Int) (a0_1 : Int) (a0_2 : Int) (a0_3 : Int) (a0_4 : Int) (a0_5 : Int) (A0_6 : Option Addr) (c0_6 : Nat) (l0_6 : List (S191)) (r1 : Int) (r2 : Int) (r3 : Int) (r4 : Int) (r5 : Int) (r6 : Int) (r7 : List (S164)) (w : World) (hr0_6 : Kd.C k191 w A0_6 l0_6.length l0_6) (hc0_6 : l0_6.length ≤ c0_6) (h : laws_toRule.f k a0_0 a0_1 a0_2 a0_3 a0_4 a0_5 l0_6 = some (r1, r2, r3, r4, r5, r6, r7)) :
  Calls Tryz.prog 179 #[.agg #[.int .i64 a0_0, .int .i64 a0_1, .int .i64 a0_2, .int .i64 a0_3, .int .i64 a0_4, .int .i64 a0_5, .slice A0_6 l0_6.length c0_6]] w fun e w' => ∃ v6_ : Value, e = .returned (.agg #[.int .i64 r1, .int .i64 r2, .int .i64 r3, .int .i64 r4, .int .i64 r5, .int .i64 r6, v6_]) ∧ Kd.R k164 164 w' w.heap.size (fun _ => True) v6_ r7 ∧ Below w.heap.size w w' := by
 have hu164 := Tryz.underlying164; have hu166 := Tryz.underlying166; have hu191 := Tryz.underlying191; have hu193 := Tryz.underlying193
 have HR0_6 := Aside0.mk hr0_6; have HC0_6 := Aside0.mk hc0_6; clear hr0_6 hc0_6
 unfold laws_toRule.f at h
 obtain ⟨⟨y1_0, y1_1, y1_2, y1_3⟩, m1, h⟩ := Option.bind_eq_some_iff.mp h; try dsimp only at h
 simp only [Option.some.injEq, Prod.mk.injEq] at h
 obtain ⟨rfl, rfl, rfl, rfl, rfl, rfl, rfl⟩ := h
 replace m1 := Aside0.mk m1
 have HB := Aside0.mk (Below.refl w.heap.size w)
 go_enter Tryz.func179, Tryz.ntmps179
 go_upto_region 6 with (first | (go_at_call 191; refine (laws_toCond.calls k _ _ _ _ _ _ y1_0 y1_1 y1_2 y1_3 _ (Kd.C_below HR0_6.out (by repeat (first | exact HB.out | apply below_alloc | refine bSet ?_ (by omega)))) HC0_6.out m1.out).mono ?_; rintro e W1 ⟨v3, rfl, ho3, hb⟩; obtain ⟨A1_3, q1_3, rfl⟩ := Kd.R_slice ho3; have O1_3 := Aside0.mk (R_above (base := w.heap.size) (n := w.heap.size + 1 + 1 + 1) ho3 (by simp; omega) (by simp)); have q_ := alloc3 w (.cells #[.int .i64 a0_0, .int .i64 a0_1, .int .i64 a0_2, .int .i64 a0_3, .int .i64 a0_4, .int .i64 a0_5, .slice A0_6 l0_6.length c0_6] 193) (.cells #[.int .i64 0, .int .i64 0, .int .i64 0, .int .i64 0, .int .i64 0, .int .i64 0, .slice none 0 0] 166) (.cells #[.int .i64 a0_0, .int .i64 a0_1, .int .i64 a0_2, .int .i64 0, .int .i64 0, .int .i64 0, .slice none 0 0] 166); have B1 := Aside0.mk (blk_below q_.1 hb); have B2 := Aside0.mk (blk_below q_.2.1 hb); have B3 := Aside0.mk (blk_below q_.2.2 hb); clear q_; replace HB := Aside0.mk (below_step (by repeat (first | exact HB.out | apply below_alloc | refine bSet ?_ (by omega))) hb); clear hb ho3; have c1 := blk_cell B1.out; have c3 := blk_cell B3.out; have z3 := blk_frozen B3.out))
 have E3 : ((((W1.setCell ⟨w.heap.size + 1 + 1, 3, none⟩ (.int .i64 y1_0)).setCell ⟨w.heap.size + 1 + 1, 4, none⟩ (.int .i64 y1_1)).setCell ⟨w.heap.size + 1 + 1, 5, none⟩ (.int .i64 y1_2)).setCell ⟨w.heap.size + 1 + 1, 6, none⟩ (.slice A1_3 y1_3.length q1_3)).heap[w.heap.size + 1 + 1]? = some (.cells #[.int .i64 a0_0, .int .i64 a0_1, .int .i64 a0_2, .int .i64 y1_0, .int .i64 y1_1, .int .i64 y1_2, .slice A1_3 y1_3.length q1_3] 166 (0, 0)) := (blk_set (blk_set (blk_set (blk_set B3.out 3 (.int .i64 y1_0)) 4 (.int .i64 y1_1)) 5 (.int .i64 y1_2)) 6 (.slice A1_3 y1_3.length q1_3))
 have E2 : ((((W1.setCell ⟨w.heap.size + 1 + 1, 3, none⟩ (.int .i64 y1_0)).setCell ⟨w.heap.size + 1 + 1, 4, none⟩ (.int .i64 y1_1)).setCell ⟨w.heap.size + 1 + 1, 5, none⟩ (.int .i64 y1_2)).setCell ⟨w.heap.size + 1 + 1, 6, none⟩ (.slice A1_3 y1_3.length q1_3)).heap[w.heap.size + 1]? = some (.cells #[.int .i64 0, .int .i64 0, .int .i64 0, .int .i64 0, .int .i64 0, .int .i64 0, .slice none 0 0] 166 (0, 0)) := (by repeat (first | exact B2.out | refine blk_far ?_ (by simp <;> omega) _))
 have EB : Below w.heap.size w ((((W1.setCell ⟨w.heap.size + 1 + 1, 3, none⟩ (.int .i64 y1_0)).setCell ⟨w.heap.size + 1 + 1, 4, none⟩ (.int .i64 y1_1)).setCell ⟨w.heap.size + 1 + 1, 5, none⟩ (.int .i64 y1_2)).setCell ⟨w.heap.size + 1 + 1, 6, none⟩ (.slice A1_3 y1_3.length q1_3)) := (by repeat (first | exact HB.out | apply below_alloc | refine bSet ?_ (by omega)))
 have EO1_3 : Kd.R k164 164 ((((W1.setCell ⟨w.heap.size + 1 + 1, 3, none⟩ (.int .i64 y1_0)).setCell ⟨w.heap.size + 1 + 1, 4, none⟩ (.int .i64 y1_1)).setCell ⟨w.heap.size + 1 + 1, 5, none⟩ (.int .i64 y1_2)).setCell ⟨w.heap.size + 1 + 1, 6, none⟩ (.slice A1_3 y1_3.length q1_3)) w.heap.size (fun k_ => w.heap.size + 1 + 1 + 1 ≤ k_) (.slice A1_3 y1_3.length q1_3) y1_3 := (by repeat (first | exact O1_3.out | refine Kd.R_far ?_ (fun k_ h_ => by have h2_ : w.heap.size + 1 + 1 + 1 ≤ k_ := h_; show _ ≠ _; simp; omega) _))
 clear c1 c3 z3 HB B1 B2 B3 O1_3
 generalize ((((W1.setCell ⟨w.heap.size + 1 + 1, 3, none⟩ (.int .i64 y1_0)).setCell ⟨w.heap.size + 1 + 1, 4, none⟩ (.int .i64 y1_1)).setCell ⟨w.heap.size + 1 + 1, 5, none⟩ (.int .i64 y1_2)).setCell ⟨w.heap.size + 1 + 1, 6, none⟩ (.slice A1_3 y1_3.length q1_3)) = Wf at E3 E2 EB EO1_3 ⊢
 have c3 := blk_cell E3; have c2 := blk_cell E2; have z2 := blk_frozen E2
 go_wp2
 have cf := blk_cell (blk_sets0 (rest := [.int .i64 0, .int .i64 0, .int .i64 0, .int .i64 0, .int .i64 0, .int .i64 0, .slice none 0 0]) E2 [.int .i64 a0_0, .int .i64 a0_1, .int .i64 a0_2, .int .i64 y1_0, .int .i64 y1_1, .int .i64 y1_2, .slice A1_3 y1_3.length q1_3] rfl); simp only [World.setCells] at cf
 exact bodyPost_ret (v := .agg #[.int .i64 a0_0, .int .i64 a0_1, .int .i64 a0_2, .int .i64 y1_0, .int .i64 y1_1, .int .i64 y1_2, .slice A1_3 y1_3.length q1_3]) (by simp [results, Tryz.results179, go_sem, cf]) rfl ⟨_, rfl, Kd.R_mono (R_sets (g := w.heap.size + 1) EO1_3 (fun k_ h_ => by have h2_ : w.heap.size + 1 + 1 + 1 ≤ k_ := h_; omega) [.int .i64 a0_0, .int .i64 a0_1, .int .i64 a0_2, .int .i64 y1_0, .int .i64 y1_1, .int .i64 y1_2, .slice A1_3 y1_3.length q1_3] 0) (fun _ _ => trivial), below_sets (by omega) [.int .i64 a0_0, .int .i64 a0_1, .int .i64 a0_2, .int .i64 y1_0, .int .i64 y1_1, .int .i64 y1_2, .slice A1_3 y1_3.length q1_3] 0 _ EB⟩

/-! ### laws_toRuleS: function 161 -/
def laws_toRuleS.l0 : Nat → List (S193) → List (S166) → Int → Option ((List (S166)))
 | 0, _, _, _ => none
 | k + 1, x0, x3, x4 => if x4 < (x0.length : Int) then (if 0 ≤ x4 then ((laws_toRule.f k ((rd_T193 x0 x4).f0) ((rd_T193 x0 x4).f1) ((rd_T193 x0 x4).f2) ((rd_T193 x0 x4).f3.f0) ((rd_T193 x0 x4).f3.f1) ((rd_T193 x0 x4).f3.f2) ((rd_T193 x0 x4).f3.f3)).bind fun bt390 => (if x4 < (x3.length : Int) then (laws_toRuleS.l0 k x0 (x3.set (x4 : Int).toNat (⟨bt390.1, bt390.2.1, bt390.2.2.1, (⟨bt390.2.2.2.1, bt390.2.2.2.2.1, bt390.2.2.2.2.2.1, bt390.2.2.2.2.2.2⟩ : S164)⟩ : S166)) (wrap64 (x4 + 1))) else (none))) else (none)) else (some x3)
def laws_toRuleS.f (k : Nat) (l0 : List (S193)) : Option ((List (S166))) := if 0 ≤ (l0.length : Int) then (if ((l0.length : Int) : Int).toNat ≤ 3909374676536 then (laws_toRuleS.l0 k l0 (List.replicate ((l0.length : Int) : Int).toNat z166) 0) else (none)) else (none)
open Go.Proofs.YtineejdlpcgnkaaGreatM in
set_option maxHeartbeats 8000000 in
set_option maxRecDepth 100000 in
theorem laws_toRuleS.calls (k : Nat) (A0 : Option Addr) (c0 : Nat) (l0 : List (S193)) (r : List (S166)) (w : World) (hr0 : Kd.C k193 w A0 l0.length l0) (hc0 : l0.length ≤ c0) (h : laws_toRuleS.f k l0 = some r) :
  Calls Tryz.prog 161 #[.slice A0 l0.length c0] w fun e w' => ∃ v0_ : Value, e = .returned (v0_) ∧ Kd.R k166 166 w' w.heap.size (fun _ => True) v0_ r ∧ Below w.heap.size w w' := by
 have hu193 := Tryz.underlying193; have hu166 := Tryz.underlying166
 have HR := Aside0.mk hr0; clear hr0
 have HB := Aside0.mk (Below.refl w.heap.size w)
 unfold laws_toRuleS.f at h
 replace h := ifN h; obtain ⟨c2, h⟩ := h; replace c2 := Aside0.mk c2; replace h := ifN h; obtain ⟨c3, h⟩ := h; replace c3 := Aside0.mk c3
 obtain ⟨ys, hy⟩ : ∃ y_, y_ = (List.replicate ((l0.length : Int) : Int).toNat z166) := ⟨_, rfl⟩
 rw [← hy] at h; replace hy := Aside0.mk hy; replace h := Aside0.mk h
 go_enter Tryz.func161, Tryz.ntmps161
 go_wp2_with (first | ((with_reducible refine gate_dst (N := 7) rfl ?_); refine Kd.R_make k166 _ 166 rfl (N := 7) rfl 113 _ _ rfl (l0.length : Int) rfl rfl Tryz.underlying113 (.agg #[(.int .i64 0), (.int .i64 0), (.int .i64 0), (.int .i64 0), (.int .i64 0), (.int .i64 0), (.slice none 0 0)]) 72 info166 rfl (by decide) (by omega) z166 (ok := fun _ => True) (okp := fun _ => True) (k166_mkM _ _ _ z166 (Kd.R_nil _ _ _ _ _)) (fun _ hk => hk) trivial c2.out (Nat.le_trans (Nat.mul_le_mul_right _ c3.out) (by omega)) (Below.refl _ _) (Nat.le_refl _) ?_; intro v W1 ho hb _ _; rw [← hy.out] at ho; have O := Aside0.mk (Kd.R_lower ho (below_size HB.out)); replace HB := Aside0.mk (below_step HB.out hb); clear hb ho))
 go_loopg [4] k (fun kq v4 w' => ∃ (xs : List S166) (i : Int), v4 = .int .i64 i ∧ Aside0 (laws_toRuleS.l0 kq l0 xs i = some r) ∧ Aside0 (kq ≤ k) ∧ Aside0 (Kd.R k166 166 w' w.heap.size (fun _ => True) v xs) ∧ Aside0 (Below w.heap.size w w'))
 case atStart => exact ⟨_, 0, rfl, h, ⟨Nat.le_refl _⟩, O, HB⟩
 case round =>
  clear h O HB c2 c3
  obtain ⟨xs, i, rfl, H, Hk, O, HB⟩ := hrel
  cases gk with
  | zero => exact absurd H.out (by simp [laws_toRuleS.l0])
  | succ k1 =>
   have h := H.out; clear H
   simp only [laws_toRuleS.l0] at h
   replace h := ifD h; rcases h with ⟨c, h⟩ | ⟨c, h⟩
   ·have d1 := decT c; replace h := ifN h; obtain ⟨c7, h⟩ := h; replace h := Option.bind_eq_some_iff.mp h
    obtain ⟨⟨t390, t391, t392, t393, t394, t395, t396⟩, m, h⟩ := h
    try dsimp only at h
    replace h := ifN h; obtain ⟨c9, h⟩ := h; replace h := Aside0.mk h; replace m := Aside0.mk m
    obtain ⟨ad, A6, a6, e_, x0, x1, x2, x3, x4, x5, x6, l6, f6⟩ := at_T193 HR.out i c7 c
    cases e_
    replace x0 := xC HB ⟨x0⟩; replace x1 := xC HB ⟨x1⟩; replace x2 := xC HB ⟨x2⟩; replace x3 := xC HB ⟨x3⟩; replace x4 := xC HB ⟨x4⟩; replace x5 := xC HB ⟨x5⟩; replace x6 := xC HB ⟨x6⟩
    replace l6 := Aside0.mk l6; replace f6 := Aside0.mk f6
    obtain ⟨g, co, eo, hg, hq, -, -⟩ := Kd.R_form O.out (by omega)
    cases eo
    have e1 := eq_true c; have e2 := eq_true c7; have e3 := eq_true c9; replace c := Aside0.mk c; replace c7 := Aside0.mk c7; replace c9 := Aside0.mk c9; replace hg := Aside0.mk hg; replace hq := Aside0.mk hq
    go_wp2_with (first | (go_at_call 179; refine (laws_toRule.calls k1 _ _ _ _ _ _ _ _ _ t390 t391 t392 t393 t394 t395 t396 _ (Kd.C_below f6.out HB.out) l6.out  m.out).mono ?_; rintro e W2 ⟨v6, rfl, o6, hb⟩; obtain ⟨B6, b6, rfl⟩ := Kd.R_slice o6; obtain ⟨hc, hf, HP⟩ := R_fill O.out hb c7.out c9.out z166 (seg := [.int .i64 t390, .int .i64 t391, .int .i64 t392, .int .i64 t393, .int .i64 t394, .int .i64 t395, .slice B6 t396.length b6]) 7 rfl rfl hq.out (k166_mkM _ _ _ (⟨t390, t391, t392, (⟨t393, t394, t395, t396⟩ : S164)⟩ : S166) (R_above o6 (below_size HB.out) (Nat.le_refl _))); obtain ⟨_, y0⟩ := hc 0 (by decide); have q0 := hf 0; obtain ⟨_, y1⟩ := hc 1 (by decide); have q1 := hf 1; obtain ⟨_, y2⟩ := hc 2 (by decide); have q2 := hf 2; obtain ⟨_, y3⟩ := hc 3 (by decide); have q3 := hf 3; obtain ⟨_, y4⟩ := hc 4 (by decide); have q4 := hf 4; obtain ⟨_, y5⟩ := hc 5 (by decide); have q5 := hf 5; obtain ⟨_, y6⟩ := hc 6 (by decide); have q6 := hf 6; simp only [Nat.add_zero] at y0 q0; replace HP := Aside0.mk HP; replace HB := Aside0.mk (below_step HB.out hb); clear hb hc hf O o6))
    go_roundg k1
    case measure => have := Hk.out; omega
    case rel => exact ⟨_, _, rfl, h, ⟨by have := Hk.out; omega⟩, HP, ⟨below_set (below_set (below_set (below_set (below_set (below_set (below_set (HB.out) hg.out) hg.out) hg.out) hg.out) hg.out) hg.out) hg.out⟩⟩
   ·have d1 := decF c; clear c; obtain rfl := Option.some.inj h
    go_wp2
    go_ret
    exact ⟨_, rfl, O.out, HB.out⟩

/-! ### laws_toPolicy: function 131 -/
def laws_toPolicy.f (k : Nat) (a0_0 : Int) (l0_1 : List (S193)) : Option (Int × (List (S166))) := (laws_toRuleS.f k l0_1).bind fun t417 => (some (a0_0, t417))
open Go.Proofs.YtineejdlpcgnkaaGreatM in
set_option maxHeartbeats 8000000 in
set_option maxRecDepth 100000 in
theorem laws_toPolicy.calls (k : Nat) (a0_0 : Int) (A0_1 : Option Addr) (c0_1 : Nat) (l0_1 : List (S193)) (r1 : Int) (r2 : List (S166)) (w : World) (hr0_1 : Kd.C k193 w A0_1 l0_1.length l0_1) (hc0_1 : l0_1.length ≤ c0_1) (h : laws_toPolicy.f k a0_0 l0_1 = some (r1, r2)) :
  Calls Tryz.prog 131 #[.agg #[.int .i64 a0_0, .slice A0_1 l0_1.length c0_1]] w fun e w' => ∃ v1_ : Value, e = .returned (.agg #[.int .i64 r1, v1_]) ∧ Kd.R k166 166 w' w.heap.size (fun _ => True) v1_ r2 ∧ Below w.heap.size w w' := by
 have hu105 := Tryz.underlying105; have hu115 := Tryz.underlying115
 have HR0_1 := Aside0.mk hr0_1; have HC0_1 := Aside0.mk hc0_1; clear hr0_1 hc0_1
 unfold laws_toPolicy.f at h
 obtain ⟨y1_0, m1, h⟩ := Option.bind_eq_some_iff.mp h; try dsimp only at h
 simp only [Option.some.injEq, Prod.mk.injEq] at h
 obtain ⟨rfl, rfl⟩ := h
 replace m1 := Aside0.mk m1
 have HB := Aside0.mk (Below.refl w.heap.size w)
 go_enter Tryz.func131, Tryz.ntmps131
 go_upto_region 4 with (first | (go_at_call 161; refine (laws_toRuleS.calls k _ _ _ y1_0 _ (Kd.C_below HR0_1.out (by repeat (first | exact HB.out | apply below_alloc | refine bSet ?_ (by omega)))) HC0_1.out m1.out).mono ?_; rintro e W1 ⟨v0, rfl, ho0, hb⟩; obtain ⟨A1_0, q1_0, rfl⟩ := Kd.R_slice ho0; have O1_0 := Aside0.mk (R_above (base := w.heap.size) (n := w.heap.size + 1 + 1 + 1) ho0 (by simp; omega) (by simp)); have q_ := alloc3 w (.cells #[.int .i64 a0_0, .slice A0_1 l0_1.length c0_1] 105) (.cells #[.int .i64 0, .slice none 0 0] 115) (.cells #[.int .i64 a0_0, .slice none 0 0] 115); have B1 := Aside0.mk (blk_below q_.1 hb); have B2 := Aside0.mk (blk_below q_.2.1 hb); have B3 := Aside0.mk (blk_below q_.2.2 hb); clear q_; replace HB := Aside0.mk (below_step (by repeat (first | exact HB.out | apply below_alloc | refine bSet ?_ (by omega))) hb); clear hb ho0; have c1 := blk_cell B1.out; have c3 := blk_cell B3.out; have z3 := blk_frozen B3.out))
 have E3 : (W1.setCell ⟨w.heap.size + 1 + 1, 1, none⟩ (.slice A1_0 y1_0.length q1_0)).heap[w.heap.size + 1 + 1]? = some (.cells #[.int .i64 a0_0, .slice A1_0 y1_0.length q1_0] 115 (0, 0)) := (blk_set B3.out 1 (.slice A1_0 y1_0.length q1_0))
 have E2 : (W1.setCell ⟨w.heap.size + 1 + 1, 1, none⟩ (.slice A1_0 y1_0.length q1_0)).heap[w.heap.size + 1]? = some (.cells #[.int .i64 0, .slice none 0 0] 115 (0, 0)) := (by repeat (first | exact B2.out | refine blk_far ?_ (by simp <;> omega) _))
 have EB : Below w.heap.size w (W1.setCell ⟨w.heap.size + 1 + 1, 1, none⟩ (.slice A1_0 y1_0.length q1_0)) := (by repeat (first | exact HB.out | apply below_alloc | refine bSet ?_ (by omega)))
 have EO1_0 : Kd.R k166 166 (W1.setCell ⟨w.heap.size + 1 + 1, 1, none⟩ (.slice A1_0 y1_0.length q1_0)) w.heap.size (fun k_ => w.heap.size + 1 + 1 + 1 ≤ k_) (.slice A1_0 y1_0.length q1_0) y1_0 := (by repeat (first | exact O1_0.out | refine Kd.R_far ?_ (fun k_ h_ => by have h2_ : w.heap.size + 1 + 1 + 1 ≤ k_ := h_; show _ ≠ _; simp; omega) _))
 clear c1 c3 z3 HB B1 B2 B3 O1_0
 generalize (W1.setCell ⟨w.heap.size + 1 + 1, 1, none⟩ (.slice A1_0 y1_0.length q1_0)) = Wf at E3 E2 EB EO1_0 ⊢
 have c3 := blk_cell E3; have c2 := blk_cell E2; have z2 := blk_frozen E2
 go_wp2
 have cf := blk_cell (blk_sets0 (rest := [.int .i64 0, .slice none 0 0]) E2 [.int .i64 a0_0, .slice A1_0 y1_0.length q1_0] rfl); simp only [World.setCells] at cf
 exact bodyPost_ret (v := .agg #[.int .i64 a0_0, .slice A1_0 y1_0.length q1_0]) (by simp [results, Tryz.results131, go_sem, cf]) rfl ⟨_, rfl, Kd.R_mono (R_sets (g := w.heap.size + 1) EO1_0 (fun k_ h_ => by have h2_ : w.heap.size + 1 + 1 + 1 ≤ k_ := h_; omega) [.int .i64 a0_0, .slice A1_0 y1_0.length q1_0] 0) (fun _ _ => trivial), below_sets (by omega) [.int .i64 a0_0, .slice A1_0 y1_0.length q1_0] 0 _ EB⟩

/-! ### laws_toEpoch: function 83 -/
def laws_toEpoch.f (k : Nat) (a0_0 : Int) (a0_1 : Int) (l0_2 : List (S177)) (a0_3 : Int) (l0_4 : List (S193)) : Option (Int × Int × (List (S161)) × Int × (List (S166))) := (laws_toIncludesS.f k l0_2).bind fun t429 => ((laws_toPolicy.f k a0_3 l0_4).bind fun bt432 => (some (a0_0, a0_1, t429, bt432.1, bt432.2)))
open Go.Proofs.YtineejdlpcgnkaaGreatM in
set_option maxHeartbeats 8000000 in
set_option maxRecDepth 100000 in
theorem laws_toEpoch.calls (k : Nat) (a0_0 : Int) (a0_1 : Int) (A0_2 : Option Addr) (c0_2 : Nat) (l0_2 : List (S177)) (a0_3 : Int) (A0_4 : Option Addr) (c0_4 : Nat) (l0_4 : List (S193)) (r1 : Int) (r2 : Int) (r3 : List (S161)) (r4 : Int) (r5 : List (S166)) (w : World) (hr0_2 : Kd.C k177 w A0_2 l0_2.length l0_2) (hc0_2 : l0_2.length ≤ c0_2) (hr0_4 : Kd.C k193 w A0_4 l0_4.length l0_4) (hc0_4 : l0_4.length ≤ c0_4) (h : laws_toEpoch.f k a0_0 a0_1 l0_2 a0_3 l0_4 = some (r1, r2, r3, r4, r5)) :
  Calls Tryz.prog 83 #[.agg #[.int .i64 a0_0, .int .i64 a0_1, .slice A0_2 l0_2.length c0_2, .int .i64 a0_3, .slice A0_4 l0_4.length c0_4]] w fun e w' => ∃ v2_ v4_ : Value, e = .returned (.agg #[.int .i64 r1, .int .i64 r2, v2_, .int .i64 r4, v4_]) ∧ Kd.R k161 161 w' w.heap.size (fun _ => True) v2_ r3 ∧ Kd.R k166 166 w' w.heap.size (fun _ => True) v4_ r5 ∧ Below w.heap.size w w' := by
 have hu105 := Tryz.underlying105; have hu107 := Tryz.underlying107; have hu115 := Tryz.underlying115; have hu117 := Tryz.underlying117
 have HR0_2 := Aside0.mk hr0_2; have HC0_2 := Aside0.mk hc0_2; clear hr0_2 hc0_2
 have HR0_4 := Aside0.mk hr0_4; have HC0_4 := Aside0.mk hc0_4; clear hr0_4 hc0_4
 unfold laws_toEpoch.f at h
 obtain ⟨y1_0, m1, h⟩ := Option.bind_eq_some_iff.mp h; try dsimp only at h
 obtain ⟨⟨y2_0, y2_1⟩, m2, h⟩ := Option.bind_eq_some_iff.mp h; try dsimp only at h
 simp only [Option.some.injEq, Prod.mk.injEq] at h
 obtain ⟨rfl, rfl, rfl, rfl, rfl⟩ := h
 replace m1 := Aside0.mk m1; replace m2 := Aside0.mk m2
 have HB := Aside0.mk (Below.refl w.heap.size w)
 go_enter Tryz.func83, Tryz.ntmps83
 go_upto_region 6 with (first | (go_at_call 130; refine (laws_toIncludesS.calls k _ _ _ y1_0 _ (Kd.C_below HR0_2.out (by repeat (first | exact HB.out | apply below_alloc | refine bSet ?_ (by omega)))) HC0_2.out m1.out).mono ?_; rintro e W1 ⟨v0, rfl, ho0, hb⟩; obtain ⟨A1_0, q1_0, rfl⟩ := Kd.R_slice ho0; have O1_0 := Aside0.mk (R_above (base := w.heap.size) (n := w.heap.size + 1 + 1 + 1) ho0 (by simp; omega) (by simp)); have q_ := alloc3 w (.cells #[.int .i64 a0_0, .int .i64 a0_1, .slice A0_2 l0_2.length c0_2, .int .i64 a0_3, .slice A0_4 l0_4.length c0_4] 107) (.cells #[.int .i64 0, .int .i64 0, .slice none 0 0, .int .i64 0, .slice none 0 0] 117) (.cells #[.int .i64 a0_0, .int .i64 a0_1, .slice none 0 0, .int .i64 0, .slice none 0 0] 117); have B1 := Aside0.mk (blk_below q_.1 hb); have B2 := Aside0.mk (blk_below q_.2.1 hb); have B3 := Aside0.mk (blk_below q_.2.2 hb); clear q_; replace HB := Aside0.mk (below_step (by repeat (first | exact HB.out | apply below_alloc | refine bSet ?_ (by omega))) hb); clear hb ho0; have c1 := blk_cell B1.out; have c3 := blk_cell B3.out; have z3 := blk_frozen B3.out) | (go_at_call 131; refine (laws_toPolicy.calls k _ _ _ _ y2_0 y2_1 _ (Kd.C_below HR0_4.out (by repeat (first | exact HB.out | apply below_alloc | refine bSet ?_ (by omega)))) HC0_4.out m2.out).mono ?_; rintro e W2 ⟨v1, rfl, ho1, hb⟩; obtain ⟨A2_1, q2_1, rfl⟩ := Kd.R_slice ho1; have O2_1 := Aside0.mk (R_above (base := w.heap.size) (n := w.heap.size + 1 + 1 + 1) ho1 (by have := blk_lt B3.out; simp; omega) (by have := blk_lt B3.out; simp; omega)); have n_ : Kd.R k161 161 (W1.setCell ⟨w.heap.size + 1 + 1, 2, none⟩ (.slice A1_0 y1_0.length q1_0)) w.heap.size (fun k_ => w.heap.size + 1 + 1 + 1 ≤ k_) (.slice A1_0 y1_0.length q1_0) y1_0 := (by repeat (first | exact O1_0.out | refine Kd.R_far ?_ (fun k_ h_ => by have h2_ : w.heap.size + 1 + 1 + 1 ≤ k_ := h_; show _ ≠ _; simp; omega) _)); replace O1_0 := Aside0.mk (Kd.R_below n_ hb); clear n_; have n_ : (W1.setCell ⟨w.heap.size + 1 + 1, 2, none⟩ (.slice A1_0 y1_0.length q1_0)).heap[w.heap.size]? = some (.cells #[.int .i64 a0_0, .int .i64 a0_1, .slice A0_2 l0_2.length c0_2, .int .i64 a0_3, .slice A0_4 l0_4.length c0_4] 107 (0, 0)) := (by repeat (first | exact B1.out | refine blk_far ?_ (by simp <;> omega) _)); replace B1 := Aside0.mk (blk_below n_ hb); clear n_; have n_ : (W1.setCell ⟨w.heap.size + 1 + 1, 2, none⟩ (.slice A1_0 y1_0.length q1_0)).heap[w.heap.size + 1]? = some (.cells #[.int .i64 0, .int .i64 0, .slice none 0 0, .int .i64 0, .slice none 0 0] 117 (0, 0)) := (by repeat (first | exact B2.out | refine blk_far ?_ (by simp <;> omega) _)); replace B2 := Aside0.mk (blk_below n_ hb); clear n_; have B3_ : W2.heap[w.heap.size + 1 + 1]? = some (.cells #[.int .i64 a0_0, .int .i64 a0_1, .slice A1_0 y1_0.length q1_0, .int .i64 0, .slice none 0 0] 117 (0, 0)) := blk_below (blk_set B3.out 2 (.slice A1_0 y1_0.length q1_0)) hb; replace B3 := Aside0.mk B3_; clear B3_ c1 c3 z3; have n_ : Below w.heap.size w (W1.setCell ⟨w.heap.size + 1 + 1, 2, none⟩ (.slice A1_0 y1_0.length q1_0)) := (by repeat (first | exact HB.out | apply below_alloc | refine bSet ?_ (by omega))); replace HB := Aside0.mk (below_step n_ hb); clear n_; clear hb ho1; have c1 := blk_cell B1.out; have c3 := blk_cell B3.out; have z3 := blk_frozen B3.out))
 have E3 : ((W2.setCell ⟨w.heap.size + 1 + 1, 3, none⟩ (.int .i64 y2_0)).setCell ⟨w.heap.size + 1 + 1, 4, none⟩ (.slice A2_1 y2_1.length q2_1)).heap[w.heap.size + 1 + 1]? = some (.cells #[.int .i64 a0_0, .int .i64 a0_1, .slice A1_0 y1_0.length q1_0, .int .i64 y2_0, .slice A2_1 y2_1.length q2_1] 117 (0, 0)) := (blk_set (blk_set B3.out 3 (.int .i64 y2_0)) 4 (.slice A2_1 y2_1.length q2_1))
 have E2 : ((W2.setCell ⟨w.heap.size + 1 + 1, 3, none⟩ (.int .i64 y2_0)).setCell ⟨w.heap.size + 1 + 1, 4, none⟩ (.slice A2_1 y2_1.length q2_1)).heap[w.heap.size + 1]? = some (.cells #[.int .i64 0, .int .i64 0, .slice none 0 0, .int .i64 0, .slice none 0 0] 117 (0, 0)) := (by repeat (first | exact B2.out | refine blk_far ?_ (by simp <;> omega) _))
 have EB : Below w.heap.size w ((W2.setCell ⟨w.heap.size + 1 + 1, 3, none⟩ (.int .i64 y2_0)).setCell ⟨w.heap.size + 1 + 1, 4, none⟩ (.slice A2_1 y2_1.length q2_1)) := (by repeat (first | exact HB.out | apply below_alloc | refine bSet ?_ (by omega)))
 have EO1_0 : Kd.R k161 161 ((W2.setCell ⟨w.heap.size + 1 + 1, 3, none⟩ (.int .i64 y2_0)).setCell ⟨w.heap.size + 1 + 1, 4, none⟩ (.slice A2_1 y2_1.length q2_1)) w.heap.size (fun k_ => w.heap.size + 1 + 1 + 1 ≤ k_) (.slice A1_0 y1_0.length q1_0) y1_0 := (by repeat (first | exact O1_0.out | refine Kd.R_far ?_ (fun k_ h_ => by have h2_ : w.heap.size + 1 + 1 + 1 ≤ k_ := h_; show _ ≠ _; simp; omega) _))
 have EO2_1 : Kd.R k166 166 ((W2.setCell ⟨w.heap.size + 1 + 1, 3, none⟩ (.int .i64 y2_0)).setCell ⟨w.heap.size + 1 + 1, 4, none⟩ (.slice A2_1 y2_1.length q2_1)) w.heap.size (fun k_ => w.heap.size + 1 + 1 + 1 ≤ k_) (.slice A2_1 y2_1.length q2_1) y2_1 := (by repeat (first | exact O2_1.out | refine Kd.R_far ?_ (fun k_ h_ => by have h2_ : w.heap.size + 1 + 1 + 1 ≤ k_ := h_; show _ ≠ _; simp; omega) _))
 clear c1 c3 z3 HB B1 B2 B3 O1_0 O2_1
 generalize ((W2.setCell ⟨w.heap.size + 1 + 1, 3, none⟩ (.int .i64 y2_0)).setCell ⟨w.heap.size + 1 + 1, 4, none⟩ (.slice A2_1 y2_1.length q2_1)) = Wf at E3 E2 EB EO1_0 EO2_1 ⊢
 have c3 := blk_cell E3; have c2 := blk_cell E2; have z2 := blk_frozen E2
 go_wp2
 have cf := blk_cell (blk_sets0 (rest := [.int .i64 0, .int .i64 0, .slice none 0 0, .int .i64 0, .slice none 0 0]) E2 [.int .i64 a0_0, .int .i64 a0_1, .slice A1_0 y1_0.length q1_0, .int .i64 y2_0, .slice A2_1 y2_1.length q2_1] rfl); simp only [World.setCells] at cf
 exact bodyPost_ret (v := .agg #[.int .i64 a0_0, .int .i64 a0_1, .slice A1_0 y1_0.length q1_0, .int .i64 y2_0, .slice A2_1 y2_1.length q2_1]) (by simp [results, Tryz.results83, go_sem, cf]) rfl ⟨_, _, rfl, Kd.R_mono (R_sets (g := w.heap.size + 1) EO1_0 (fun k_ h_ => by have h2_ : w.heap.size + 1 + 1 + 1 ≤ k_ := h_; omega) [.int .i64 a0_0, .int .i64 a0_1, .slice A1_0 y1_0.length q1_0, .int .i64 y2_0, .slice A2_1 y2_1.length q2_1] 0) (fun _ _ => trivial), Kd.R_mono (R_sets (g := w.heap.size + 1) EO2_1 (fun k_ h_ => by have h2_ : w.heap.size + 1 + 1 + 1 ≤ k_ := h_; omega) [.int .i64 a0_0, .int .i64 a0_1, .slice A1_0 y1_0.length q1_0, .int .i64 y2_0, .slice A2_1 y2_1.length q2_1] 0) (fun _ _ => trivial), below_sets (by omega) [.int .i64 a0_0, .int .i64 a0_1, .slice A1_0 y1_0.length q1_0, .int .i64 y2_0, .slice A2_1 y2_1.length q2_1] 0 _ EB⟩

end Go.Proofs.YtineejdlpcgnkaaGreat.QFnExactIsCenter
