/- The machine side of FnExactIsCenter: what each function that it reaches computes, and that the machine's call gives just that. -/
import Derived.Test.YtineejdlpcgnkaaGreatQFnExactIsCenterx0
import Derived.Test.YtineejdlpcgnkaaGreatQFnExactIsCenterx1
import Derived.Test.YtineejdlpcgnkaaGreatQFnExactIsCenterx9
import Derived.Test.YtineejdlpcgnkaaGreatQFnExactIsCenterx10
import Derived.Test.YtineejdlpcgnkaaGreatQFnExactIsCenterx13
import Derived.Test.YtineejdlpcgnkaaGreatQFnExactIsCenterx14
namespace Go.Proofs.YtineejdlpcgnkaaGreat.QFnExactIsCenter
open Go.RowKit Go.Proofs.YtineejdlpcgnkaaGreatW.PrintWords Go.Proofs.YtineejdlpcgnkaaGreatW.PrintLast Go.Proofs.YtineejdlpcgnkaaGreatW.PrintMore
attribute [local go_sem] max2_int min2_int max_two min_two max_three min_three max_four min_four   -- for this text's walks alone
set_option linter.unusedVariables false
set_option linter.unusedSimpArgs false

attribute [local go_sem high] eqA64
/-! ### impl_IsCenter: function 10 -/
def impl_IsCenter.l0 : Nat → List (S64) → Int → Int → List (S110) → List (S117) → List (S53) → List (S121) → Int → List (S64) → Option (Bool)
 | 0, _, _, _, _, _, _, _, _, _ => none
 | k + 1, x6, x7, x8, x734000, x734001, x734002, x734003, x734004, x734005 => if x8 < x7 then (if 0 ≤ x8 then (if x8 < (x6.length : Int) then (if ((rd_T64 x6 x8).f0) = (wrap64 (x8 + 1)) then ((impl_IsCert.f ((rd_T64 x6 x8).f0) ((rd_T64 x6 x8).f1) ((rd_T64 x6 x8).f2) ((rd_T64 x6 x8).f3) ((rd_T64 x6 x8).f4) ((rd_T64 x6 x8).f5)).bind fun t736 => (if t736 = true then ((impl_MarkCert.f k x734004 ((rd_T64 x6 x8).f0) ((rd_T64 x6 x8).f1) ((rd_T64 x6 x8).f2) ((rd_T64 x6 x8).f3) ((rd_T64 x6 x8).f4) ((rd_T64 x6 x8).f5)).bind fun bt737 => (if (!(bt737.1 == ((rd_T64 x6 x8).f0)) || (!(bt737.2.1 == ((rd_T64 x6 x8).f1)) || (!(bt737.2.2.1 == ((rd_T64 x6 x8).f2)) || (!(bt737.2.2.2.1 == ((rd_T64 x6 x8).f3)) || (!(bt737.2.2.2.2.1 == ((rd_T64 x6 x8).f4)) || (!(bt737.2.2.2.2.2 == ((rd_T64 x6 x8).f5)))))))) = true then (some false) else (impl_IsCenter.l0 k x6 x7 (wrap64 (x8 + 1)) x734000 x734001 x734002 x734003 x734004 x734005))) else (some false))) else (some false)) else (none)) else (none)) else ((impl_AreIssuers.f k x734000).bind fun t743 => (if t743 = true then ((impl_AreEpochs.f k x734001).bind fun t744 => (if t744 = true then ((impl_IsStore.f k x734002).bind fun t745 => (if t745 = true then ((impl_AreRevoked.f k x734003).bind fun t746 => (if t746 = true then ((impl_IsValidKey.f x734004).bind fun t747 => (if t747 = true then (some (decide ((x734005.length : Int) ≤ 20))) else (some false))) else (some false))) else (some false))) else (some false))) else (some false)))
def impl_IsCenter.f (k : Nat) (l0_0 : List (S110)) (l0_1 : List (S117)) (l0_2 : List (S53)) (l0_3 : List (S121)) (a0_4 : Int) (l0_5 : List (S64)) : Option (Bool) := impl_IsCenter.l0 k l0_5 (l0_5.length : Int) 0 l0_0 l0_1 l0_2 l0_3 a0_4 l0_5
open Go.Proofs.YtineejdlpcgnkaaGreatM in
set_option maxHeartbeats 8000000 in
set_option maxRecDepth 100000 in
theorem impl_IsCenter.calls (k : Nat) (A0_0 : Option Addr) (c0_0 : Nat) (l0_0 : List (S110)) (A0_1 : Option Addr) (c0_1 : Nat) (l0_1 : List (S117)) (A0_2 : Option Addr) (c0_2 : Nat) (l0_2 : List (S53)) (A0_3 : Option Addr) (c0_3 : Nat) (l0_3 : List (S121)) (a0_4 : Int) (A0_5 : Option Addr) (c0_5 : Nat) (l0_5 : List (S64)) (r : Bool) (w : World) (hr0_0 : Kd.C k110 w A0_0 l0_0.length l0_0) (hc0_0 : l0_0.length ≤ c0_0) (hr0_1 : Kd.C k117 w A0_1 l0_1.length l0_1) (hc0_1 : l0_1.length ≤ c0_1) (hr0_2 : Kd.C k53 w A0_2 l0_2.length l0_2) (hc0_2 : l0_2.length ≤ c0_2) (hr0_3 : Kd.C k121 w A0_3 l0_3.length l0_3) (hc0_3 : l0_3.length ≤ c0_3) (hr0_5 : Kd.C k64 w A0_5 l0_5.length l0_5) (hc0_5 : l0_5.length ≤ c0_5) (h : impl_IsCenter.f k l0_0 l0_1 l0_2 l0_3 a0_4 l0_5 = some r) :
  Calls Tryz.prog 10 #[.agg #[.slice A0_0 l0_0.length c0_0, .slice A0_1 l0_1.length c0_1, .slice A0_2 l0_2.length c0_2, .slice A0_3 l0_3.length c0_3, .int .i64 a0_4, .slice A0_5 l0_5.length c0_5]] w fun e w' => e = .returned (.bool r) ∧ Below w.heap.size w w' := by
 have HR0_0 := Aside0.mk hr0_0
 have HC0_0 := Aside0.mk hc0_0
 clear hr0_0 hc0_0
 have HR0_1 := Aside0.mk hr0_1
 have HC0_1 := Aside0.mk hc0_1
 clear hr0_1 hc0_1
 have HR0_2 := Aside0.mk hr0_2
 have HC0_2 := Aside0.mk hc0_2
 clear hr0_2 hc0_2
 have HR0_3 := Aside0.mk hr0_3
 have HC0_3 := Aside0.mk hc0_3
 clear hr0_3 hc0_3
 have HR0_5 := Aside0.mk hr0_5
 have HC0_5 := Aside0.mk hc0_5
 clear hr0_5 hc0_5
 have HB := Aside0.mk (Below.refl w.heap.size w)
 have H := h
 clear h
 unfold impl_IsCenter.f at H
 have hu37 := Tryz.underlying37
 have hu64 := Tryz.underlying64
 go_enter Tryz.func10, Tryz.ntmps10
 replace H := Aside0.mk H
 go_upto_region 1 with (first | ((with_reducible refine gate_dst (N := 1) rfl ?_); refine box_event ?hg (N := 1) ?hd (cs := #[.slice A0_0 l0_0.length c0_0, .slice A0_1 l0_1.length c0_1, .slice A0_2 l0_2.length c0_2, .slice A0_3 l0_3.length c0_3, .int .i64 a0_4, .slice A0_5 l0_5.length c0_5]) (t := 37) ?hr ?_; (case hd => rfl); (case hg => rfl); (case hr => first | (go_simp; done) | (go_simp; rfl)); intro gb1 hg W1 hbox hb; replace HB := bH HB hb; clear hb; have BK1 := Aside0.mk hbox; have c_BK1 := blk_cell hbox; have z_BK1 := blk_frozen hbox; clear hg hbox))
 go_wp2
 go_loopg [8] k (fun kq v8 w' => ∃ (x8_2 : Int), v8 = .int .i64 x8_2 ∧ Aside0 (impl_IsCenter.l0 kq l0_5 (l0_5.length : Int) x8_2 l0_0 l0_1 l0_2 l0_3 a0_4 l0_5 = some r) ∧ Aside0 (kq ≤ k) ∧ Aside0 (w'.heap[gb1]? = some (.cells #[.slice A0_0 l0_0.length c0_0, .slice A0_1 l0_1.length c0_1, .slice A0_2 l0_2.length c0_2, .slice A0_3 l0_3.length c0_3, .int .i64 a0_4, .slice A0_5 l0_5.length c0_5] 37 (0, 0))) ∧ Aside0 (Below w.heap.size w w'))
 case atStart => exact ⟨(0), (by first | rfl | (simp; done) | (simp [*]; done)), H, ⟨Nat.le_refl _⟩, BK1, HB⟩
 case round =>
  clear H HB BK1 c_BK1 z_BK1
  obtain ⟨x8_2, rfl, HA, Hk2, BK1, HB⟩ := hrel
  have c_BK1 := blk_cell BK1.out; have z_BK1 := blk_frozen BK1.out
  cases gk with
  | zero => exact absurd HA.out (by simp [impl_IsCenter.l0])
  | succ k2 =>
   have H := HA.out
   clear HA
   simp only [impl_IsCenter.l0] at H
   replace H := ifD H; rcases H with ⟨c3, H⟩ | ⟨c3, H⟩
   ·have c3_0 := decT c3
    replace c3 := Aside0.mk c3
    first | rw [c3_0] | skip
    replace H := ifN H; obtain ⟨c4, H⟩ := H
    have c4_0 := decT c4
    replace c4 := Aside0.mk c4
    first | rw [c4_0] | skip
    replace H := ifN H; obtain ⟨c5, H⟩ := H
    have c5_0 := decT c5
    replace c5 := Aside0.mk c5
    first | rw [c5_0] | skip
    have p734 : 0 ≤ (x8_2 : Int) := (of_decide_eq_true (by assumption))
    have q734 : x8_2 < (l0_5.length : Int) := (of_decide_eq_true (by assumption))
    obtain ⟨ad734, e734, hx734_0, hx734_1, hx734_2, hx734_3, hx734_4, hx734_5⟩ := at_T64 HR0_5.out x8_2 p734 q734
    cases e734
    replace hx734_0 := Aside0.mk hx734_0
    have y734_0 := xC HB hx734_0
    replace hx734_1 := Aside0.mk hx734_1
    have y734_1 := xC HB hx734_1
    replace hx734_2 := Aside0.mk hx734_2
    have y734_2 := xC HB hx734_2
    replace hx734_3 := Aside0.mk hx734_3
    have y734_3 := xC HB hx734_3
    replace hx734_4 := Aside0.mk hx734_4
    have y734_4 := xC HB hx734_4
    replace hx734_5 := Aside0.mk hx734_5
    have y734_5 := xC HB hx734_5
    have r734 := eq_true p734; have s734 := eq_true q734
    replace p734 := Aside0.mk p734; replace q734 := Aside0.mk q734
    replace H := Aside0.mk H
    go_upto_region 4 with (first | ((with_reducible refine gate_dst (N := 4) rfl ?_); refine box_event ?hg (N := 4) ?hd (cs := #[.int .i64 0, .int .i64 0, .int .i64 0, .int .i64 0, .int .i64 0, .int .i64 0]) (t := 64) ?hr ?_; (case hd => rfl); (case hg => rfl); (case hr => first | (go_simp; done) | (go_simp; rfl)); intro gb6 hg W6 hbox hb; have G6 := Aside0.mk hg; have b0_ := Aside0.mk hb; have BK6 := Aside0.mk hbox; have c_BK6 := blk_cell hbox; have z_BK6 := blk_frozen hbox; clear hg hb hbox) | ((with_reducible refine gate_store (t := 64) (p := 4) rfl ?_); refine store_event (t := 64) (p := 4) (v := ?vo_s7) (w1 := ((((((W6.setCell ⟨gb6, 0, none⟩ (.int .i64 ((rd_T64 l0_5 x8_2).f0))).setCell ⟨gb6, 1, none⟩ (.int .i64 ((rd_T64 l0_5 x8_2).f1))).setCell ⟨gb6, 2, none⟩ (.int .i64 ((rd_T64 l0_5 x8_2).f2))).setCell ⟨gb6, 3, none⟩ (.int .i64 ((rd_T64 l0_5 x8_2).f3))).setCell ⟨gb6, 4, none⟩ (.int .i64 ((rd_T64 l0_5 x8_2).f4))).setCell ⟨gb6, 5, none⟩ (.int .i64 ((rd_T64 l0_5 x8_2).f5)))) ?hg ?ho ?hn ?hr ?_; (case ho => rfl); (case hg => rfl); (case hn => rfl); (case hr => first | (go_simp; done) | (go_simp; rfl)); intro W7 hw; have hb : Below wr.heap.size wr W7 := (by rw [hw]; exact bSet (bSet (bSet (bSet (bSet (bSet (b0_.out) (Nat.le_of_eq G6.out.symm)) (Nat.le_of_eq G6.out.symm)) (Nat.le_of_eq G6.out.symm)) (Nat.le_of_eq G6.out.symm)) (Nat.le_of_eq G6.out.symm)) (Nat.le_of_eq G6.out.symm)); clear b0_; have h_ := blk_set (blk_set (blk_set (blk_set (blk_set (blk_set (BK6.out) 0 (.int .i64 ((rd_T64 l0_5 x8_2).f0))) 1 (.int .i64 ((rd_T64 l0_5 x8_2).f1))) 2 (.int .i64 ((rd_T64 l0_5 x8_2).f2))) 3 (.int .i64 ((rd_T64 l0_5 x8_2).f3))) 4 (.int .i64 ((rd_T64 l0_5 x8_2).f4))) 5 (.int .i64 ((rd_T64 l0_5 x8_2).f5)); rw [← hw] at h_; simp only [List.setIfInBounds_toArray, List.set_cons_zero, List.set_cons_succ] at h_; clear BK6 c_BK6 z_BK6 hw; replace BK1 := bK BK1 hb; replace c_BK1 := blk_cell BK1.out; replace z_BK1 := blk_frozen BK1.out; replace HB := bH HB hb; clear hb; have BK6 := Aside0.mk h_; have c_BK6 := blk_cell h_; have z_BK6 := blk_frozen h_; clear h_ G6))
    try clear y734_0 y734_1 y734_2 y734_3 y734_4 y734_5
    clear c_BK1 z_BK1; have rBK1 := BK1; replace BK1 := dK BK1
    clear c_BK6 z_BK6; have rBK6 := BK6; replace BK6 := dK BK6
    have HBr := HB; replace HB := dH HB
    refine stA (n := 18) (S := fun w' => Below W7.heap.size W7 w') (by kernel_rfl) rfl (below_drew1 (Below.refl _ W7)) (by kernel_rfl) (fun hHeld => ?_)
    generalize W7.drew = W8 at HB BK1 BK6 hHeld ⊢
    refine pu 0 (some 13) 1 ?_; refine pu 2 (some 15) 5 ?_; refine pu 3 (some 16) 13 ?_; refine ld 1 (some 14) 15 hHeld ?_ (hr := by (intro w' h_; have y_ := kD rBK6 h_; go_simp; with_reducible rfl))
    replace H := H.out
    replace H := ifD H; rcases H with ⟨c9, H⟩ | ⟨c9, H⟩
    ·have c9_0 := decT c9; have c9_1 := eqT c9; have c9_2 := neT c9
     clear c9
     first | rw [c9_1] | rw [c9_2] | skip
     replace H := Option.bind_eq_some_iff.mp H
     obtain ⟨t736, hm, H⟩ := H
     try dsimp only at H
     replace hm := Aside0.mk hm
     replace H := Aside0.mk H
     refine pu 4 (some 17) 31 ?_; refine pu 5 (some 18) 63 ?_; refine ld 6 (some 19) 127 hHeld ?_ (hr := by (intro w' h_; have y_ := kD rBK6 h_; go_simp; with_reducible rfl))
     refine on 7 (some 20) 255 (fun K hK => ?_)
     have hcall := impl_IsCert.calls _ _ _ _ _ _ _ W8  hm.out
     refine goes_ Tryz.func38 (by kernel_rfl) rfl #[.agg #[.int .i64 ((rd_T64 l0_5 x8_2).f0), .int .i64 ((rd_T64 l0_5 x8_2).f1), .int .i64 ((rd_T64 l0_5 x8_2).f2), .int .i64 ((rd_T64 l0_5 x8_2).f3), .int .i64 ((rd_T64 l0_5 x8_2).f4), .int .i64 ((rd_T64 l0_5 x8_2).f5)]] (by rfl) rfl rfl (by (try simp only [List.map_toArray, List.map_cons, List.map_nil]); first | done | rfl) ?_
     refine hcall.mono ?_
     rintro e W11 ⟨rfl, hb⟩
     refine ⟨_, rfl, ?_⟩
     clear hcall hm
     replace hHeld := below_step hHeld hb
     replace BK1 := bK BK1 hb
     replace BK6 := bK BK6 hb
     replace HB := bH HB hb; clear hb
     refine hK.out _ _ hHeld (fun hHeld => ?_)
     clear hK K
     refine nr 20 ?_
     replace H := H.out
     replace H := ifD H; rcases H with ⟨c12, H⟩ | ⟨c12, H⟩
     ·subst c12
      replace H := Option.bind_eq_some_iff.mp H
      obtain ⟨⟨t737, t738, t739, t740, t741, t742⟩, hm, H⟩ := H
      try dsimp only at H
      replace hm := Aside0.mk hm
      replace H := Aside0.mk H
      refine pu 8 (some 21) 511 ?_; refine pu 9 (some 22) 1023 ?_; refine pu 10 (some 23) 2047 ?_; refine pu 11 (some 24) 4095 ?_; refine ld 12 (some 25) 8191 hHeld ?_ (hr := by (intro w' h_; have y_ := kD rBK1 h_; go_simp; with_reducible rfl)); refine ld 13 (some 26) 16383 hHeld ?_ (hr := by (intro w' h_; have y_ := kD rBK6 h_; go_simp; with_reducible rfl))
      refine ld 15 (some 28) 49151 hHeld ?_ (hr := by (intro w' h_; have y_ := kD rBK6 h_; go_simp; with_reducible rfl))
      refine on 14 (some 27) 65535 (fun K hK => ?_)
      have hcall := impl_MarkCert.calls k2 _ _ _ _ _ _ _ _ _ _ _ _ _ W11  hm.out
      refine goes_ Tryz.func39 (by kernel_rfl) rfl #[.int .i64 a0_4, .agg #[.int .i64 ((rd_T64 l0_5 x8_2).f0), .int .i64 ((rd_T64 l0_5 x8_2).f1), .int .i64 ((rd_T64 l0_5 x8_2).f2), .int .i64 ((rd_T64 l0_5 x8_2).f3), .int .i64 ((rd_T64 l0_5 x8_2).f4), .int .i64 ((rd_T64 l0_5 x8_2).f5)]] (by rfl) rfl rfl (by (try simp only [List.map_toArray, List.map_cons, List.map_nil]); first | done | rfl) ?_
      refine hcall.mono ?_
      rintro e W14 ⟨rfl, hb⟩
      refine ⟨_, rfl, ?_⟩
      clear hcall hm
      replace hHeld := below_step hHeld hb
      replace BK1 := bK BK1 hb
      replace BK6 := bK BK6 hb
      replace HB := bH HB hb; clear hb
      refine hK.out _ _ hHeld (fun hHeld => ?_)
      clear hK K
      refine nr 27 ?_
      refine pu 16 (some 29) 131071 ?_; refine pu 17 (some 30) 262143 ?_
      refine dn (by kernel_rfl) ?_
      clear hHeld HBr rBK1 rBK6
      have c_BK1 := blk_cell BK1.out; have z_BK1 := blk_frozen BK1.out
      have c_BK6 := blk_cell BK6.out; have z_BK6 := blk_frozen BK6.out
      replace H := H.out
      replace H := ifD H; rcases H with ⟨c15, H⟩ | ⟨c15, H⟩
      ·try rw [c15]
       obtain rfl := Option.some.inj H
       clear H
       go_wp2
       go_ret
       exact ⟨rfl, HB.out⟩
      ·replace c15 := (Bool.not_eq_true _).mp c15
       try rw [c15]
       replace H := Aside0.mk H
       go_wp2
       go_roundg k2
       case measure => have := Hk2.out; omega
       case rel => exact ⟨(wrap64 (x8_2 + 1)), (by first | rfl | (simp; done) | (simp [*]; done)), H, ⟨by have := Hk2.out; omega⟩, BK1, HB⟩
     ·replace c12 := (Bool.not_eq_true _).mp c12
      subst c12
      replace H := Aside0.mk H
      refine pu 8 (some 21) 511 ?_; refine pu 9 (some 22) 1023 ?_; refine pu 10 (some 23) 2047 ?_; refine sk 11 (some 24) 4095 ?_; refine sk 12 (some 25) 8191 ?_; refine sk 13 (some 26) 16383 ?_; refine sk 14 (some 27) 32767 ?_; refine sk 15 (some 28) 65535 ?_; refine sk 16 (some 29) 131071 ?_; refine pu 17 (some 30) 262143 ?_
      refine dn (by kernel_rfl) ?_
      clear hHeld HBr rBK1 rBK6
      have c_BK1 := blk_cell BK1.out; have z_BK1 := blk_frozen BK1.out
      have c_BK6 := blk_cell BK6.out; have z_BK6 := blk_frozen BK6.out
      replace H := H.out
      obtain rfl := Option.some.inj H
      clear H
      go_wp2
      go_ret
      exact ⟨rfl, HB.out⟩
    ·have c9_0 := decF c9; have c9_1 := eqF c9; have c9_2 := neF c9
     clear c9
     first | rw [c9_1] | rw [c9_2] | skip
     replace H := Aside0.mk H
     refine pu 4 (some 17) 31 ?_; refine pu 5 (some 18) 63 ?_; refine sk 6 (some 19) 127 ?_; refine sk 7 (some 20) 255 ?_; refine sk 8 (some 21) 511 ?_; refine pu 9 (some 22) 1023 ?_; refine pu 10 (some 23) 2047 ?_; refine sk 11 (some 24) 4095 ?_; refine sk 12 (some 25) 8191 ?_; refine sk 13 (some 26) 16383 ?_; refine sk 14 (some 27) 32767 ?_; refine sk 15 (some 28) 65535 ?_; refine sk 16 (some 29) 131071 ?_; refine pu 17 (some 30) 262143 ?_
     refine dn (by kernel_rfl) ?_
     clear hHeld HBr rBK1 rBK6
     have c_BK1 := blk_cell BK1.out; have z_BK1 := blk_frozen BK1.out
     have c_BK6 := blk_cell BK6.out; have z_BK6 := blk_frozen BK6.out
     replace H := H.out
     obtain rfl := Option.some.inj H
     clear H
     go_wp2
     go_ret
     exact ⟨rfl, HB.out⟩
   ·have c3_0 := decF c3
    replace c3 := Aside0.mk c3
    first | rw [c3_0] | skip
    replace H := Option.bind_eq_some_iff.mp H
    obtain ⟨t743, hm, H⟩ := H
    try dsimp only at H
    replace H := Aside0.mk H
    have hcall := impl_AreIssuers.calls k2 _ _ _ _ wr (Kd.C_below HR0_0.out HB.out) HC0_0.out hm
    clear hm
    go_wp2_with fail
    refine hcall.mono ?_
    rintro e W16 ⟨rfl, hb⟩
    clear hcall
    replace BK1 := bK BK1 hb; replace c_BK1 := blk_cell BK1.out; replace z_BK1 := blk_frozen BK1.out
    replace HB := bH HB hb; clear hb
    replace H := H.out
    replace H := ifD H; rcases H with ⟨c17, H⟩ | ⟨c17, H⟩
    ·subst c17
     replace H := Option.bind_eq_some_iff.mp H
     obtain ⟨t744, hm, H⟩ := H
     try dsimp only at H
     replace H := Aside0.mk H
     have hcall := impl_AreEpochs.calls k2 _ _ _ _ W16 (Kd.C_below HR0_1.out HB.out) HC0_1.out hm
     clear hm
     go_wp2_with fail
     refine hcall.mono ?_
     rintro e W18 ⟨rfl, hb⟩
     clear hcall
     replace BK1 := bK BK1 hb; replace c_BK1 := blk_cell BK1.out; replace z_BK1 := blk_frozen BK1.out
     replace HB := bH HB hb; clear hb
     replace H := H.out
     replace H := ifD H; rcases H with ⟨c19, H⟩ | ⟨c19, H⟩
     ·subst c19
      replace H := Option.bind_eq_some_iff.mp H
      obtain ⟨t745, hm, H⟩ := H
      try dsimp only at H
      replace H := Aside0.mk H
      have hcall := impl_IsStore.calls k2 _ _ _ _ W18 (Kd.C_below HR0_2.out HB.out) HC0_2.out hm
      clear hm
      go_wp2_with fail
      refine hcall.mono ?_
      rintro e W20 ⟨rfl, hb⟩
      clear hcall
      replace BK1 := bK BK1 hb; replace c_BK1 := blk_cell BK1.out; replace z_BK1 := blk_frozen BK1.out
      replace HB := bH HB hb; clear hb
      replace H := H.out
      replace H := ifD H; rcases H with ⟨c21, H⟩ | ⟨c21, H⟩
      ·subst c21
       replace H := Option.bind_eq_some_iff.mp H
       obtain ⟨t746, hm, H⟩ := H
       try dsimp only at H
       replace H := Aside0.mk H
       have hcall := impl_AreRevoked.calls k2 _ _ _ _ W20 (Kd.C_below HR0_3.out HB.out) HC0_3.out hm
       clear hm
       go_wp2_with fail
       refine hcall.mono ?_
       rintro e W22 ⟨rfl, hb⟩
       clear hcall
       replace BK1 := bK BK1 hb; replace c_BK1 := blk_cell BK1.out; replace z_BK1 := blk_frozen BK1.out
       replace HB := bH HB hb; clear hb
       replace H := H.out
       replace H := ifD H; rcases H with ⟨c23, H⟩ | ⟨c23, H⟩
       ·subst c23
        replace H := Option.bind_eq_some_iff.mp H
        obtain ⟨t747, hm, H⟩ := H
        try dsimp only at H
        replace H := Aside0.mk H
        have hcall := impl_IsValidKey.calls _ _ W22  hm
        clear hm
        go_wp2_with fail
        refine hcall.mono ?_
        rintro e W24 ⟨rfl, hb⟩
        clear hcall
        replace BK1 := bK BK1 hb; replace c_BK1 := blk_cell BK1.out; replace z_BK1 := blk_frozen BK1.out
        replace HB := bH HB hb; clear hb
        replace H := H.out
        replace H := ifD H; rcases H with ⟨c25, H⟩ | ⟨c25, H⟩
        ·subst c25
         obtain rfl := Option.some.inj H
         clear H
         go_wp2
         go_ret
         exact ⟨rfl, HB.out⟩
        ·replace c25 := (Bool.not_eq_true _).mp c25
         subst c25
         obtain rfl := Option.some.inj H
         clear H
         go_wp2
         go_ret
         exact ⟨rfl, HB.out⟩
       ·replace c23 := (Bool.not_eq_true _).mp c23
        subst c23
        obtain rfl := Option.some.inj H
        clear H
        go_wp2
        go_ret
        exact ⟨rfl, HB.out⟩
      ·replace c21 := (Bool.not_eq_true _).mp c21
       subst c21
       obtain rfl := Option.some.inj H
       clear H
       go_wp2
       go_ret
       exact ⟨rfl, HB.out⟩
     ·replace c19 := (Bool.not_eq_true _).mp c19
      subst c19
      obtain rfl := Option.some.inj H
      clear H
      go_wp2
      go_ret
      exact ⟨rfl, HB.out⟩
    ·replace c17 := (Bool.not_eq_true _).mp c17
     subst c17
     obtain rfl := Option.some.inj H
     clear H
     go_wp2
     go_ret
     exact ⟨rfl, HB.out⟩

/-! ### laws_eqIntS: function 139 -/
def laws_eqIntS.l0 : Nat → List Int → List Int → Int → Option (Bool)
 | 0, _, _, _ => none
 | k + 1, x0, x1, x5 => if x5 < (x0.length : Int) then (if 0 ≤ x5 then (if x5 < (x1.length : Int) then (if (rd x0 x5) = (rd x1 x5) then (laws_eqIntS.l0 k x0 x1 (wrap64 (x5 + 1))) else (some false)) else (none)) else (none)) else (some true)
def laws_eqIntS.f (k : Nat) (l0 : List Int) (l1 : List Int) : Option (Bool) := if (l0.length : Int) = (l1.length : Int) then (laws_eqIntS.l0 k l0 l1 0) else (some false)
open Go.Proofs.YtineejdlpcgnkaaGreatM in
set_option maxHeartbeats 8000000 in
set_option maxRecDepth 100000 in
theorem laws_eqIntS.calls (k : Nat) (A0 : Option Addr) (c0 : Nat) (l0 : List Int) (A1 : Option Addr) (c1 : Nat) (l1 : List Int) (r : Bool) (w : World) (hr0 : Kd.C (Kd.int .i64) w A0 l0.length l0) (hc0 : l0.length ≤ c0) (hr1 : Kd.C (Kd.int .i64) w A1 l1.length l1) (hc1 : l1.length ≤ c1) (h : laws_eqIntS.f k l0 l1 = some r) :
  Calls Tryz.prog 139 #[.slice A0 l0.length c0, .slice A1 l1.length c1] w fun e w' => e = .returned (.bool r) ∧ Below w.heap.size w w' := by
 have HR0 := Aside0.mk hr0
 have HC0 := Aside0.mk hc0
 clear hr0 hc0
 have HR1 := Aside0.mk hr1
 have HC1 := Aside0.mk hc1
 clear hr1 hc1
 have HB := Aside0.mk (Below.refl w.heap.size w)
 have H := h
 clear h
 unfold laws_eqIntS.f at H
 go_enter Tryz.func139, Tryz.ntmps139
 replace H := ifD H; rcases H with ⟨c1, H⟩ | ⟨c1, H⟩
 ·have c1_x0 : (l0.length == l1.length) = true := by first | simpa using c1 | (simp at c1 ⊢; omega)
  have c1_0 := decT c1; have c1_1 := eqT c1; have c1_2 := neT c1
  clear c1
  first | rw [c1_1] | rw [c1_2] | skip
  replace H := Aside0.mk H
  go_wp2
  go_loopg [5] k (fun kq v5 w' => ∃ (x5_2 : Int), v5 = .int .i64 x5_2 ∧ Aside0 (laws_eqIntS.l0 kq l0 l1 x5_2 = some r) ∧ Aside0 (kq ≤ k) ∧ Aside0 (Below w.heap.size w w'))
  case atStart => exact ⟨(0), (by first | rfl | (simp; done) | (simp [*]; done)), H, ⟨Nat.le_refl _⟩, HB⟩
  case round =>
   clear H HB 
   try clear c1_x0 c1_0 c1_1 c1_2
   obtain ⟨x5_2, rfl, HA, Hk2, HB⟩ := hrel
   cases gk with
   | zero => exact absurd HA.out (by simp [laws_eqIntS.l0])
   | succ k2 =>
    have H := HA.out
    clear HA
    simp only [laws_eqIntS.l0] at H
    replace H := ifD H; rcases H with ⟨c3, H⟩ | ⟨c3, H⟩
    ·have c3_0 := decT c3
     replace c3 := Aside0.mk c3
     first | rw [c3_0] | skip
     replace H := ifN H; obtain ⟨c4, H⟩ := H
     have c4_0 := decT c4
     replace c4 := Aside0.mk c4
     have p748 : 0 ≤ (x5_2 : Int) := (of_decide_eq_true (by assumption))
     have q748 : x5_2 < (l0.length : Int) := (of_decide_eq_true (by assumption))
     obtain ⟨ad748, e748, hx748_0⟩ := Kd.at_int HR0.out x5_2 p748 q748
     cases e748
     replace hx748_0 := Aside0.mk hx748_0
     have y748_0 := xC HB hx748_0
     have r748 := eq_true p748; have s748 := eq_true q748
     replace p748 := Aside0.mk p748; replace q748 := Aside0.mk q748
     replace H := ifN H; obtain ⟨c5, H⟩ := H
     have c5_0 := decT c5
     replace c5 := Aside0.mk c5
     have p749 : 0 ≤ (x5_2 : Int) := (of_decide_eq_true (by assumption))
     have q749 : x5_2 < (l1.length : Int) := (of_decide_eq_true (by assumption))
     obtain ⟨ad749, e749, hx749_0⟩ := Kd.at_int HR1.out x5_2 p749 q749
     cases e749
     replace hx749_0 := Aside0.mk hx749_0
     have y749_0 := xC HB hx749_0
     have r749 := eq_true p749; have s749 := eq_true q749
     replace p749 := Aside0.mk p749; replace q749 := Aside0.mk q749
     replace H := Aside0.mk H
     try go_wp2
     go_quiet (fail)
     try clear y748_0 y749_0
     replace HB := qH HB nq
     generalize wr.drewN nq = W6 at HB ⊢
     clear nq
     replace H := H.out
     replace H := ifD H; rcases H with ⟨c7, H⟩ | ⟨c7, H⟩
     ·have c7_0 := decT c7; have c7_1 := eqT c7; have c7_2 := neT c7
      clear c7
      first | rw [c7_1] | rw [c7_2] | skip
      replace H := Aside0.mk H
      go_wp2
      go_roundg k2
      case measure => have := Hk2.out; omega
      case rel => exact ⟨(wrap64 (x5_2 + 1)), (by first | rfl | (simp; done) | (simp [*]; done)), H, ⟨by have := Hk2.out; omega⟩, HB⟩
     ·have c7_0 := decF c7; have c7_1 := eqF c7; have c7_2 := neF c7
      clear c7
      first | rw [c7_1] | rw [c7_2] | skip
      obtain rfl := Option.some.inj H
      clear H
      go_wp2
      go_ret
      exact ⟨rfl, HB.out⟩
    ·have c3_0 := decF c3
     replace c3 := Aside0.mk c3
     first | rw [c3_0] | skip
     obtain rfl := Option.some.inj H
     clear H
     go_wp2
     go_ret
     exact ⟨rfl, HB.out⟩
 ·have c1_x0 : (l0.length == l1.length) = false := by first | simpa using c1 | (simp at c1 ⊢; omega)
  have c1_0 := decF c1; have c1_1 := eqF c1; have c1_2 := neF c1
  clear c1
  first | rw [c1_1] | rw [c1_2] | skip
  obtain rfl := Option.some.inj H
  clear H
  go_wp2
  go_ret
  exact ⟨rfl, HB.out⟩

/-! ### laws_eqIssuer: function 93 -/
def laws_eqIssuer.f (k : Nat) (a0_0 : Int) (l0_1 : List Int) (a0_2 : Int) (a1_0 : Int) (l1_1 : List Int) (a1_2 : Int) : Option (Bool) := if a0_0 = a1_0 then ((laws_eqIntS.f k l0_1 l1_1).bind fun t752 => (if t752 = true then (if a0_2 = a1_2 then (some true) else (some false)) else (some false))) else (some false)
open Go.Proofs.YtineejdlpcgnkaaGreatM in
set_option maxHeartbeats 8000000 in
set_option maxRecDepth 100000 in
theorem laws_eqIssuer.calls (k : Nat) (a0_0 : Int) (A0_1 : Option Addr) (c0_1 : Nat) (l0_1 : List Int) (a0_2 : Int) (a1_0 : Int) (A1_1 : Option Addr) (c1_1 : Nat) (l1_1 : List Int) (a1_2 : Int) (r : Bool) (w : World) (hr0_1 : Kd.C (Kd.int .i64) w A0_1 l0_1.length l0_1) (hc0_1 : l0_1.length ≤ c0_1) (hr1_1 : Kd.C (Kd.int .i64) w A1_1 l1_1.length l1_1) (hc1_1 : l1_1.length ≤ c1_1) (h : laws_eqIssuer.f k a0_0 l0_1 a0_2 a1_0 l1_1 a1_2 = some r) :
  Calls Tryz.prog 93 #[.agg #[.int .i64 a0_0, .slice A0_1 l0_1.length c0_1, .int .i64 a0_2], .agg #[.int .i64 a1_0, .slice A1_1 l1_1.length c1_1, .int .i64 a1_2]] w fun e w' => e = .returned (.bool r) ∧ Below w.heap.size w w' := by
 have HR0_1 := Aside0.mk hr0_1
 have HC0_1 := Aside0.mk hc0_1
 clear hr0_1 hc0_1
 have HR1_1 := Aside0.mk hr1_1
 have HC1_1 := Aside0.mk hc1_1
 clear hr1_1 hc1_1
 have HB := Aside0.mk (Below.refl w.heap.size w)
 have H := h
 clear h
 unfold laws_eqIssuer.f at H
 have hu110 := Tryz.underlying110
 go_enter Tryz.func93, Tryz.ntmps93
 replace H := Aside0.mk H
 go_upto_region 1 with (first | ((with_reducible refine gate_dst (N := 2) rfl ?_); refine box_event ?hg (N := 2) ?hd (cs := #[.int .i64 a0_0, .slice A0_1 l0_1.length c0_1, .int .i64 a0_2]) (t := 110) ?hr ?_; (case hd => rfl); (case hg => rfl); (case hr => first | (go_simp; done) | (go_simp; rfl)); intro gb1 hg W1 hbox hb; replace HB := bH HB hb; clear hb; have BK1 := Aside0.mk hbox; have c_BK1 := blk_cell hbox; have z_BK1 := blk_frozen hbox; clear hg hbox) | ((with_reducible refine gate_dst (N := 3) rfl ?_); refine box_event ?hg (N := 3) ?hd (cs := #[.int .i64 a1_0, .slice A1_1 l1_1.length c1_1, .int .i64 a1_2]) (t := 110) ?hr ?_; (case hd => rfl); (case hg => rfl); (case hr => first | (go_simp; done) | (go_simp; rfl)); intro gb2 hg W2 hbox hb; replace BK1 := bK BK1 hb; replace c_BK1 := blk_cell BK1.out; replace z_BK1 := blk_frozen BK1.out; replace HB := bH HB hb; clear hb; have BK2 := Aside0.mk hbox; have c_BK2 := blk_cell hbox; have z_BK2 := blk_frozen hbox; clear hg hbox))
 replace H := H.out
 replace H := ifD H; rcases H with ⟨c3, H⟩ | ⟨c3, H⟩
 ·have c3_0 := decT c3; have c3_1 := eqT c3; have c3_2 := neT c3
  clear c3
  first | rw [c3_1] | rw [c3_2] | skip
  replace H := Option.bind_eq_some_iff.mp H
  obtain ⟨t752, hm, H⟩ := H
  try dsimp only at H
  replace H := Aside0.mk H
  have hcall := laws_eqIntS.calls k _ _ _ _ _ _ _ W2 (Kd.C_below HR0_1.out HB.out) HC0_1.out (Kd.C_below HR1_1.out HB.out) HC1_1.out hm
  clear hm
  go_wp2_with fail
  refine hcall.mono ?_
  rintro e W4 ⟨rfl, hb⟩
  clear hcall
  replace BK1 := bK BK1 hb; replace c_BK1 := blk_cell BK1.out; replace z_BK1 := blk_frozen BK1.out
  replace BK2 := bK BK2 hb; replace c_BK2 := blk_cell BK2.out; replace z_BK2 := blk_frozen BK2.out
  replace HB := bH HB hb; clear hb
  replace H := H.out
  replace H := ifD H; rcases H with ⟨c5, H⟩ | ⟨c5, H⟩
  ·subst c5
   replace H := ifD H; rcases H with ⟨c6, H⟩ | ⟨c6, H⟩
   ·have c6_0 := decT c6; have c6_1 := eqT c6; have c6_2 := neT c6
    clear c6
    first | rw [c6_1] | rw [c6_2] | skip
    obtain rfl := Option.some.inj H
    clear H
    go_wp2
    go_ret
    exact ⟨rfl, HB.out⟩
   ·have c6_0 := decF c6; have c6_1 := eqF c6; have c6_2 := neF c6
    clear c6
    first | rw [c6_1] | rw [c6_2] | skip
    obtain rfl := Option.some.inj H
    clear H
    go_wp2
    go_ret
    exact ⟨rfl, HB.out⟩
  ·replace c5 := (Bool.not_eq_true _).mp c5
   subst c5
   obtain rfl := Option.some.inj H
   clear H
   go_wp2
   go_ret
   exact ⟨rfl, HB.out⟩
 ·have c3_0 := decF c3; have c3_1 := eqF c3; have c3_2 := neF c3
  clear c3
  first | rw [c3_1] | rw [c3_2] | skip
  obtain rfl := Option.some.inj H
  clear H
  go_wp2
  go_ret
  exact ⟨rfl, HB.out⟩

/-! ### laws_eqIssuerS: function 45 -/
def laws_eqIssuerS.l0 : Nat → List (S110) → List (S110) → Int → Option (Bool)
 | 0, _, _, _ => none
 | k + 1, x0, x1, x5 => if x5 < (x0.length : Int) then (if 0 ≤ x5 then (if x5 < (x1.length : Int) then ((laws_eqIssuer.f k ((rd_T110 x0 x5).f0) ((rd_T110 x0 x5).f1) ((rd_T110 x0 x5).f2) ((rd_T110 x1 x5).f0) ((rd_T110 x1 x5).f1) ((rd_T110 x1 x5).f2)).bind fun t755 => (if t755 = true then (laws_eqIssuerS.l0 k x0 x1 (wrap64 (x5 + 1))) else (some false))) else (none)) else (none)) else (some true)
def laws_eqIssuerS.f (k : Nat) (l0 : List (S110)) (l1 : List (S110)) : Option (Bool) := if (l0.length : Int) = (l1.length : Int) then (laws_eqIssuerS.l0 k l0 l1 0) else (some false)
open Go.Proofs.YtineejdlpcgnkaaGreatM in
set_option maxHeartbeats 8000000 in
set_option maxRecDepth 100000 in
theorem laws_eqIssuerS.calls (k : Nat) (A0 : Option Addr) (c0 : Nat) (l0 : List (S110)) (A1 : Option Addr) (c1 : Nat) (l1 : List (S110)) (r : Bool) (w : World) (hr0 : Kd.C k110 w A0 l0.length l0) (hc0 : l0.length ≤ c0) (hr1 : Kd.C k110 w A1 l1.length l1) (hc1 : l1.length ≤ c1) (h : laws_eqIssuerS.f k l0 l1 = some r) :
  Calls Tryz.prog 45 #[.slice A0 l0.length c0, .slice A1 l1.length c1] w fun e w' => e = .returned (.bool r) ∧ Below w.heap.size w w' := by
 have HR0 := Aside0.mk hr0
 have HC0 := Aside0.mk hc0
 clear hr0 hc0
 have HR1 := Aside0.mk hr1
 have HC1 := Aside0.mk hc1
 clear hr1 hc1
 have HB := Aside0.mk (Below.refl w.heap.size w)
 have H := h
 clear h
 unfold laws_eqIssuerS.f at H
 have hu110 := Tryz.underlying110
 go_enter Tryz.func45, Tryz.ntmps45
 replace H := ifD H; rcases H with ⟨c1, H⟩ | ⟨c1, H⟩
 ·have c1_x0 : (l0.length == l1.length) = true := by first | simpa using c1 | (simp at c1 ⊢; omega)
  have c1_0 := decT c1; have c1_1 := eqT c1; have c1_2 := neT c1
  clear c1
  first | rw [c1_1] | rw [c1_2] | skip
  replace H := Aside0.mk H
  go_wp2
  go_loopg [5] k (fun kq v5 w' => ∃ (x5_2 : Int), v5 = .int .i64 x5_2 ∧ Aside0 (laws_eqIssuerS.l0 kq l0 l1 x5_2 = some r) ∧ Aside0 (kq ≤ k) ∧ Aside0 (Below w.heap.size w w'))
  case atStart => exact ⟨(0), (by first | rfl | (simp; done) | (simp [*]; done)), H, ⟨Nat.le_refl _⟩, HB⟩
  case round =>
   clear H HB 
   try clear c1_x0 c1_0 c1_1 c1_2
   obtain ⟨x5_2, rfl, HA, Hk2, HB⟩ := hrel
   cases gk with
   | zero => exact absurd HA.out (by simp [laws_eqIssuerS.l0])
   | succ k2 =>
    have H := HA.out
    clear HA
    simp only [laws_eqIssuerS.l0] at H
    replace H := ifD H; rcases H with ⟨c3, H⟩ | ⟨c3, H⟩
    ·have c3_0 := decT c3
     replace c3 := Aside0.mk c3
     first | rw [c3_0] | skip
     replace H := Aside0.mk H
     try go_wp2
     have HBr := HB; replace HB := dH HB
     refine stA (n := 10) (S := fun w' => Below wr.heap.size wr w') (by kernel_rfl) rfl (below_drew1 (Below.refl _ wr)) (by kernel_rfl) (fun hHeld => ?_)
     generalize wr.drew = W4 at HB hHeld ⊢
     refine pu 0 (some 17) 1 ?_; refine pu 1 (some 18) 3 ?_
     replace H := H.out
     replace H := ifN H; obtain ⟨c5, H⟩ := H
     have c5_0 := decT c5
     replace c5 := Aside0.mk c5
     first | rw [c5_0] | skip
     have p753 : 0 ≤ (x5_2 : Int) := (of_decide_eq_true (by assumption))
     have q753 : x5_2 < (l0.length : Int) := (of_decide_eq_true (by assumption))
     obtain ⟨ad753, A753_1, c753_1, e753, hx753_0, hx753_1, hx753_2, hl753_1, hi753_1⟩ := at_T110 HR0.out x5_2 p753 q753
     cases e753
     have HR753_1 := Aside0.mk hi753_1; have HC753_1 := Aside0.mk hl753_1; clear hi753_1 hl753_1
     replace hx753_0 := Aside0.mk hx753_0
     replace hx753_1 := Aside0.mk hx753_1
     replace hx753_2 := Aside0.mk hx753_2
     have r753 := eq_true p753; have s753 := eq_true q753
     replace p753 := Aside0.mk p753; replace q753 := Aside0.mk q753
     replace H := Aside0.mk H
     refine pu 2 (some 19) 7 ?_; refine pu 4 (some 21) 23 ?_; refine pu 5 (some 22) 55 ?_; refine ld 3 (some 20) 63 hHeld ?_ (hr := by (intro w' h_; have y0_ := xD HBr h_ hx753_0; have y1_ := xD HBr h_ hx753_1; have y2_ := xD HBr h_ hx753_2; go_simp; with_reducible rfl))
     replace H := H.out
     replace H := ifN H; obtain ⟨c6, H⟩ := H
     have c6_0 := decT c6
     replace c6 := Aside0.mk c6
     first | rw [c6_0] | skip
     have p754 : 0 ≤ (x5_2 : Int) := (of_decide_eq_true (by assumption))
     have q754 : x5_2 < (l1.length : Int) := (of_decide_eq_true (by assumption))
     obtain ⟨ad754, A754_1, c754_1, e754, hx754_0, hx754_1, hx754_2, hl754_1, hi754_1⟩ := at_T110 HR1.out x5_2 p754 q754
     cases e754
     have HR754_1 := Aside0.mk hi754_1; have HC754_1 := Aside0.mk hl754_1; clear hi754_1 hl754_1
     replace hx754_0 := Aside0.mk hx754_0
     replace hx754_1 := Aside0.mk hx754_1
     replace hx754_2 := Aside0.mk hx754_2
     have r754 := eq_true p754; have s754 := eq_true q754
     replace p754 := Aside0.mk p754; replace q754 := Aside0.mk q754
     replace H := Option.bind_eq_some_iff.mp H
     obtain ⟨t755, hm, H⟩ := H
     try dsimp only at H
     replace hm := Aside0.mk hm
     replace H := Aside0.mk H
     refine pu 6 (some 23) 127 ?_; refine ld 7 (some 24) 255 hHeld ?_ (hr := by (intro w' h_; have y0_ := xD HBr h_ hx754_0; have y1_ := xD HBr h_ hx754_1; have y2_ := xD HBr h_ hx754_2; go_simp; with_reducible rfl))
     refine on 8 (some 25) 511 (fun K hK => ?_)
     have hcall := laws_eqIssuer.calls k2 _ _ _ _ _ _ _ _ _ _ _ W4 (Kd.C_below HR753_1.out HB.out) HC753_1.out (Kd.C_below HR754_1.out HB.out) HC754_1.out hm.out
     refine goes_ Tryz.func93 (by kernel_rfl) rfl #[.agg #[.int .i64 ((rd_T110 l0 x5_2).f0), .slice A753_1 ((rd_T110 l0 x5_2).f1).length c753_1, .int .i64 ((rd_T110 l0 x5_2).f2)], .agg #[.int .i64 ((rd_T110 l1 x5_2).f0), .slice A754_1 ((rd_T110 l1 x5_2).f1).length c754_1, .int .i64 ((rd_T110 l1 x5_2).f2)]] (by rfl) rfl rfl (by (try simp only [List.map_toArray, List.map_cons, List.map_nil]); first | done | rfl) ?_
     refine hcall.mono ?_
     rintro e W8 ⟨rfl, hb⟩
     refine ⟨_, rfl, ?_⟩
     clear hcall hm
     replace hHeld := below_step hHeld hb
     replace HB := bH HB hb; clear hb
     refine hK.out _ _ hHeld (fun hHeld => ?_)
     clear hK K
     refine nr 25 ?_
     refine pu 9 (some 26) 1023 ?_
     refine dn (by kernel_rfl) ?_
     clear hHeld HBr
     replace H := H.out
     replace H := ifD H; rcases H with ⟨c9, H⟩ | ⟨c9, H⟩
     ·subst c9
      replace H := Aside0.mk H
      go_wp2
      go_roundg k2
      case measure => have := Hk2.out; omega
      case rel => exact ⟨(wrap64 (x5_2 + 1)), (by first | rfl | (simp; done) | (simp [*]; done)), H, ⟨by have := Hk2.out; omega⟩, HB⟩
     ·replace c9 := (Bool.not_eq_true _).mp c9
      subst c9
      obtain rfl := Option.some.inj H
      clear H
      go_wp2
      go_ret
      exact ⟨rfl, HB.out⟩
    ·have c3_0 := decF c3
     replace c3 := Aside0.mk c3
     first | rw [c3_0] | skip
     obtain rfl := Option.some.inj H
     clear H
     go_wp2
     go_ret
     exact ⟨rfl, HB.out⟩
 ·have c1_x0 : (l0.length == l1.length) = false := by first | simpa using c1 | (simp at c1 ⊢; omega)
  have c1_0 := decF c1; have c1_1 := eqF c1; have c1_2 := neF c1
  clear c1
  first | rw [c1_1] | rw [c1_2] | skip
  obtain rfl := Option.some.inj H
  clear H
  go_wp2
  go_ret
  exact ⟨rfl, HB.out⟩

/-! ### laws_eqIncludes: function 170 -/
def laws_eqIncludes.f (a0_0 : Int) (a0_1 : Int) (a1_0 : Int) (a1_1 : Int) : Option (Bool) := if a0_0 = a1_0 then (if a0_1 = a1_1 then (some true) else (some false)) else (some false)
open Go.Proofs.YtineejdlpcgnkaaGreatM in
set_option maxHeartbeats 8000000 in
set_option maxRecDepth 100000 in
theorem laws_eqIncludes.calls (a0_0 : Int) (a0_1 : Int) (a1_0 : Int) (a1_1 : Int) (r : Bool) (w : World) (h : laws_eqIncludes.f a0_0 a0_1 a1_0 a1_1 = some r) :
  Calls Tryz.prog 170 #[.agg #[.int .i64 a0_0, .int .i64 a0_1], .agg #[.int .i64 a1_0, .int .i64 a1_1]] w fun e w' => e = .returned (.bool r) ∧ Below w.heap.size w w' := by
 have HB := Aside0.mk (Below.refl w.heap.size w)
 have H := h
 clear h
 unfold laws_eqIncludes.f at H
 have hu161 := Tryz.underlying161
 go_enter Tryz.func170, Tryz.ntmps170
 replace H := Aside0.mk H
 go_upto_region 1 with (first | ((with_reducible refine gate_dst (N := 2) rfl ?_); refine box_event ?hg (N := 2) ?hd (cs := #[.int .i64 a0_0, .int .i64 a0_1]) (t := 161) ?hr ?_; (case hd => rfl); (case hg => rfl); (case hr => first | (go_simp; done) | (go_simp; rfl)); intro gb1 hg W1 hbox hb; replace HB := bH HB hb; clear hb; have BK1 := Aside0.mk hbox; have c_BK1 := blk_cell hbox; have z_BK1 := blk_frozen hbox; clear hg hbox) | ((with_reducible refine gate_dst (N := 3) rfl ?_); refine box_event ?hg (N := 3) ?hd (cs := #[.int .i64 a1_0, .int .i64 a1_1]) (t := 161) ?hr ?_; (case hd => rfl); (case hg => rfl); (case hr => first | (go_simp; done) | (go_simp; rfl)); intro gb2 hg W2 hbox hb; replace BK1 := bK BK1 hb; replace c_BK1 := blk_cell BK1.out; replace z_BK1 := blk_frozen BK1.out; replace HB := bH HB hb; clear hb; have BK2 := Aside0.mk hbox; have c_BK2 := blk_cell hbox; have z_BK2 := blk_frozen hbox; clear hg hbox))
 replace H := H.out
 replace H := ifD H; rcases H with ⟨c3, H⟩ | ⟨c3, H⟩
 ·have c3_0 := decT c3; have c3_1 := eqT c3; have c3_2 := neT c3
  clear c3
  first | rw [c3_1] | rw [c3_2] | skip
  replace H := ifD H; rcases H with ⟨c4, H⟩ | ⟨c4, H⟩
  ·have c4_0 := decT c4; have c4_1 := eqT c4; have c4_2 := neT c4
   clear c4
   first | rw [c4_1] | rw [c4_2] | skip
   obtain rfl := Option.some.inj H
   clear H
   go_wp2
   go_ret
   exact ⟨rfl, HB.out⟩
  ·have c4_0 := decF c4; have c4_1 := eqF c4; have c4_2 := neF c4
   clear c4
   first | rw [c4_1] | rw [c4_2] | skip
   obtain rfl := Option.some.inj H
   clear H
   go_wp2
   go_ret
   exact ⟨rfl, HB.out⟩
 ·have c3_0 := decF c3; have c3_1 := eqF c3; have c3_2 := neF c3
  clear c3
  first | rw [c3_1] | rw [c3_2] | skip
  obtain rfl := Option.some.inj H
  clear H
  go_wp2
  go_ret
  exact ⟨rfl, HB.out⟩

/-! ### laws_eqIncludesS: function 140 -/
def laws_eqIncludesS.l0 : Nat → List (S161) → List (S161) → Int → Option (Bool)
 | 0, _, _, _ => none
 | k + 1, x0, x1, x5 => if x5 < (x0.length : Int) then (if 0 ≤ x5 then (if x5 < (x1.length : Int) then ((laws_eqIncludes.f ((rd_T161 x0 x5).f0) ((rd_T161 x0 x5).f1) ((rd_T161 x1 x5).f0) ((rd_T161 x1 x5).f1)).bind fun t760 => (if t760 = true then (laws_eqIncludesS.l0 k x0 x1 (wrap64 (x5 + 1))) else (some false))) else (none)) else (none)) else (some true)
def laws_eqIncludesS.f (k : Nat) (l0 : List (S161)) (l1 : List (S161)) : Option (Bool) := if (l0.length : Int) = (l1.length : Int) then (laws_eqIncludesS.l0 k l0 l1 0) else (some false)
open Go.Proofs.YtineejdlpcgnkaaGreatM in
set_option maxHeartbeats 8000000 in
set_option maxRecDepth 100000 in
theorem laws_eqIncludesS.calls (k : Nat) (A0 : Option Addr) (c0 : Nat) (l0 : List (S161)) (A1 : Option Addr) (c1 : Nat) (l1 : List (S161)) (r : Bool) (w : World) (hr0 : Kd.C k161 w A0 l0.length l0) (hc0 : l0.length ≤ c0) (hr1 : Kd.C k161 w A1 l1.length l1) (hc1 : l1.length ≤ c1) (h : laws_eqIncludesS.f k l0 l1 = some r) :
  Calls Tryz.prog 140 #[.slice A0 l0.length c0, .slice A1 l1.length c1] w fun e w' => e = .returned (.bool r) ∧ Below w.heap.size w w' := by
 have HR0 := Aside0.mk hr0
 have HC0 := Aside0.mk hc0
 clear hr0 hc0
 have HR1 := Aside0.mk hr1
 have HC1 := Aside0.mk hc1
 clear hr1 hc1
 have HB := Aside0.mk (Below.refl w.heap.size w)
 have H := h
 clear h
 unfold laws_eqIncludesS.f at H
 have hu161 := Tryz.underlying161
 go_enter Tryz.func140, Tryz.ntmps140
 replace H := ifD H; rcases H with ⟨c1, H⟩ | ⟨c1, H⟩
 ·have c1_x0 : (l0.length == l1.length) = true := by first | simpa using c1 | (simp at c1 ⊢; omega)
  have c1_0 := decT c1; have c1_1 := eqT c1; have c1_2 := neT c1
  clear c1
  first | rw [c1_1] | rw [c1_2] | skip
  replace H := Aside0.mk H
  go_wp2
  go_loopg [5] k (fun kq v5 w' => ∃ (x5_2 : Int), v5 = .int .i64 x5_2 ∧ Aside0 (laws_eqIncludesS.l0 kq l0 l1 x5_2 = some r) ∧ Aside0 (kq ≤ k) ∧ Aside0 (Below w.heap.size w w'))
  case atStart => exact ⟨(0), (by first | rfl | (simp; done) | (simp [*]; done)), H, ⟨Nat.le_refl _⟩, HB⟩
  case round =>
   clear H HB 
   try clear c1_x0 c1_0 c1_1 c1_2
   obtain ⟨x5_2, rfl, HA, Hk2, HB⟩ := hrel
   cases gk with
   | zero => exact absurd HA.out (by simp [laws_eqIncludesS.l0])
   | succ k2 =>
    have H := HA.out
    clear HA
    simp only [laws_eqIncludesS.l0] at H
    replace H := ifD H; rcases H with ⟨c3, H⟩ | ⟨c3, H⟩
    ·have c3_0 := decT c3
     replace c3 := Aside0.mk c3
     first | rw [c3_0] | skip
     replace H := Aside0.mk H
     try go_wp2
     have HBr := HB; replace HB := dH HB
     refine stA (n := 10) (S := fun w' => Below wr.heap.size wr w') (by kernel_rfl) rfl (below_drew1 (Below.refl _ wr)) (by kernel_rfl) (fun hHeld => ?_)
     generalize wr.drew = W4 at HB hHeld ⊢
     refine pu 0 (some 17) 1 ?_; refine pu 1 (some 18) 3 ?_
     replace H := H.out
     replace H := ifN H; obtain ⟨c5, H⟩ := H
     have c5_0 := decT c5
     replace c5 := Aside0.mk c5
     first | rw [c5_0] | skip
     have p758 : 0 ≤ (x5_2 : Int) := (of_decide_eq_true (by assumption))
     have q758 : x5_2 < (l0.length : Int) := (of_decide_eq_true (by assumption))
     obtain ⟨ad758, e758, hx758_0, hx758_1⟩ := at_T161 HR0.out x5_2 p758 q758
     cases e758
     replace hx758_0 := Aside0.mk hx758_0
     replace hx758_1 := Aside0.mk hx758_1
     have r758 := eq_true p758; have s758 := eq_true q758
     replace p758 := Aside0.mk p758; replace q758 := Aside0.mk q758
     replace H := Aside0.mk H
     refine pu 2 (some 19) 7 ?_; refine pu 4 (some 21) 23 ?_; refine pu 5 (some 22) 55 ?_; refine ld 3 (some 20) 63 hHeld ?_ (hr := by (intro w' h_; have y0_ := xD HBr h_ hx758_0; have y1_ := xD HBr h_ hx758_1; go_simp; with_reducible rfl))
     replace H := H.out
     replace H := ifN H; obtain ⟨c6, H⟩ := H
     have c6_0 := decT c6
     replace c6 := Aside0.mk c6
     first | rw [c6_0] | skip
     have p759 : 0 ≤ (x5_2 : Int) := (of_decide_eq_true (by assumption))
     have q759 : x5_2 < (l1.length : Int) := (of_decide_eq_true (by assumption))
     obtain ⟨ad759, e759, hx759_0, hx759_1⟩ := at_T161 HR1.out x5_2 p759 q759
     cases e759
     replace hx759_0 := Aside0.mk hx759_0
     replace hx759_1 := Aside0.mk hx759_1
     have r759 := eq_true p759; have s759 := eq_true q759
     replace p759 := Aside0.mk p759; replace q759 := Aside0.mk q759
     replace H := Option.bind_eq_some_iff.mp H
     obtain ⟨t760, hm, H⟩ := H
     try dsimp only at H
     replace hm := Aside0.mk hm
     replace H := Aside0.mk H
     refine pu 6 (some 23) 127 ?_; refine ld 7 (some 24) 255 hHeld ?_ (hr := by (intro w' h_; have y0_ := xD HBr h_ hx759_0; have y1_ := xD HBr h_ hx759_1; go_simp; with_reducible rfl))
     refine on 8 (some 25) 511 (fun K hK => ?_)
     have hcall := laws_eqIncludes.calls _ _ _ _ _ W4  hm.out
     refine goes_ Tryz.func170 (by kernel_rfl) rfl #[.agg #[.int .i64 ((rd_T161 l0 x5_2).f0), .int .i64 ((rd_T161 l0 x5_2).f1)], .agg #[.int .i64 ((rd_T161 l1 x5_2).f0), .int .i64 ((rd_T161 l1 x5_2).f1)]] (by rfl) rfl rfl (by (try simp only [List.map_toArray, List.map_cons, List.map_nil]); first | done | rfl) ?_
     refine hcall.mono ?_
     rintro e W8 ⟨rfl, hb⟩
     refine ⟨_, rfl, ?_⟩
     clear hcall hm
     replace hHeld := below_step hHeld hb
     replace HB := bH HB hb; clear hb
     refine hK.out _ _ hHeld (fun hHeld => ?_)
     clear hK K
     refine nr 25 ?_
     refine pu 9 (some 26) 1023 ?_
     refine dn (by kernel_rfl) ?_
     clear hHeld HBr
     replace H := H.out
     replace H := ifD H; rcases H with ⟨c9, H⟩ | ⟨c9, H⟩
     ·subst c9
      replace H := Aside0.mk H
      go_wp2
      go_roundg k2
      case measure => have := Hk2.out; omega
      case rel => exact ⟨(wrap64 (x5_2 + 1)), (by first | rfl | (simp; done) | (simp [*]; done)), H, ⟨by have := Hk2.out; omega⟩, HB⟩
     ·replace c9 := (Bool.not_eq_true _).mp c9
      subst c9
      obtain rfl := Option.some.inj H
      clear H
      go_wp2
      go_ret
      exact ⟨rfl, HB.out⟩
    ·have c3_0 := decF c3
     replace c3 := Aside0.mk c3
     first | rw [c3_0] | skip
     obtain rfl := Option.some.inj H
     clear H
     go_wp2
     go_ret
     exact ⟨rfl, HB.out⟩
 ·have c1_x0 : (l0.length == l1.length) = false := by first | simpa using c1 | (simp at c1 ⊢; omega)
  have c1_0 := decF c1; have c1_1 := eqF c1; have c1_2 := neF c1
  clear c1
  first | rw [c1_1] | rw [c1_2] | skip
  obtain rfl := Option.some.inj H
  clear H
  go_wp2
  go_ret
  exact ⟨rfl, HB.out⟩

end Go.Proofs.YtineejdlpcgnkaaGreat.QFnExactIsCenter
