/- The machine side of FnDelegated: what each function that it reaches computes, and that the machine's call gives just that. -/
import Derived.Test.YtplfbjbbnjlnkaaQFnDelegatedx0
import Derived.Test.YtplfbjbbnjlnkaaQFnDelegatedx1
namespace Go.Proofs.Ytplfbjbbnjlnkaa.QFnDelegated
open Go.RowKit Go.Proofs.YtplfbjbbnjlnkaaW.PrintWords Go.Proofs.YtplfbjbbnjlnkaaW.PrintLast Go.Proofs.YtplfbjbbnjlnkaaW.PrintMore
attribute [local go_sem] max2_int min2_int max_two min_two max_three min_three max_four min_four   -- for this text's walks alone
set_option linter.unusedVariables false
set_option linter.unusedSimpArgs false

/-! ### spec_AreGrants: function 95 -/
mutual
def spec_AreGrants.l0 : Nat → List (S51) → Int → Option (Bool)
 | 0, _, _ => none
 | k + 1, x0, x3 => if x3 < (x0.length : Int) then (if 0 ≤ x3 then (if ((rd_T51 x0 x3).f0) = (wrap64 (x3 + 1)) then ((spec_HasKind.f ((rd_T51 x0 x3).f1) 1).bind fun t144 => (if t144 = true then ((spec_HasKind.f ((rd_T51 x0 x3).f2) 1).bind fun t145 => (if t145 = true then (if ((rd_T51 x0 x3).f1) = ((rd_T51 x0 x3).f2) then (some false) else ((spec_IsTime.f ((rd_T51 x0 x3).f4)).bind fun t146 => (if t146 = true then ((spec_l1In.f ((rd_T51 x0 x3).f5) 0 x3).bind fun t147 => (if t147 = true then (spec_AreGrants.l1 k x0 x3 0 ((rd_T51 x0 x3).f0) ((rd_T51 x0 x3).f1) ((rd_T51 x0 x3).f2) ((rd_T51 x0 x3).f3) ((rd_T51 x0 x3).f4) ((rd_T51 x0 x3).f5) ((rd_T51 x0 x3).f6)) else (some false))) else (some false)))) else (some false))) else (some false))) else (some false)) else (none)) else (some (decide ((x0.length : Int) ≤ 12)))
def spec_AreGrants.l1 : Nat → List (S51) → Int → Int → Int → Int → Int → List Int → Int → Int → Bool → Option (Bool)
 | 0, _, _, _, _, _, _, _, _, _, _ => none
 | k + 1, x0, x3, x5, x144000, x144001, x144002, x144003, x144004, x144005, x144006 => if x5 < (x144003.length : Int) then (if 0 ≤ x5 then ((spec_l1In.f (rd x144003 x5) 0 5).bind fun t149 => (if t149 = true then (if x5 > 0 then (if 0 ≤ (wrap64 (x5 - 1)) then (if (wrap64 (x5 - 1)) < (x144003.length : Int) then (if (rd x144003 (wrap64 (x5 - 1))) ≥ (rd x144003 x5) then (some false) else (spec_AreGrants.l1 k x0 x3 (wrap64 (x5 + 1)) x144000 x144001 x144002 x144003 x144004 x144005 x144006)) else (none)) else (none)) else (spec_AreGrants.l1 k x0 x3 (wrap64 (x5 + 1)) x144000 x144001 x144002 x144003 x144004 x144005 x144006)) else (some false))) else (none)) else (spec_AreGrants.l0 k x0 (wrap64 (x3 + 1)))
end
def spec_AreGrants.f (k : Nat) (l0 : List (S51)) : Option (Bool) := spec_AreGrants.l0 k l0 0
open Go.Proofs.YtplfbjbbnjlnkaaM in
set_option maxHeartbeats 8000000 in
set_option maxRecDepth 100000 in
theorem spec_AreGrants.calls (k : Nat) (A0 : Option Addr) (c0 : Nat) (l0 : List (S51)) (r : Bool) (w : World) (hr0 : Kd.C k51 w A0 l0.length l0) (hc0 : l0.length ≤ c0) (h : spec_AreGrants.f k l0 = some r) :
  Calls Try.prog 95 #[.slice A0 l0.length c0] w fun e w' => e = .returned (.bool r) ∧ Below w.heap.size w w' := by
 have HR0 := Aside0.mk hr0
 have HC0 := Aside0.mk hc0
 clear hr0 hc0
 have HB := Aside0.mk (Below.refl w.heap.size w)
 have H := h
 clear h
 unfold spec_AreGrants.f at H
 have hu51 := Try.underlying51
 go_enter Try.func95, Try.ntmps95
 replace H := Aside0.mk H
 go_wp2
 go_loopg [3] k (fun kq v3 w' => ∃ (x3_1 : Int), v3 = .int .i64 x3_1 ∧ Aside0 (spec_AreGrants.l0 kq l0 x3_1 = some r) ∧ Aside0 (kq ≤ k) ∧ Aside0 (Below w.heap.size w w'))
 case atStart => exact ⟨(0), (by first | rfl | (simp; done) | (simp [*]; done)), H, ⟨Nat.le_refl _⟩, HB⟩
 case round =>
  clear H HB 
  obtain ⟨x3_1, rfl, HA, Hk1, HB⟩ := hrel
  cases gk with
  | zero => exact absurd HA.out (by simp [spec_AreGrants.l0])
  | succ k1 =>
   have H := HA.out
   clear HA
   simp only [spec_AreGrants.l0] at H
   replace H := ifD H; rcases H with ⟨c2, H⟩ | ⟨c2, H⟩
   ·have c2_0 := decT c2
    replace c2 := Aside0.mk c2
    first | rw [c2_0] | skip
    replace H := ifN H; obtain ⟨c3, H⟩ := H
    have c3_0 := decT c3
    replace c3 := Aside0.mk c3
    first | rw [c3_0] | skip
    have p142 : 0 ≤ (x3_1 : Int) := (of_decide_eq_true (by assumption))
    have q142 : x3_1 < (l0.length : Int) := (of_decide_eq_true (by assumption))
    obtain ⟨ad142, A142_3, c142_3, e142, hx142_0, hx142_1, hx142_2, hx142_3, hx142_4, hx142_5, hx142_6, hl142_3, hi142_3⟩ := at_T51 HR0.out x3_1 p142 q142
    cases e142
    have HR142_3 := Aside0.mk hi142_3; have HC142_3 := Aside0.mk hl142_3; clear hi142_3 hl142_3
    replace hx142_0 := Aside0.mk hx142_0
    have y142_0 := xC HB hx142_0
    replace hx142_1 := Aside0.mk hx142_1
    have y142_1 := xC HB hx142_1
    replace hx142_2 := Aside0.mk hx142_2
    have y142_2 := xC HB hx142_2
    replace hx142_3 := Aside0.mk hx142_3
    have y142_3 := xC HB hx142_3
    replace hx142_4 := Aside0.mk hx142_4
    have y142_4 := xC HB hx142_4
    replace hx142_5 := Aside0.mk hx142_5
    have y142_5 := xC HB hx142_5
    replace hx142_6 := Aside0.mk hx142_6
    have y142_6 := xC HB hx142_6
    have r142 := eq_true p142; have s142 := eq_true q142
    replace p142 := Aside0.mk p142; replace q142 := Aside0.mk q142
    replace H := Aside0.mk H
    go_upto_region 5 with (first | ((with_reducible refine gate_dst (N := 4) rfl ?_); refine box_event ?hg (N := 4) ?hd (cs := #[.int .i64 0, .int .i64 0, .int .i64 0, .slice none 0 0, .int .i64 0, .int .i64 0, .bool false]) (t := 51) ?hr ?_; (case hd => rfl); (case hg => rfl); (case hr => first | (go_simp; done) | (go_simp; rfl)); intro gb4 hg W4 hbox hb; have G4 := Aside0.mk hg; have b0_ := Aside0.mk hb; have BK4 := Aside0.mk hbox; have c_BK4 := blk_cell hbox; have z_BK4 := blk_frozen hbox; clear hg hb hbox) | ((with_reducible refine gate_store (t := 51) (p := 4) rfl ?_); refine store_event (t := 51) (p := 4) (v := ?vo_s5) (w1 := (((((((W4.setCell ⟨gb4, 0, none⟩ (.int .i64 ((rd_T51 l0 x3_1).f0))).setCell ⟨gb4, 1, none⟩ (.int .i64 ((rd_T51 l0 x3_1).f1))).setCell ⟨gb4, 2, none⟩ (.int .i64 ((rd_T51 l0 x3_1).f2))).setCell ⟨gb4, 3, none⟩ (.slice A142_3 ((rd_T51 l0 x3_1).f3).length c142_3)).setCell ⟨gb4, 4, none⟩ (.int .i64 ((rd_T51 l0 x3_1).f4))).setCell ⟨gb4, 5, none⟩ (.int .i64 ((rd_T51 l0 x3_1).f5))).setCell ⟨gb4, 6, none⟩ (.bool ((rd_T51 l0 x3_1).f6)))) ?hg ?ho ?hn ?hr ?_; (case ho => rfl); (case hg => rfl); (case hn => rfl); (case hr => first | (go_simp; done) | (go_simp; rfl)); intro W5 hw; have hb : Below wr.heap.size wr W5 := (by rw [hw]; exact bSet (bSet (bSet (bSet (bSet (bSet (bSet (b0_.out) (Nat.le_of_eq G4.out.symm)) (Nat.le_of_eq G4.out.symm)) (Nat.le_of_eq G4.out.symm)) (Nat.le_of_eq G4.out.symm)) (Nat.le_of_eq G4.out.symm)) (Nat.le_of_eq G4.out.symm)) (Nat.le_of_eq G4.out.symm)); clear b0_; have h_ := blk_set (blk_set (blk_set (blk_set (blk_set (blk_set (blk_set (BK4.out) 0 (.int .i64 ((rd_T51 l0 x3_1).f0))) 1 (.int .i64 ((rd_T51 l0 x3_1).f1))) 2 (.int .i64 ((rd_T51 l0 x3_1).f2))) 3 (.slice A142_3 ((rd_T51 l0 x3_1).f3).length c142_3)) 4 (.int .i64 ((rd_T51 l0 x3_1).f4))) 5 (.int .i64 ((rd_T51 l0 x3_1).f5))) 6 (.bool ((rd_T51 l0 x3_1).f6)); rw [← hw] at h_; simp only [List.setIfInBounds_toArray, List.set_cons_zero, List.set_cons_succ] at h_; clear BK4 c_BK4 z_BK4 hw; replace HB := bH HB hb; clear hb; have BK4 := Aside0.mk h_; have c_BK4 := blk_cell h_; have z_BK4 := blk_frozen h_; clear h_ G4))
    try clear y142_0 y142_1 y142_2 y142_3 y142_4 y142_5 y142_6
    replace H := H.out
    replace H := ifD H; rcases H with ⟨c6, H⟩ | ⟨c6, H⟩
    ·have c6_0 := decT c6; have c6_1 := eqT c6; have c6_2 := neT c6
     clear c6
     first | rw [c6_1] | rw [c6_2] | skip
     replace H := Option.bind_eq_some_iff.mp H
     obtain ⟨t144, hm, H⟩ := H
     try dsimp only at H
     replace H := Aside0.mk H
     have hcall := spec_HasKind.calls _ _ _ W5  hm
     clear hm
     go_wp2_with fail
     refine hcall.mono ?_
     rintro e W7 ⟨rfl, hb⟩
     clear hcall
     replace BK4 := bK BK4 hb; replace c_BK4 := blk_cell BK4.out; replace z_BK4 := blk_frozen BK4.out
     replace HB := bH HB hb; clear hb
     replace H := H.out
     replace H := ifD H; rcases H with ⟨c8, H⟩ | ⟨c8, H⟩
     ·subst c8
      replace H := Option.bind_eq_some_iff.mp H
      obtain ⟨t145, hm, H⟩ := H
      try dsimp only at H
      replace H := Aside0.mk H
      have hcall := spec_HasKind.calls _ _ _ W7  hm
      clear hm
      go_wp2_with fail
      refine hcall.mono ?_
      rintro e W9 ⟨rfl, hb⟩
      clear hcall
      replace BK4 := bK BK4 hb; replace c_BK4 := blk_cell BK4.out; replace z_BK4 := blk_frozen BK4.out
      replace HB := bH HB hb; clear hb
      replace H := H.out
      replace H := ifD H; rcases H with ⟨c10, H⟩ | ⟨c10, H⟩
      ·subst c10
       replace H := ifD H; rcases H with ⟨c11, H⟩ | ⟨c11, H⟩
       ·have c11_0 := decT c11; have c11_1 := eqT c11; have c11_2 := neT c11
        clear c11
        first | rw [c11_1] | rw [c11_2] | skip
        obtain rfl := Option.some.inj H
        clear H
        go_wp2
        go_ret
        exact ⟨rfl, HB.out⟩
       ·have c11_0 := decF c11; have c11_1 := eqF c11; have c11_2 := neF c11
        clear c11
        first | rw [c11_1] | rw [c11_2] | skip
        replace H := Option.bind_eq_some_iff.mp H
        obtain ⟨t146, hm, H⟩ := H
        try dsimp only at H
        replace H := Aside0.mk H
        have hcall := spec_IsTime.calls _ _ W9  hm
        clear hm
        go_wp2_with fail
        refine hcall.mono ?_
        rintro e W12 ⟨rfl, hb⟩
        clear hcall
        replace BK4 := bK BK4 hb; replace c_BK4 := blk_cell BK4.out; replace z_BK4 := blk_frozen BK4.out
        replace HB := bH HB hb; clear hb
        replace H := H.out
        replace H := ifD H; rcases H with ⟨c13, H⟩ | ⟨c13, H⟩
        ·subst c13
         replace H := Option.bind_eq_some_iff.mp H
         obtain ⟨t147, hm, H⟩ := H
         try dsimp only at H
         replace H := Aside0.mk H
         have hcall := spec_l1In.calls _ _ _ _ W12  hm
         clear hm
         go_wp2_with fail
         refine hcall.mono ?_
         rintro e W14 ⟨rfl, hb⟩
         clear hcall
         replace BK4 := bK BK4 hb; replace c_BK4 := blk_cell BK4.out; replace z_BK4 := blk_frozen BK4.out
         replace HB := bH HB hb; clear hb
         replace H := H.out
         replace H := ifD H; rcases H with ⟨c15, H⟩ | ⟨c15, H⟩
         ·subst c15
          replace H := Aside0.mk H
          go_wp2
          go_loopg [5] k1 (fun kq v5 w' => ∃ (x5_16 : Int), v5 = .int .i64 x5_16 ∧ Aside0 (spec_AreGrants.l1 kq l0 x3_1 x5_16 ((rd_T51 l0 x3_1).f0) ((rd_T51 l0 x3_1).f1) ((rd_T51 l0 x3_1).f2) ((rd_T51 l0 x3_1).f3) ((rd_T51 l0 x3_1).f4) ((rd_T51 l0 x3_1).f5) ((rd_T51 l0 x3_1).f6) = some r) ∧ Aside0 (kq ≤ k1) ∧ Aside0 (w'.heap[gb4]? = some (.cells #[.int .i64 ((rd_T51 l0 x3_1).f0), .int .i64 ((rd_T51 l0 x3_1).f1), .int .i64 ((rd_T51 l0 x3_1).f2), .slice A142_3 ((rd_T51 l0 x3_1).f3).length c142_3, .int .i64 ((rd_T51 l0 x3_1).f4), .int .i64 ((rd_T51 l0 x3_1).f5), .bool ((rd_T51 l0 x3_1).f6)] 51 (0, 0))) ∧ Aside0 (Below w.heap.size w w'))
          case atStart => exact ⟨(0), (by first | rfl | (simp; done) | (simp [*]; done)), H, ⟨Nat.le_refl _⟩, BK4, HB⟩
          case round =>
           clear H HB BK4 c_BK4 z_BK4
           try clear c2_0 c3_0 c6_0 c6_1 c6_2 c11_0 c11_1 c11_2
           rename World => W_k16
           obtain ⟨x5_16, rfl, HA, Hk16, BK4, HB⟩ := hrel
           have c_BK4 := blk_cell BK4.out; have z_BK4 := blk_frozen BK4.out
           cases gk with
           | zero => exact absurd HA.out (by simp [spec_AreGrants.l1])
           | succ k16 =>
            have H := HA.out
            clear HA
            simp only [spec_AreGrants.l1] at H
            replace H := ifD H; rcases H with ⟨c17, H⟩ | ⟨c17, H⟩
            ·have c17_0 := decT c17
             replace c17 := Aside0.mk c17
             first | rw [c17_0] | skip
             replace H := Aside0.mk H
             try go_wp2
             clear c_BK4 z_BK4; have rBK4 := BK4; replace BK4 := dK BK4
             have HBr := HB; replace HB := dH HB
             refine stA (n := 25) (S := fun w' => Below W_k16.heap.size W_k16 w') (by kernel_rfl) rfl (below_drew1 (Below.refl _ W_k16)) (by kernel_rfl) (fun hHeld => ?_)
             generalize W_k16.drew = W18 at HB BK4 hHeld ⊢
             refine pu 0 (some 60) 1 ?_; refine pu 2 (some 62) 5 ?_; refine ld 1 (some 61) 7 hHeld ?_ (hr := by (intro w' h_; have y_ := kD rBK4 h_; go_simp; with_reducible rfl))
             replace H := H.out
             replace H := ifN H; obtain ⟨c19, H⟩ := H
             have c19_0 := decT c19
             replace c19 := Aside0.mk c19
             first | rw [c19_0] | skip
             have p148 : 0 ≤ (x5_16 : Int) := (of_decide_eq_true (by assumption))
             have q148 : x5_16 < (((rd_T51 l0 x3_1).f3).length : Int) := (of_decide_eq_true (by assumption))
             obtain ⟨ad148, e148, hx148_0⟩ := Kd.at_int HR142_3.out x5_16 p148 q148
             cases e148
             replace hx148_0 := Aside0.mk hx148_0
             have r148 := eq_true p148; have s148 := eq_true q148
             replace p148 := Aside0.mk p148; replace q148 := Aside0.mk q148
             replace H := Option.bind_eq_some_iff.mp H
             obtain ⟨t149, hm, H⟩ := H
             try dsimp only at H
             replace hm := Aside0.mk hm
             replace H := Aside0.mk H
             refine pu 3 (some 63) 15 ?_; refine ld 4 (some 64) 31 hHeld ?_ (hr := by (intro w' h_; have y0_ := xD HBr h_ hx148_0; go_simp; with_reducible rfl))
             refine on 5 (some 65) 63 (fun K hK => ?_)
             have hcall := spec_l1In.calls _ _ _ _ W18  hm.out
             refine goes_ Try.func96 (by kernel_rfl) rfl #[.int .i64 (rd ((rd_T51 l0 x3_1).f3) x5_16), .int .i64 0, .int .i64 5] (by rfl) rfl rfl (by (try simp only [List.map_toArray, List.map_cons, List.map_nil]); first | done | rfl) ?_
             refine hcall.mono ?_
             rintro e W21 ⟨rfl, hb⟩
             refine ⟨_, rfl, ?_⟩
             clear hcall hm
             replace hHeld := below_step hHeld hb
             replace BK4 := bK BK4 hb
             replace HB := bH HB hb; clear hb
             refine hK.out _ _ hHeld (fun hHeld => ?_)
             clear hK K
             refine nr 65 ?_
             replace H := H.out
             replace H := ifD H; rcases H with ⟨c22, H⟩ | ⟨c22, H⟩
             ·subst c22
              replace H := ifD H; rcases H with ⟨c23, H⟩ | ⟨c23, H⟩
              ·replace c23 : 0 < x5_16 := c23
               have c23_0 := decT c23
               replace c23 := Aside0.mk c23
               first | rw [c23_0] | skip
               replace H := ifN H; obtain ⟨c24, H⟩ := H
               have c24_0 := decT c24
               replace c24 := Aside0.mk c24
               first | rw [c24_0] | skip
               replace H := ifN H; obtain ⟨c25, H⟩ := H
               have c25_0 := decT c25
               replace c25 := Aside0.mk c25
               first | rw [c25_0] | skip
               have p150 : 0 ≤ ((wrap64 (x5_16 - 1)) : Int) := (of_decide_eq_true (by assumption))
               have q150 : (wrap64 (x5_16 - 1)) < (((rd_T51 l0 x3_1).f3).length : Int) := (of_decide_eq_true (by assumption))
               obtain ⟨ad150, e150, hx150_0⟩ := Kd.at_int HR142_3.out (wrap64 (x5_16 - 1)) p150 q150
               obtain rfl : ad148 = ad150 := by injection e150
               replace hx150_0 := Aside0.mk hx150_0
               have r150 := eq_true p150; have s150 := eq_true q150
               replace p150 := Aside0.mk p150; replace q150 := Aside0.mk q150
               replace H := Aside0.mk H
               refine pu 6 (some 66) 127 ?_; refine pu 7 (some 67) 255 ?_; refine pu 8 (some 68) 511 ?_; refine pu 9 (some 69) 1023 ?_; refine pu 10 (some 70) 2047 ?_; refine pu 11 (some 71) 4095 ?_; refine pu 13 (some 73) 12287 ?_; refine pu 14 (some 74) 28671 ?_; refine pu 17 (some 77) 159743 ?_; refine pu 19 (some 79) 684031 ?_; refine ld 12 (some 72) 688127 hHeld ?_ (hr := by (intro w' h_; have y_ := kD rBK4 h_; go_simp; with_reducible rfl)); refine pu 15 (some 75) 720895 ?_; refine ld 16 (some 76) 786431 hHeld ?_ (hr := by (intro w' h_; have y0_ := xD HBr h_ hx150_0; go_simp; with_reducible rfl)); refine ld 18 (some 78) 1048575 hHeld ?_ (hr := by (intro w' h_; have y_ := kD rBK4 h_; go_simp; with_reducible rfl)); refine pu 20 (some 80) 2097151 ?_; refine ld 21 (some 81) 4194303 hHeld ?_ (hr := by (intro w' h_; have y0_ := xD HBr h_ hx148_0; go_simp; with_reducible rfl)); refine pu 22 (some 82) 8388607 ?_; refine pu 23 (some 83) 16777215 ?_; refine pu 24 (some 84) 33554431 ?_
               refine dn (by kernel_rfl) ?_
               clear hHeld HBr rBK4
               have c_BK4 := blk_cell BK4.out; have z_BK4 := blk_frozen BK4.out
               replace H := H.out
               replace H := ifD H; rcases H with ⟨c26, H⟩ | ⟨c26, H⟩
               ·replace c26 : (rd ((rd_T51 l0 x3_1).f3) x5_16) ≤ (rd ((rd_T51 l0 x3_1).f3) (wrap64 (x5_16 - 1))) := c26
                have c26_0 := decT c26
                replace c26 := Aside0.mk c26
                first | rw [c26_0] | skip
                obtain rfl := Option.some.inj H
                clear H
                go_wp2
                go_ret
                exact ⟨rfl, HB.out⟩
               ·replace c26 : ¬ ((rd ((rd_T51 l0 x3_1).f3) x5_16) ≤ (rd ((rd_T51 l0 x3_1).f3) (wrap64 (x5_16 - 1)))) := c26
                have c26_0 := decF c26
                replace c26 := Aside0.mk c26
                first | rw [c26_0] | skip
                replace H := Aside0.mk H
                go_wp2
                go_roundg k16
                case measure => have := Hk1.out; have := Hk16.out; omega
                case rel => exact ⟨(wrap64 (x5_16 + 1)), (by first | rfl | (simp; done) | (simp [*]; done)), H, ⟨by have := Hk1.out; have := Hk16.out; omega⟩, BK4, HB⟩
              ·replace c23 : ¬ (0 < x5_16) := c23
               have c23_0 := decF c23
               replace c23 := Aside0.mk c23
               first | rw [c23_0] | skip
               replace H := Aside0.mk H
               refine pu 6 (some 66) 127 ?_; refine pu 7 (some 67) 255 ?_; refine pu 8 (some 68) 511 ?_; refine pu 9 (some 69) 1023 ?_; refine pu 10 (some 70) 2047 ?_; refine sk 11 (some 71) 4095 ?_; refine sk 12 (some 72) 8191 ?_; refine sk 13 (some 73) 16383 ?_; refine sk 14 (some 74) 32767 ?_; refine sk 15 (some 75) 65535 ?_; refine sk 16 (some 76) 131071 ?_; refine sk 17 (some 77) 262143 ?_; refine sk 18 (some 78) 524287 ?_; refine sk 19 (some 79) 1048575 ?_; refine sk 20 (some 80) 2097151 ?_; refine sk 21 (some 81) 4194303 ?_; refine sk 22 (some 82) 8388607 ?_; refine pu 23 (some 83) 16777215 ?_; refine pu 24 (some 84) 33554431 ?_
               refine dn (by kernel_rfl) ?_
               clear hHeld HBr rBK4
               have c_BK4 := blk_cell BK4.out; have z_BK4 := blk_frozen BK4.out
               go_wp2
               go_roundg k16
               case measure => have := Hk1.out; have := Hk16.out; omega
               case rel => exact ⟨(wrap64 (x5_16 + 1)), (by first | rfl | (simp; done) | (simp [*]; done)), H, ⟨by have := Hk1.out; have := Hk16.out; omega⟩, BK4, HB⟩
             ·replace c22 := (Bool.not_eq_true _).mp c22
              subst c22
              replace H := Aside0.mk H
              refine pu 6 (some 66) 127 ?_; refine pu 7 (some 67) 255 ?_; refine sk 8 (some 68) 511 ?_; refine sk 9 (some 69) 1023 ?_; refine sk 10 (some 70) 2047 ?_; refine sk 11 (some 71) 4095 ?_; refine sk 12 (some 72) 8191 ?_; refine sk 13 (some 73) 16383 ?_; refine sk 14 (some 74) 32767 ?_; refine sk 15 (some 75) 65535 ?_; refine sk 16 (some 76) 131071 ?_; refine sk 17 (some 77) 262143 ?_; refine sk 18 (some 78) 524287 ?_; refine sk 19 (some 79) 1048575 ?_; refine sk 20 (some 80) 2097151 ?_; refine sk 21 (some 81) 4194303 ?_; refine sk 22 (some 82) 8388607 ?_; refine sk 23 (some 83) 16777215 ?_; refine pu 24 (some 84) 33554431 ?_
              refine dn (by kernel_rfl) ?_
              clear hHeld HBr rBK4
              have c_BK4 := blk_cell BK4.out; have z_BK4 := blk_frozen BK4.out
              replace H := H.out
              obtain rfl := Option.some.inj H
              clear H
              go_wp2
              go_ret
              exact ⟨rfl, HB.out⟩
            ·have c17_0 := decF c17
             replace c17 := Aside0.mk c17
             first | rw [c17_0] | skip
             replace H := Aside0.mk H
             go_wp2
             go_roundg k16
             case measure => have := Hk1.out; have := Hk16.out; omega
             case rel => exact ⟨(wrap64 (x3_1 + 1)), (by first | rfl | (simp; done) | (simp [*]; done)), H, ⟨by have := Hk1.out; have := Hk16.out; omega⟩, HB⟩
         ·replace c15 := (Bool.not_eq_true _).mp c15
          subst c15
          obtain rfl := Option.some.inj H
          clear H
          go_wp2
          go_ret
          exact ⟨rfl, HB.out⟩
        ·replace c13 := (Bool.not_eq_true _).mp c13
         subst c13
         obtain rfl := Option.some.inj H
         clear H
         go_wp2
         go_ret
         exact ⟨rfl, HB.out⟩
      ·replace c10 := (Bool.not_eq_true _).mp c10
       subst c10
       obtain rfl := Option.some.inj H
       clear H
       go_wp2
       go_ret
       exact ⟨rfl, HB.out⟩
     ·replace c8 := (Bool.not_eq_true _).mp c8
      subst c8
      obtain rfl := Option.some.inj H
      clear H
      go_wp2
      go_ret
      exact ⟨rfl, HB.out⟩
    ·have c6_0 := decF c6; have c6_1 := eqF c6; have c6_2 := neF c6
     clear c6
     first | rw [c6_1] | rw [c6_2] | skip
     obtain rfl := Option.some.inj H
     clear H
     go_wp2
     go_ret
     exact ⟨rfl, HB.out⟩
   ·have c2_0 := decF c2
    replace c2 := Aside0.mk c2
    first | rw [c2_0] | skip
    obtain rfl := Option.some.inj H
    clear H
    go_wp2
    go_ret
    exact ⟨rfl, HB.out⟩

/-! ### spec_l30Under: function 106 -/
def spec_l30Under.l0 : Nat → List Int → List Int → Int → Option (Bool)
 | 0, _, _, _ => none
 | k + 1, x0, x1, x5 => if x5 < (x0.length : Int) then (if 0 ≤ x5 then ((spec_l13Has.f k x1 (rd x0 x5)).bind fun t153 => (if t153 = true then (spec_l30Under.l0 k x0 x1 (wrap64 (x5 + 1))) else (some false))) else (none)) else (some true)
def spec_l30Under.f (k : Nat) (l0 : List Int) (l1 : List Int) : Option (Bool) := spec_l30Under.l0 k l0 l1 0
open Go.Proofs.YtplfbjbbnjlnkaaM in
set_option maxHeartbeats 8000000 in
set_option maxRecDepth 100000 in
theorem spec_l30Under.calls (k : Nat) (A0 : Option Addr) (c0 : Nat) (l0 : List Int) (A1 : Option Addr) (c1 : Nat) (l1 : List Int) (r : Bool) (w : World) (hr0 : Kd.C (Kd.int .i64) w A0 l0.length l0) (hc0 : l0.length ≤ c0) (hr1 : Kd.C (Kd.int .i64) w A1 l1.length l1) (hc1 : l1.length ≤ c1) (h : spec_l30Under.f k l0 l1 = some r) :
  Calls Try.prog 106 #[.slice A0 l0.length c0, .slice A1 l1.length c1] w fun e w' => e = .returned (.bool r) ∧ Below w.heap.size w w' := by
 have HR0 := Aside0.mk hr0
 have HC0 := Aside0.mk hc0
 clear hr0 hc0
 have HR1 := Aside0.mk hr1
 have HC1 := Aside0.mk hc1
 clear hr1 hc1
 have HB := Aside0.mk (Below.refl w.heap.size w)
 have H := h
 clear h
 unfold spec_l30Under.f at H
 go_enter Try.func106, Try.ntmps106
 replace H := Aside0.mk H
 go_wp2
 go_loopg [5] k (fun kq v5 w' => ∃ (x5_1 : Int), v5 = .int .i64 x5_1 ∧ Aside0 (spec_l30Under.l0 kq l0 l1 x5_1 = some r) ∧ Aside0 (kq ≤ k) ∧ Aside0 (Below w.heap.size w w'))
 case atStart => exact ⟨(0), (by first | rfl | (simp; done) | (simp [*]; done)), H, ⟨Nat.le_refl _⟩, HB⟩
 case round =>
  clear H HB 
  obtain ⟨x5_1, rfl, HA, Hk1, HB⟩ := hrel
  cases gk with
  | zero => exact absurd HA.out (by simp [spec_l30Under.l0])
  | succ k1 =>
   have H := HA.out
   clear HA
   simp only [spec_l30Under.l0] at H
   replace H := ifD H; rcases H with ⟨c2, H⟩ | ⟨c2, H⟩
   ·have c2_0 := decT c2
    replace c2 := Aside0.mk c2
    first | rw [c2_0] | skip
    replace H := ifN H; obtain ⟨c3, H⟩ := H
    have c3_0 := decT c3
    replace c3 := Aside0.mk c3
    first | rw [c3_0] | skip
    have p152 : 0 ≤ (x5_1 : Int) := (of_decide_eq_true (by assumption))
    have q152 : x5_1 < (l0.length : Int) := (of_decide_eq_true (by assumption))
    obtain ⟨ad152, e152, hx152_0⟩ := Kd.at_int HR0.out x5_1 p152 q152
    cases e152
    replace hx152_0 := Aside0.mk hx152_0
    have y152_0 := xC HB hx152_0
    have r152 := eq_true p152; have s152 := eq_true q152
    replace p152 := Aside0.mk p152; replace q152 := Aside0.mk q152
    replace H := Option.bind_eq_some_iff.mp H
    obtain ⟨t153, hm, H⟩ := H
    try dsimp only at H
    replace H := Aside0.mk H
    have hcall := spec_l13Has.calls k1 _ _ _ _ _ wr (Kd.C_below HR1.out HB.out) HC1.out hm
    clear hm
    go_wp2_with fail
    refine hcall.mono ?_
    rintro e W4 ⟨rfl, hb⟩
    clear hcall
    try clear y152_0
    replace HB := bH HB hb; clear hb
    replace H := H.out
    replace H := ifD H; rcases H with ⟨c5, H⟩ | ⟨c5, H⟩
    ·subst c5
     replace H := Aside0.mk H
     go_wp2
     go_roundg k1
     case measure => have := Hk1.out; omega
     case rel => exact ⟨(wrap64 (x5_1 + 1)), (by first | rfl | (simp; done) | (simp [*]; done)), H, ⟨by have := Hk1.out; omega⟩, HB⟩
    ·replace c5 := (Bool.not_eq_true _).mp c5
     subst c5
     obtain rfl := Option.some.inj H
     clear H
     go_wp2
     go_ret
     exact ⟨rfl, HB.out⟩
   ·have c2_0 := decF c2
    replace c2 := Aside0.mk c2
    first | rw [c2_0] | skip
    obtain rfl := Option.some.inj H
    clear H
    go_wp2
    go_ret
    exact ⟨rfl, HB.out⟩

/-! ### spec_l30Good: function 161 -/
def spec_l30Good.f : Nat → List (S51) → Int → Int → Option (Bool)
 | 0, _, _, _ => none
 | k + 1, l0, a1, a2 => (spec_l1In.f a1 1 (l0.length : Int)).bind fun t154 => (if t154 = true then (if 0 ≤ (wrap64 (a1 - 1)) then (if (wrap64 (a1 - 1)) < (l0.length : Int) then (if (rd_T51 l0 (wrap64 (a1 - 1))).f6 = true then (some false) else (if a2 > ((rd_T51 l0 (wrap64 (a1 - 1))).f4) then (some false) else (if ((rd_T51 l0 (wrap64 (a1 - 1))).f5) = 0 then (some true) else (if 0 ≤ (wrap64 (((rd_T51 l0 (wrap64 (a1 - 1))).f5) - 1)) then (if (wrap64 (((rd_T51 l0 (wrap64 (a1 - 1))).f5) - 1)) < (l0.length : Int) then (if ((rd_T51 l0 (wrap64 (a1 - 1))).f1) = ((rd_T51 l0 (wrap64 (((rd_T51 l0 (wrap64 (a1 - 1))).f5) - 1))).f2) then ((spec_l30Under.f k ((rd_T51 l0 (wrap64 (a1 - 1))).f3) ((rd_T51 l0 (wrap64 (((rd_T51 l0 (wrap64 (a1 - 1))).f5) - 1))).f3)).bind fun t159 => (if t159 = true then ((spec_l30Good.f k l0 ((rd_T51 l0 (wrap64 (a1 - 1))).f5) a2).bind fun t160 => (some t160)) else (some false))) else (some false)) else (none)) else (none))))) else (none)) else (none)) else (some false))
open Go.Proofs.YtplfbjbbnjlnkaaM in
set_option maxHeartbeats 8000000 in
set_option maxRecDepth 100000 in
theorem spec_l30Good.calls (k : Nat) : ∀ (A0 : Option Addr) (c0 : Nat) (l0 : List (S51)) (a1 : Int) (a2 : Int) (r : Bool) (w : World) (hr0 : Kd.C k51 w A0 l0.length l0) (hc0 : l0.length ≤ c0) (h : spec_l30Good.f k l0 a1 a2 = some r),
  Calls Try.prog 161 #[.slice A0 l0.length c0, .int .i64 a1, .int .i64 a2] w fun e w' => e = .returned (.bool r) ∧ Below w.heap.size w w' := by
 induction k using Nat.strongRecOn with
 | _ k ih =>
 intro A0 c0 l0 a1 a2 r w hr0 hc0 h
 cases k with
 | zero => exact absurd h (by simp [spec_l30Good.f])
 | succ k =>
 simp only [spec_l30Good.f] at h
 have HR0 := Aside0.mk hr0
 have HC0 := Aside0.mk hc0
 clear hr0 hc0
 have HB := Aside0.mk (Below.refl w.heap.size w)
 have H := h
 clear h
 have hu51 := Try.underlying51
 go_enter Try.func161, Try.ntmps161
 replace H := Option.bind_eq_some_iff.mp H
 obtain ⟨t154, hm, H⟩ := H
 try dsimp only at H
 replace H := Aside0.mk H
 have hcall := spec_l1In.calls _ _ _ _ w  hm
 clear hm
 go_wp2_with fail
 refine hcall.mono ?_
 rintro e W1 ⟨rfl, hb⟩
 clear hcall
 replace HB := bH HB hb; clear hb
 replace H := H.out
 replace H := ifD H; rcases H with ⟨c2, H⟩ | ⟨c2, H⟩
 ·subst c2
  replace H := ifN H; obtain ⟨c3, H⟩ := H
  have c3_0 := decT c3
  replace c3 := Aside0.mk c3
  first | rw [c3_0] | skip
  replace H := ifN H; obtain ⟨c4, H⟩ := H
  have c4_0 := decT c4
  replace c4 := Aside0.mk c4
  first | rw [c4_0] | skip
  have p155 : 0 ≤ ((wrap64 (a1 - 1)) : Int) := (of_decide_eq_true (by assumption))
  have q155 : (wrap64 (a1 - 1)) < (l0.length : Int) := (of_decide_eq_true (by assumption))
  obtain ⟨ad155, A155_3, c155_3, e155, hx155_0, hx155_1, hx155_2, hx155_3, hx155_4, hx155_5, hx155_6, hl155_3, hi155_3⟩ := at_T51 HR0.out (wrap64 (a1 - 1)) p155 q155
  cases e155
  have HR155_3 := Aside0.mk hi155_3; have HC155_3 := Aside0.mk hl155_3; clear hi155_3 hl155_3
  replace hx155_0 := Aside0.mk hx155_0
  have y155_0 := xC HB hx155_0
  replace hx155_1 := Aside0.mk hx155_1
  have y155_1 := xC HB hx155_1
  replace hx155_2 := Aside0.mk hx155_2
  have y155_2 := xC HB hx155_2
  replace hx155_3 := Aside0.mk hx155_3
  have y155_3 := xC HB hx155_3
  replace hx155_4 := Aside0.mk hx155_4
  have y155_4 := xC HB hx155_4
  replace hx155_5 := Aside0.mk hx155_5
  have y155_5 := xC HB hx155_5
  replace hx155_6 := Aside0.mk hx155_6
  have y155_6 := xC HB hx155_6
  have r155 := eq_true p155; have s155 := eq_true q155
  replace p155 := Aside0.mk p155; replace q155 := Aside0.mk q155
  replace H := Aside0.mk H
  go_upto_region 4 with (first | ((with_reducible refine gate_dst (N := 7) rfl ?_); refine box_event ?hg (N := 7) ?hd (cs := #[.int .i64 0, .int .i64 0, .int .i64 0, .slice none 0 0, .int .i64 0, .int .i64 0, .bool false]) (t := 51) ?hr ?_; (case hd => rfl); (case hg => rfl); (case hr => first | (go_simp; done) | (go_simp; rfl)); intro gb5 hg W5 hbox hb; have G5 := Aside0.mk hg; have b0_ := Aside0.mk hb; have BK5 := Aside0.mk hbox; have c_BK5 := blk_cell hbox; have z_BK5 := blk_frozen hbox; clear hg hb hbox) | ((with_reducible refine gate_store (t := 51) (p := 7) rfl ?_); refine store_event (t := 51) (p := 7) (v := ?vo_s6) (w1 := (((((((W5.setCell ⟨gb5, 0, none⟩ (.int .i64 ((rd_T51 l0 (wrap64 (a1 - 1))).f0))).setCell ⟨gb5, 1, none⟩ (.int .i64 ((rd_T51 l0 (wrap64 (a1 - 1))).f1))).setCell ⟨gb5, 2, none⟩ (.int .i64 ((rd_T51 l0 (wrap64 (a1 - 1))).f2))).setCell ⟨gb5, 3, none⟩ (.slice A155_3 ((rd_T51 l0 (wrap64 (a1 - 1))).f3).length c155_3)).setCell ⟨gb5, 4, none⟩ (.int .i64 ((rd_T51 l0 (wrap64 (a1 - 1))).f4))).setCell ⟨gb5, 5, none⟩ (.int .i64 ((rd_T51 l0 (wrap64 (a1 - 1))).f5))).setCell ⟨gb5, 6, none⟩ (.bool ((rd_T51 l0 (wrap64 (a1 - 1))).f6)))) ?hg ?ho ?hn ?hr ?_; (case ho => rfl); (case hg => rfl); (case hn => rfl); (case hr => first | (go_simp; done) | (go_simp; rfl)); intro W6 hw; have hb : Below W1.heap.size W1 W6 := (by rw [hw]; exact bSet (bSet (bSet (bSet (bSet (bSet (bSet (b0_.out) (Nat.le_of_eq G5.out.symm)) (Nat.le_of_eq G5.out.symm)) (Nat.le_of_eq G5.out.symm)) (Nat.le_of_eq G5.out.symm)) (Nat.le_of_eq G5.out.symm)) (Nat.le_of_eq G5.out.symm)) (Nat.le_of_eq G5.out.symm)); clear b0_; have h_ := blk_set (blk_set (blk_set (blk_set (blk_set (blk_set (blk_set (BK5.out) 0 (.int .i64 ((rd_T51 l0 (wrap64 (a1 - 1))).f0))) 1 (.int .i64 ((rd_T51 l0 (wrap64 (a1 - 1))).f1))) 2 (.int .i64 ((rd_T51 l0 (wrap64 (a1 - 1))).f2))) 3 (.slice A155_3 ((rd_T51 l0 (wrap64 (a1 - 1))).f3).length c155_3)) 4 (.int .i64 ((rd_T51 l0 (wrap64 (a1 - 1))).f4))) 5 (.int .i64 ((rd_T51 l0 (wrap64 (a1 - 1))).f5))) 6 (.bool ((rd_T51 l0 (wrap64 (a1 - 1))).f6)); rw [← hw] at h_; simp only [List.setIfInBounds_toArray, List.set_cons_zero, List.set_cons_succ] at h_; clear BK5 c_BK5 z_BK5 hw; replace HB := bH HB hb; clear hb; have BK5 := Aside0.mk h_; have c_BK5 := blk_cell h_; have z_BK5 := blk_frozen h_; clear h_ G5))
  try clear y155_0 y155_1 y155_2 y155_3 y155_4 y155_5 y155_6
  replace H := H.out
  replace H := ifD H; rcases H with ⟨c7, H⟩ | ⟨c7, H⟩
  ·try rw [c7]
   obtain rfl := Option.some.inj H
   clear H
   go_wp2
   go_ret
   exact ⟨rfl, HB.out⟩
  ·replace c7 := (Bool.not_eq_true _).mp c7
   try rw [c7]
   replace H := ifD H; rcases H with ⟨c8, H⟩ | ⟨c8, H⟩
   ·replace c8 : ((rd_T51 l0 (wrap64 (a1 - 1))).f4) < a2 := c8
    have c8_0 := decT c8
    replace c8 := Aside0.mk c8
    first | rw [c8_0] | skip
    obtain rfl := Option.some.inj H
    clear H
    go_wp2
    go_ret
    exact ⟨rfl, HB.out⟩
   ·replace c8 : ¬ (((rd_T51 l0 (wrap64 (a1 - 1))).f4) < a2) := c8
    have c8_0 := decF c8
    replace c8 := Aside0.mk c8
    first | rw [c8_0] | skip
    replace H := ifD H; rcases H with ⟨c9, H⟩ | ⟨c9, H⟩
    ·have c9_0 := decT c9; have c9_1 := eqT c9; have c9_2 := neT c9
     clear c9
     first | rw [c9_1] | rw [c9_2] | skip
     obtain rfl := Option.some.inj H
     clear H
     go_wp2
     go_ret
     exact ⟨rfl, HB.out⟩
    ·have c9_0 := decF c9; have c9_1 := eqF c9; have c9_2 := neF c9
     clear c9
     first | rw [c9_1] | rw [c9_2] | skip
     replace H := ifN H; obtain ⟨c10, H⟩ := H
     have c10_0 := decT c10
     replace c10 := Aside0.mk c10
     first | rw [c10_0] | skip
     replace H := ifN H; obtain ⟨c11, H⟩ := H
     have c11_0 := decT c11
     replace c11 := Aside0.mk c11
     first | rw [c11_0] | skip
     have p157 : 0 ≤ ((wrap64 (((rd_T51 l0 (wrap64 (a1 - 1))).f5) - 1)) : Int) := (of_decide_eq_true (by assumption))
     have q157 : (wrap64 (((rd_T51 l0 (wrap64 (a1 - 1))).f5) - 1)) < (l0.length : Int) := (of_decide_eq_true (by assumption))
     obtain ⟨ad157, A157_3, c157_3, e157, hx157_0, hx157_1, hx157_2, hx157_3, hx157_4, hx157_5, hx157_6, hl157_3, hi157_3⟩ := at_T51 HR0.out (wrap64 (((rd_T51 l0 (wrap64 (a1 - 1))).f5) - 1)) p157 q157
     obtain rfl : ad155 = ad157 := by injection e157
     have HR157_3 := Aside0.mk hi157_3; have HC157_3 := Aside0.mk hl157_3; clear hi157_3 hl157_3
     replace hx157_0 := Aside0.mk hx157_0
     have y157_0 := xC HB hx157_0
     replace hx157_1 := Aside0.mk hx157_1
     have y157_1 := xC HB hx157_1
     replace hx157_2 := Aside0.mk hx157_2
     have y157_2 := xC HB hx157_2
     replace hx157_3 := Aside0.mk hx157_3
     have y157_3 := xC HB hx157_3
     replace hx157_4 := Aside0.mk hx157_4
     have y157_4 := xC HB hx157_4
     replace hx157_5 := Aside0.mk hx157_5
     have y157_5 := xC HB hx157_5
     replace hx157_6 := Aside0.mk hx157_6
     have y157_6 := xC HB hx157_6
     have r157 := eq_true p157; have s157 := eq_true q157
     replace p157 := Aside0.mk p157; replace q157 := Aside0.mk q157
     replace H := Aside0.mk H
     go_upto_region 9 with (first | ((with_reducible refine gate_dst (N := 8) rfl ?_); refine box_event ?hg (N := 8) ?hd (cs := #[.int .i64 0, .int .i64 0, .int .i64 0, .slice none 0 0, .int .i64 0, .int .i64 0, .bool false]) (t := 51) ?hr ?_; (case hd => rfl); (case hg => rfl); (case hr => first | (go_simp; done) | (go_simp; rfl)); intro gb12 hg W12 hbox hb; have G12 := Aside0.mk hg; have b0_ := Aside0.mk hb; have BK12 := Aside0.mk hbox; have c_BK12 := blk_cell hbox; have z_BK12 := blk_frozen hbox; clear hg hb hbox) | ((with_reducible refine gate_store (t := 51) (p := 8) rfl ?_); refine store_event (t := 51) (p := 8) (v := ?vo_s13) (w1 := (((((((W12.setCell ⟨gb12, 0, none⟩ (.int .i64 ((rd_T51 l0 (wrap64 (((rd_T51 l0 (wrap64 (a1 - 1))).f5) - 1))).f0))).setCell ⟨gb12, 1, none⟩ (.int .i64 ((rd_T51 l0 (wrap64 (((rd_T51 l0 (wrap64 (a1 - 1))).f5) - 1))).f1))).setCell ⟨gb12, 2, none⟩ (.int .i64 ((rd_T51 l0 (wrap64 (((rd_T51 l0 (wrap64 (a1 - 1))).f5) - 1))).f2))).setCell ⟨gb12, 3, none⟩ (.slice A157_3 ((rd_T51 l0 (wrap64 (((rd_T51 l0 (wrap64 (a1 - 1))).f5) - 1))).f3).length c157_3)).setCell ⟨gb12, 4, none⟩ (.int .i64 ((rd_T51 l0 (wrap64 (((rd_T51 l0 (wrap64 (a1 - 1))).f5) - 1))).f4))).setCell ⟨gb12, 5, none⟩ (.int .i64 ((rd_T51 l0 (wrap64 (((rd_T51 l0 (wrap64 (a1 - 1))).f5) - 1))).f5))).setCell ⟨gb12, 6, none⟩ (.bool ((rd_T51 l0 (wrap64 (((rd_T51 l0 (wrap64 (a1 - 1))).f5) - 1))).f6)))) ?hg ?ho ?hn ?hr ?_; (case ho => rfl); (case hg => rfl); (case hn => rfl); (case hr => first | (go_simp; done) | (go_simp; rfl)); intro W13 hw; have hb : Below W6.heap.size W6 W13 := (by rw [hw]; exact bSet (bSet (bSet (bSet (bSet (bSet (bSet (b0_.out) (Nat.le_of_eq G12.out.symm)) (Nat.le_of_eq G12.out.symm)) (Nat.le_of_eq G12.out.symm)) (Nat.le_of_eq G12.out.symm)) (Nat.le_of_eq G12.out.symm)) (Nat.le_of_eq G12.out.symm)) (Nat.le_of_eq G12.out.symm)); clear b0_; have h_ := blk_set (blk_set (blk_set (blk_set (blk_set (blk_set (blk_set (BK12.out) 0 (.int .i64 ((rd_T51 l0 (wrap64 (((rd_T51 l0 (wrap64 (a1 - 1))).f5) - 1))).f0))) 1 (.int .i64 ((rd_T51 l0 (wrap64 (((rd_T51 l0 (wrap64 (a1 - 1))).f5) - 1))).f1))) 2 (.int .i64 ((rd_T51 l0 (wrap64 (((rd_T51 l0 (wrap64 (a1 - 1))).f5) - 1))).f2))) 3 (.slice A157_3 ((rd_T51 l0 (wrap64 (((rd_T51 l0 (wrap64 (a1 - 1))).f5) - 1))).f3).length c157_3)) 4 (.int .i64 ((rd_T51 l0 (wrap64 (((rd_T51 l0 (wrap64 (a1 - 1))).f5) - 1))).f4))) 5 (.int .i64 ((rd_T51 l0 (wrap64 (((rd_T51 l0 (wrap64 (a1 - 1))).f5) - 1))).f5))) 6 (.bool ((rd_T51 l0 (wrap64 (((rd_T51 l0 (wrap64 (a1 - 1))).f5) - 1))).f6)); rw [← hw] at h_; simp only [List.setIfInBounds_toArray, List.set_cons_zero, List.set_cons_succ] at h_; clear BK12 c_BK12 z_BK12 hw; replace BK5 := bK BK5 hb; replace c_BK5 := blk_cell BK5.out; replace z_BK5 := blk_frozen BK5.out; replace HB := bH HB hb; clear hb; have BK12 := Aside0.mk h_; have c_BK12 := blk_cell h_; have z_BK12 := blk_frozen h_; clear h_ G12))
     try clear y157_0 y157_1 y157_2 y157_3 y157_4 y157_5 y157_6
     replace H := H.out
     replace H := ifD H; rcases H with ⟨c14, H⟩ | ⟨c14, H⟩
     ·have c14_0 := decT c14; have c14_1 := eqT c14; have c14_2 := neT c14
      clear c14
      first | rw [c14_1] | rw [c14_2] | skip
      replace H := Option.bind_eq_some_iff.mp H
      obtain ⟨t159, hm, H⟩ := H
      try dsimp only at H
      replace H := Aside0.mk H
      have hcall := spec_l30Under.calls k _ _ _ _ _ _ _ W13 (Kd.C_below HR155_3.out HB.out) HC155_3.out (Kd.C_below HR157_3.out HB.out) HC157_3.out hm
      clear hm
      go_wp2_with fail
      refine hcall.mono ?_
      rintro e W15 ⟨rfl, hb⟩
      clear hcall
      replace BK5 := bK BK5 hb; replace c_BK5 := blk_cell BK5.out; replace z_BK5 := blk_frozen BK5.out
      replace BK12 := bK BK12 hb; replace c_BK12 := blk_cell BK12.out; replace z_BK12 := blk_frozen BK12.out
      replace HB := bH HB hb; clear hb
      replace H := H.out
      replace H := ifD H; rcases H with ⟨c16, H⟩ | ⟨c16, H⟩
      ·subst c16
       replace H := Option.bind_eq_some_iff.mp H
       obtain ⟨t160, hm, H⟩ := H
       try dsimp only at H
       replace H := Aside0.mk H
       have hcall := ih k (by omega) _ _ _ _ _ _ W15 (Kd.C_below HR0.out HB.out) HC0.out hm
       clear hm
       go_wp2_with fail
       refine hcall.mono ?_
       rintro e W17 ⟨rfl, hb⟩
       clear hcall
       replace BK5 := bK BK5 hb; replace c_BK5 := blk_cell BK5.out; replace z_BK5 := blk_frozen BK5.out
       replace BK12 := bK BK12 hb; replace c_BK12 := blk_cell BK12.out; replace z_BK12 := blk_frozen BK12.out
       replace HB := bH HB hb; clear hb
       replace H := H.out
       obtain rfl := Option.some.inj H
       clear H
       go_wp2
       go_ret
       exact ⟨rfl, HB.out⟩
      ·replace c16 := (Bool.not_eq_true _).mp c16
       subst c16
       obtain rfl := Option.some.inj H
       clear H
       go_wp2
       go_ret
       exact ⟨rfl, HB.out⟩
     ·have c14_0 := decF c14; have c14_1 := eqF c14; have c14_2 := neF c14
      clear c14
      first | rw [c14_1] | rw [c14_2] | skip
      obtain rfl := Option.some.inj H
      clear H
      go_wp2
      go_ret
      exact ⟨rfl, HB.out⟩
 ·replace c2 := (Bool.not_eq_true _).mp c2
  subst c2
  obtain rfl := Option.some.inj H
  clear H
  go_wp2
  go_ret
  exact ⟨rfl, HB.out⟩

/-! ### spec_IsGrantGood: function 113 -/
def spec_IsGrantGood.f (k : Nat) (l0 : List (S51)) (a1 : Int) (a2 : Int) : Option (Bool) := (spec_AreGrants.f k l0).bind fun t161 => (if t161 = true then ((spec_IsTime.f a2).bind fun t162 => (if t162 = true then ((spec_l30Good.f k l0 a1 a2).bind fun t163 => (some t163)) else (some false))) else (some false))
open Go.Proofs.YtplfbjbbnjlnkaaM in
set_option maxHeartbeats 8000000 in
set_option maxRecDepth 100000 in
theorem spec_IsGrantGood.calls (k : Nat) (A0 : Option Addr) (c0 : Nat) (l0 : List (S51)) (a1 : Int) (a2 : Int) (r : Bool) (w : World) (hr0 : Kd.C k51 w A0 l0.length l0) (hc0 : l0.length ≤ c0) (h : spec_IsGrantGood.f k l0 a1 a2 = some r) :
  Calls Try.prog 113 #[.slice A0 l0.length c0, .int .i64 a1, .int .i64 a2] w fun e w' => e = .returned (.bool r) ∧ Below w.heap.size w w' := by
 have HR0 := Aside0.mk hr0
 have HC0 := Aside0.mk hc0
 clear hr0 hc0
 have HB := Aside0.mk (Below.refl w.heap.size w)
 have H := h
 clear h
 unfold spec_IsGrantGood.f at H
 go_enter Try.func113, Try.ntmps113
 replace H := Option.bind_eq_some_iff.mp H
 obtain ⟨t161, hm, H⟩ := H
 try dsimp only at H
 replace H := Aside0.mk H
 have hcall := spec_AreGrants.calls k _ _ _ _ w (Kd.C_below HR0.out HB.out) HC0.out hm
 clear hm
 go_wp2_with fail
 refine hcall.mono ?_
 rintro e W1 ⟨rfl, hb⟩
 clear hcall
 replace HB := bH HB hb; clear hb
 replace H := H.out
 replace H := ifD H; rcases H with ⟨c2, H⟩ | ⟨c2, H⟩
 ·subst c2
  replace H := Option.bind_eq_some_iff.mp H
  obtain ⟨t162, hm, H⟩ := H
  try dsimp only at H
  replace H := Aside0.mk H
  have hcall := spec_IsTime.calls _ _ W1  hm
  clear hm
  go_wp2_with fail
  refine hcall.mono ?_
  rintro e W3 ⟨rfl, hb⟩
  clear hcall
  replace HB := bH HB hb; clear hb
  replace H := H.out
  replace H := ifD H; rcases H with ⟨c4, H⟩ | ⟨c4, H⟩
  ·subst c4
   replace H := Option.bind_eq_some_iff.mp H
   obtain ⟨t163, hm, H⟩ := H
   try dsimp only at H
   replace H := Aside0.mk H
   have hcall := spec_l30Good.calls k _ _ _ _ _ _ W3 (Kd.C_below HR0.out HB.out) HC0.out hm
   clear hm
   go_wp2_with fail
   refine hcall.mono ?_
   rintro e W5 ⟨rfl, hb⟩
   clear hcall
   replace HB := bH HB hb; clear hb
   replace H := H.out
   obtain rfl := Option.some.inj H
   clear H
   go_wp2
   go_ret
   exact ⟨rfl, HB.out⟩
  ·replace c4 := (Bool.not_eq_true _).mp c4
   subst c4
   obtain rfl := Option.some.inj H
   clear H
   go_wp2
   go_ret
   exact ⟨rfl, HB.out⟩
 ·replace c2 := (Bool.not_eq_true _).mp c2
  subst c2
  obtain rfl := Option.some.inj H
  clear H
  go_wp2
  go_ret
  exact ⟨rfl, HB.out⟩

/-! ### spec_ChainOf: function 162 -/
mutual
def spec_ChainOf.j0 : Nat → List (S51) → Int → List Int → Bool → Option (List Int)
 | 0, _, _, _, _ => none
 | k + 1, x0, x1, x5, x16 => if x16 = true then (some x5) else (spec_ChainOf.l0 k x0 x1 x5)
def spec_ChainOf.l0 : Nat → List (S51) → Int → List Int → Option (List Int)
 | 0, _, _, _ => none
 | k + 1, x0, x1, x5 => if x1 > 0 then (if x5.length < 17592186044416 then (if 0 ≤ (wrap64 (x1 - 1)) then (if (wrap64 (x1 - 1)) < (x0.length : Int) then (spec_ChainOf.l0 k x0 ((rd_T51 x0 (wrap64 (x1 - 1))).f5) (x5 ++ [x1])) else (none)) else (none)) else (none)) else (some x5)
end
def spec_ChainOf.f (k : Nat) (l0 : List (S51)) (a1 : Int) : Option (List Int) := (some (([] : List Int) : List Int)).bind fun y164 => ((spec_AreGrants.f k l0).bind fun t167 => (if t167 = true then ((spec_l1In.f a1 1 (l0.length : Int)).bind fun t168 => (spec_ChainOf.j0 k l0 a1 y164 (!t168))) else (spec_ChainOf.j0 k l0 a1 y164 true)))
set_option maxHeartbeats 8000000 in
set_option maxRecDepth 100000 in
theorem spec_ChainOf.calls (k : Nat) (A0 : Option Addr) (c0 : Nat) (l0 : List (S51)) (a1 : Int) (r : List Int) (w : World) (hr0 : Kd.C k51 w A0 l0.length l0) (hc0 : l0.length ≤ c0) (h : spec_ChainOf.f k l0 a1 = some r) :
  Calls Try.prog 162 #[.slice A0 l0.length c0, .int .i64 a1] w fun e w' => ∃ v0_ : Value, e = .returned (v0_) ∧ Kd.R (Kd.int .i64) 3 w' w.heap.size (fun _ => True) v0_ r ∧ Below w.heap.size w w' := by
 have HR0 := Aside0.mk hr0
 have HC0 := Aside0.mk hc0
 clear hr0 hc0
 have HB := Aside0.mk (Below.refl w.heap.size w)
 have H : ((some (([] : List Int) : List Int)).bind fun y164 => ((spec_AreGrants.f k l0).bind fun t167 => (if t167 = true then ((spec_l1In.f a1 1 (l0.length : Int)).bind fun t168 => (spec_ChainOf.j0 k l0 a1 y164 (!t168))) else (spec_ChainOf.j0 k l0 a1 y164 true)))) = some r := h
 clear h
 obtain ⟨y164, hy164⟩ : ∃ y_ : List Int, y_ = (([] : List Int)) := ⟨_, rfl⟩
 replace H : ((spec_AreGrants.f k l0).bind fun t167 => (if t167 = true then ((spec_l1In.f a1 1 (l0.length : Int)).bind fun t168 => (spec_ChainOf.j0 k l0 a1 y164 (!t168))) else (spec_ChainOf.j0 k l0 a1 y164 true))) = some r := by first | (rw [hy164]; with_reducible exact H) | (have H2_ := (Option.bind_some _ _).symm.trans H; rw [hy164]; with_reducible exact H2_) | (have H2_ := (Option.bind_some _ _).symm.trans H; with_reducible exact H2_) | with_reducible exact H | (rw [hy164]; exact H) | exact H
 have Ny164 := Aside0.mk hy164
 clear hy164
 have HC3 := Aside0.mk H
 clear H
 go_enter Try.func162, Try.ntmps162
 go_upto_region 2 with (first | ((with_reducible refine gate_dst (N := 6) rfl ?_); (try (refine gate_guard (by rfl) ?_; dsimp only)); refine Kd.R_lit (Kd.int .i64) _ 3 ?hg (N := 6) ?hd (xs := ([] : List Int)) (inner := []) (ok := fun _ => True) (okp := fun _ => True) ?hr ?hp (fun _ hk => hk) trivial (Below.refl _ _) (Nat.le_refl _) (by simp) ?_; (case hd => rfl); (case hg => rfl); (case hr => first | (go_simp; done) | (go_simp; rfl)); (case hp => exact (Reps.none _ _)); intro v165 w4 ho5 hb hg_ hnew_; clear hg_ hnew_; (first | rw [← Ny164.out] at ho5 | (simp only [Int.reduceToNat] at ho5; rw [← Ny164.out] at ho5)); have n0_ := Aside0.mk (Kd.R_lower ho5 (below_size (by repeat (first | (with_reducible first | exact HB.out | apply below_alloc | apply pw_below_drewN | apply below_drew1) | exact HB.out)))); have n1_ := Aside0.mk (below_step (by repeat (first | (with_reducible first | exact HB.out | apply below_alloc | apply pw_below_drewN | apply below_drew1) | exact HB.out)) hb); clear HB; have HO166 := n0_; have HB := n1_; clear n0_ n1_; clear hb ho5))
 (try simp only [Act.put, List.setIfInBounds_toArray, List.set_cons_zero, List.set_cons_succ])
 go_cut [16] (fun v16 wc => ∃ (kq : Nat) (x16_2 : Bool), v16 = .bool x16_2 ∧ Aside0 (spec_ChainOf.j0 kq l0 a1 y164 x16_2 = some r) ∧ Aside0 (kq ≤ k) ∧ Aside0 (Kd.R (Kd.int .i64) 3 wc w.heap.size (fun _ => True) v165 y164) ∧ Aside0 (Below w.heap.size w wc))
 case first =>
  have H := HC3.out
  clear HC3
  replace H := Option.bind_eq_some_iff.mp H
  obtain ⟨t167, A60, H⟩ := H
  replace H : (if t167 = true then ((spec_l1In.f a1 1 (l0.length : Int)).bind fun t168 => (spec_ChainOf.j0 k l0 a1 y164 (!t168))) else (spec_ChainOf.j0 k l0 a1 y164 true)) = some r := H
  have A6 := Aside0.mk A60
  clear A60
  by_cases c7 : t167 = true
  ·subst c7
   have H1 : ((spec_l1In.f a1 1 (l0.length : Int)).bind fun t168 => (spec_ChainOf.j0 k l0 a1 y164 (!t168))) = some r := by rw [if_pos rfl] at H; exact H
   clear H
   have H := H1
   clear H1
   replace H := Option.bind_eq_some_iff.mp H
   obtain ⟨t168, A80, H⟩ := H
   replace H : (spec_ChainOf.j0 k l0 a1 y164 (!t168)) = some r := H
   have A8 := Aside0.mk A80
   clear A80
   have H' := Aside0.mk H
   clear H
   go_wp2_with (first | ((with_reducible refine gate_callee (f := 95) rfl ?_); refine goesL_ (some 8) rfl rfl Try.func95 (by kernel_rfl) rfl #[.slice A0 l0.length c0] rfl (by (try simp only [List.map_toArray, List.map_cons, List.map_nil]); first | done | rfl | (simp only [List.length_drop, List.length_take]; rfl)) ?_; (with_reducible refine (spec_AreGrants.calls k _ _ l0 true _ ?side1 ?side2 A6.out).mono ?_); (case side1 => repeat (first | exact (Kd.C_below HR0.out HB.out) | (with_reducible refine Kd.C_alloc ?_ _) | (with_reducible refine Kd.C_drewN ?_ _) | (with_reducible refine Kd.C_drew ?_))); (case side2 => exact HC0.out); rintro e w9 ⟨rfl, hb⟩; refine ⟨_, rfl, ?_⟩; have n0_ := Aside0.mk (Kd.R_below (by (with_reducible repeat (first | apply Kd.R_alloc | apply Kd.R_drewN | apply Kd.R_drew)); exact HO166.out) hb); have n1_ := Aside0.mk (below_step (by repeat (first | (with_reducible first | exact HB.out | apply below_alloc | apply pw_below_drewN | apply below_drew1) | exact HB.out)) hb); clear HO166; clear HB; have HO166 := n0_; have HB := n1_; clear n0_ n1_; (try clear hb); (try clear hb2); (try clear hk); (try clear hi)) | (go_at_call 96; (with_reducible refine (spec_l1In.calls a1 1 (l0.length : Int) t168 _ A8.out).mono ?_); rintro e w10 ⟨rfl, hb⟩; have n0_ := Aside0.mk (Kd.R_below (by (with_reducible repeat (first | apply Kd.R_alloc | apply Kd.R_drewN | apply Kd.R_drew)); exact HO166.out) hb); have n1_ := Aside0.mk (below_step (by repeat (first | (with_reducible first | exact HB.out | apply below_alloc | apply pw_below_drewN | apply below_drew1) | exact HB.out)) hb); clear HO166; clear HB; have HO166 := n0_; have HB := n1_; clear n0_ n1_; (try clear hb); (try clear hb2); (try clear hk); (try clear hi)))
   go_meet
   case rel => exact ⟨_, (!t168), (by first | rfl | (simp; done) | (simp [*]; done)), H', ⟨by first | omega | exact Nat.le_refl _⟩, ⟨by (with_reducible repeat (first | apply Kd.R_alloc | apply Kd.R_drewN | apply Kd.R_drew)); exact HO166.out⟩, ⟨by repeat (first | (with_reducible first | exact HB.out | apply below_alloc | apply pw_below_drewN | apply below_drew1) | exact HB.out)⟩⟩
  ·replace c7 := Bool.eq_false_iff.mpr c7
   subst c7
   have H1 : (spec_ChainOf.j0 k l0 a1 y164 true) = some r := by rw [if_neg (show ¬ (false = true) by decide)] at H; exact H
   clear H
   have H := H1
   clear H1
   have H' := Aside0.mk H
   clear H
   go_wp2_with (first | ((with_reducible refine gate_callee (f := 95) rfl ?_); refine goesL_ (some 8) rfl rfl Try.func95 (by kernel_rfl) rfl #[.slice A0 l0.length c0] rfl (by (try simp only [List.map_toArray, List.map_cons, List.map_nil]); first | done | rfl | (simp only [List.length_drop, List.length_take]; rfl)) ?_; (with_reducible refine (spec_AreGrants.calls k _ _ l0 false _ ?side1 ?side2 A6.out).mono ?_); (case side1 => repeat (first | exact (Kd.C_below HR0.out HB.out) | (with_reducible refine Kd.C_alloc ?_ _) | (with_reducible refine Kd.C_drewN ?_ _) | (with_reducible refine Kd.C_drew ?_))); (case side2 => exact HC0.out); rintro e w11 ⟨rfl, hb⟩; refine ⟨_, rfl, ?_⟩; have n0_ := Aside0.mk (Kd.R_below (by (with_reducible repeat (first | apply Kd.R_alloc | apply Kd.R_drewN | apply Kd.R_drew)); exact HO166.out) hb); have n1_ := Aside0.mk (below_step (by repeat (first | (with_reducible first | exact HB.out | apply below_alloc | apply pw_below_drewN | apply below_drew1) | exact HB.out)) hb); clear HO166; clear HB; have HO166 := n0_; have HB := n1_; clear n0_ n1_; (try clear hb); (try clear hb2); (try clear hk); (try clear hi)))
   go_meet
   case rel => exact ⟨_, (true), (by first | rfl | (simp; done) | (simp [*]; done)), H', ⟨by first | omega | exact Nat.le_refl _⟩, ⟨by (with_reducible repeat (first | apply Kd.R_alloc | apply Kd.R_drewN | apply Kd.R_drew)); exact HO166.out⟩, ⟨by repeat (first | (with_reducible first | exact HB.out | apply below_alloc | apply pw_below_drewN | apply below_drew1) | exact HB.out)⟩⟩
 case rest =>
  clear HC3
  try clear c1
  try clear p2
  try clear c7
  try clear c9
  obtain ⟨kq, x16_2, rfl, HA, HJ2, HO_5, HB⟩ := hcut
  cases kq with
  | zero => exact absurd HA.out (by simp [spec_ChainOf.j0])
  | succ kj2 =>
   have H := HA.out
   clear HA
   simp only [spec_ChainOf.j0] at H
   by_cases c12 : x16_2 = true
   ·subst c12
    have H1 : (some y164) = some r := by rw [if_pos rfl] at H; exact H
    clear H
    have H := H1
    clear H1
    obtain rfl := Option.some.inj H
    go_wp2
    go_ret
    exact ⟨_, by first | rfl | (simp [errW_none, errW_some] <;> rfl) | (simp [*, errW_none, errW_some] <;> rfl), by (with_reducible repeat (first | apply Kd.R_alloc | apply Kd.R_drewN | apply Kd.R_drew)); exact HO_5.out, by repeat (first | (with_reducible first | exact HB.out | apply below_alloc | apply pw_below_drewN | apply below_drew1) | exact HB.out)⟩
   ·replace c12 := Bool.eq_false_iff.mpr c12
    subst c12
    have H1 : (spec_ChainOf.l0 kj2 l0 a1 y164) = some r := by rw [if_neg (show ¬ (false = true) by decide)] at H; exact H
    clear H
    have H := H1
    clear H1
    have H' := Aside0.mk H
    clear H
    go_wp2
    go_loopg [1, 5] kj2 (fun kq v1 v5 w' => ∃ (x1_2 : Int) (x5_2 : List Int), v1 = .int .i64 x1_2 ∧ Aside0 (spec_ChainOf.l0 kq l0 x1_2 x5_2 = some r) ∧ Aside0 (kq ≤ kj2) ∧ Aside0 (Kd.R (Kd.int .i64) 3 w' w.heap.size (fun _ => True) v5 x5_2) ∧ Aside0 (Below w.heap.size w w'))
    case atStart => exact ⟨(a1), (y164), (by first | rfl | (simp; done) | (simp [*]; done)), H', ⟨Nat.le_refl _⟩, ⟨by (with_reducible repeat (first | apply Kd.R_alloc | apply Kd.R_drewN | apply Kd.R_drew)); exact HO_5.out⟩, ⟨by repeat (first | (with_reducible first | exact HB.out | apply below_alloc | apply pw_below_drewN | apply below_drew1) | exact HB.out)⟩⟩
    case round =>
     clear H'
     try clear c1
     try clear p2
     try clear c7
     try clear c9
     try clear c12
     try clear p2
     obtain ⟨x1_2, x5_2, rfl, HA, HK2, HO_5, HB⟩ := hrel
     cases gk with
     | zero => exact absurd HA.out (by simp [spec_ChainOf.l0])
     | succ k2 =>
      have H := HA.out
      clear HA
      simp only [spec_ChainOf.l0] at H
      replace H := ifD H; rcases H with ⟨c13, H⟩ | ⟨c13, H⟩
      ·have c13b0 : decide (0 < x1_2) = true := decide_eq_true c13
       clear c13
       replace H := ifN H; obtain ⟨c14, H⟩ := H
       have LMc14 := Aside0.mk c14
       clear c14
       obtain ⟨y169, hy169⟩ : ∃ y_ : List Int, y_ = (x5_2 ++ [x1_2]) := ⟨_, rfl⟩
       replace H : (if 0 ≤ (wrap64 (x1_2 - 1)) then (if (wrap64 (x1_2 - 1)) < (l0.length : Int) then (spec_ChainOf.l0 k2 l0 ((rd_T51 l0 (wrap64 (x1_2 - 1))).f5) y169) else (none)) else (none)) = some r := by first | (rw [hy169]; with_reducible exact H) | (have H2_ := (Option.bind_some _ _).symm.trans H; rw [hy169]; with_reducible exact H2_) | (have H2_ := (Option.bind_some _ _).symm.trans H; with_reducible exact H2_) | with_reducible exact H | (rw [hy169]; exact H) | exact H
       have Ny169 := Aside0.mk hy169
       clear hy169
       obtain ⟨ji15, hji15⟩ : ∃ j_ : Int, (wrap64 (x1_2 - 1)) = j_ := ⟨_, rfl⟩
       replace H : (if 0 ≤ (ji15) then (if (ji15) < (l0.length : Int) then (spec_ChainOf.l0 k2 l0 ((rd_T51 l0 (ji15)).f5) y169) else (none)) else (none)) = some r := by first | (rw [hji15] at H; exact H) | (simp only [hji15] at H ⊢; exact H)
       have hji15w : (IntKind.i64.wrap (x1_2 - 1)) = ji15 := (i64_w _).trans hji15
       replace H := ifN H; obtain ⟨c16, H⟩ := H
       have c16b0 : decide (0 ≤ (ji15)) = true := decide_eq_true c16
       clear c16
       replace H := ifN H; obtain ⟨c17, H⟩ := H
       have c17b0 : decide ((ji15) < (l0.length : Int)) = true := decide_eq_true c17
       clear c17
       have H' := Aside0.mk H
       clear H
       go_wp2_with (first | ((with_reducible refine gate_builtin (b := .append) (xs := #[.tmp 20, .tmp 22]) rfl ?_); (try (refine gate_guard (by rfl) ?_; dsimp only)); at_builtin; refine Kd.R_append (Kd.int .i64) (w0 := w) w.heap.size rfl (.tmp 20) (.tmp 22) 46 3 (.int .i64 0) 8 rfl Try.underlying46 info3 rfl (by decide) (by omega) u5 x5_2 x1_2 [.int .i64 x1_2] (fun _ => True) (fun _ => False) rfl rfl ?aP (fun _ hk => hk.elim) ?aF ?aO ?aB ?aS ?aL ?_; (case aP => exact rfl); (case aB => exact (by repeat (first | (with_reducible first | exact HB.out | apply below_alloc | apply pw_below_drewN | apply below_drew1) | exact HB.out))); (case aF => exact (fun _ _ => trivial)); (case aO => exact (by (with_reducible repeat (first | apply Kd.R_alloc | apply Kd.R_drewN | apply Kd.R_drew)); exact HO_5.out)); (case aS => exact (below_size (by repeat (first | (with_reducible first | exact HB.out | apply below_alloc | apply pw_below_drewN | apply below_drew1) | exact HB.out)))); (case aL => have := LMc14.out; omega); intro v170 w18 ho hb hg hat; rw [← Ny169.out] at ho; have n0_ := Aside0.mk (hb); have n1_ := Aside0.mk (ho); clear HB; clear HO_5; have HB := n0_; have HO171 := n1_; clear n0_ n1_; clear ho hb hg hat; have p172 : 0 ≤ ((ji15) : Int) := of_decide_eq_true (by first | (with_reducible assumption) | assumption); have q172 : (ji15) < (l0.length : Int) := of_decide_eq_true (by first | (with_reducible assumption) | assumption); obtain ⟨ad172, A172_3, c172_3, e172, hx172_0, hx172_1, hx172_2, hx172_3, hx172_4, hx172_5, hx172_6, hl172_3, hi172_3⟩ := at_T51 HR0.out (ji15) p172 q172; cases e172; replace hx172_0 := (HB.out.cell (World.block_lt_of_cell? w _ hx172_0)).trans hx172_0; replace hx172_1 := (HB.out.cell (World.block_lt_of_cell? w _ hx172_1)).trans hx172_1; replace hx172_2 := (HB.out.cell (World.block_lt_of_cell? w _ hx172_2)).trans hx172_2; replace hx172_3 := (HB.out.cell (World.block_lt_of_cell? w _ hx172_3)).trans hx172_3; replace hx172_4 := (HB.out.cell (World.block_lt_of_cell? w _ hx172_4)).trans hx172_4; replace hx172_5 := (HB.out.cell (World.block_lt_of_cell? w _ hx172_5)).trans hx172_5; replace hx172_6 := (HB.out.cell (World.block_lt_of_cell? w _ hx172_6)).trans hx172_6; have HR172_3 := Aside0.mk hi172_3; have HC172_3 := Aside0.mk hl172_3; clear hi172_3 hl172_3; replace p172 := eq_true p172; replace q172 := eq_true q172))
       go_roundg k2
       case measure => have := HJ2.out; have := HK2.out; omega
       case rel => exact ⟨((rd_T51 l0 (ji15)).f5), (y169), (by first | rfl | (simp; done) | (simp only [← hji15] <;> (first | rfl | simp)) | (simp [*]; done)), H', ⟨by have := HJ2.out; have := HK2.out; omega⟩, ⟨by (with_reducible repeat (first | apply Kd.R_alloc | apply Kd.R_drewN | apply Kd.R_drew)); exact HO171.out⟩, ⟨by repeat (first | (with_reducible first | exact HB.out | apply below_alloc | apply pw_below_drewN | apply below_drew1) | exact HB.out)⟩⟩
      ·have c13b0 : decide (0 < x1_2) = false := decide_eq_false c13
       clear c13
       obtain rfl := Option.some.inj H
       go_wp2
       go_ret
       exact ⟨_, by first | rfl | (simp [errW_none, errW_some] <;> rfl) | (simp [*, errW_none, errW_some] <;> rfl), by (with_reducible repeat (first | apply Kd.R_alloc | apply Kd.R_drewN | apply Kd.R_drew)); exact HO_5.out, by repeat (first | (with_reducible first | exact HB.out | apply below_alloc | apply pw_below_drewN | apply below_drew1) | exact HB.out)⟩

/-! ### spec_RootOf: function 114 -/
def spec_RootOf.f (k : Nat) (l0 : List (S51)) (a1 : Int) : Option (Int) := (spec_ChainOf.f k l0 a1).bind fun t173 => (if (t173.length : Int) = 0 then (some 0) else (if 0 ≤ (wrap64 ((t173.length : Int) - 1)) then (if (wrap64 ((t173.length : Int) - 1)) < (t173.length : Int) then (if 0 ≤ (wrap64 ((rd t173 (wrap64 ((t173.length : Int) - 1))) - 1)) then (if (wrap64 ((rd t173 (wrap64 ((t173.length : Int) - 1))) - 1)) < (l0.length : Int) then (some ((rd_T51 l0 (wrap64 ((rd t173 (wrap64 ((t173.length : Int) - 1))) - 1))).f1)) else (none)) else (none)) else (none)) else (none)))
set_option maxHeartbeats 8000000 in
set_option maxRecDepth 100000 in
theorem spec_RootOf.calls (k : Nat) (A0 : Option Addr) (c0 : Nat) (l0 : List (S51)) (a1 : Int) (r : Int) (w : World) (hr0 : Kd.C k51 w A0 l0.length l0) (hc0 : l0.length ≤ c0) (h : spec_RootOf.f k l0 a1 = some r) :
  Calls Try.prog 114 #[.slice A0 l0.length c0, .int .i64 a1] w fun e w' => e = .returned (.int .i64 r) ∧ Below w.heap.size w w' := by
 have HR0 := Aside0.mk hr0
 have HC0 := Aside0.mk hc0
 clear hr0 hc0
 have HB := Aside0.mk (Below.refl w.heap.size w)
 have H : ((spec_ChainOf.f k l0 a1).bind fun t173 => (if (t173.length : Int) = 0 then (some 0) else (if 0 ≤ (wrap64 ((t173.length : Int) - 1)) then (if (wrap64 ((t173.length : Int) - 1)) < (t173.length : Int) then (if 0 ≤ (wrap64 ((rd t173 (wrap64 ((t173.length : Int) - 1))) - 1)) then (if (wrap64 ((rd t173 (wrap64 ((t173.length : Int) - 1))) - 1)) < (l0.length : Int) then (some ((rd_T51 l0 (wrap64 ((rd t173 (wrap64 ((t173.length : Int) - 1))) - 1))).f1)) else (none)) else (none)) else (none)) else (none)))) = some r := h
 clear h
 replace H := Option.bind_eq_some_iff.mp H
 obtain ⟨t173, A30, H⟩ := H
 replace H : (if (t173.length : Int) = 0 then (some 0) else (if 0 ≤ (wrap64 ((t173.length : Int) - 1)) then (if (wrap64 ((t173.length : Int) - 1)) < (t173.length : Int) then (if 0 ≤ (wrap64 ((rd t173 (wrap64 ((t173.length : Int) - 1))) - 1)) then (if (wrap64 ((rd t173 (wrap64 ((t173.length : Int) - 1))) - 1)) < (l0.length : Int) then (some ((rd_T51 l0 (wrap64 ((rd t173 (wrap64 ((t173.length : Int) - 1))) - 1))).f1)) else (none)) else (none)) else (none)) else (none))) = some r := H
 have A3 := Aside0.mk A30
 clear A30
 replace H := ifD H; rcases H with ⟨c4, H⟩ | ⟨c4, H⟩
 ·have c4b0 : ((t173.length : Int) == 0) = true := beq_iff_eq.mpr c4
  have c4b1 : ((t173.length : Int) != 0) = false := bne_eq_false_iff_eq.mpr c4
  clear c4
  obtain rfl := Option.some.inj H
  go_enter Try.func114, Try.ntmps114
  go_wp2_with (first | ((with_reducible refine gate_callee (f := 162) rfl ?_); refine goesL_ (some 8) rfl rfl Try.func162 (by kernel_rfl) rfl #[.slice A0 l0.length c0, .int .i64 a1] rfl (by (try simp only [List.map_toArray, List.map_cons, List.map_nil]); first | done | rfl | (simp only [List.length_drop, List.length_take]; rfl)) ?_; (with_reducible refine (spec_ChainOf.calls k _ _ l0 a1 t173 _ ?side1 ?side2 A3.out).mono ?_); (case side1 => repeat (first | exact HR0.out | (with_reducible refine Kd.C_alloc ?_ _) | (with_reducible refine Kd.C_drewN ?_ _) | (with_reducible refine Kd.C_drew ?_))); (case side2 => exact HC0.out); rintro e w5 ⟨v174, rfl, ho0, hb⟩; refine ⟨_, rfl, ?_⟩; have n0_ := Aside0.mk (Kd.R_lower ho0 (below_size (by repeat (first | (with_reducible first | exact HB.out | apply below_alloc | apply pw_below_drewN | apply below_drew1) | exact HB.out)))); have n1_ := Aside0.mk (below_step (by repeat (first | (with_reducible first | exact HB.out | apply below_alloc | apply pw_below_drewN | apply below_drew1) | exact HB.out)) hb); clear HB; have HO175 := n0_; have HB := n1_; clear n0_ n1_; (try clear hb); (try clear hb2); (try clear hk); (try clear hi); (try clear ho0); obtain ⟨Ao6, co6, eo6⟩ := Kd.R_slice HO175.out; subst eo6))
  go_ret
  exact ⟨by first | rfl | (simp [errW_none, errW_some] <;> rfl) | (simp [*, errW_none, errW_some] <;> rfl), by repeat (first | (with_reducible first | exact HB.out | apply below_alloc | apply pw_below_drewN | apply below_drew1) | exact HB.out)⟩
 ·have c4b0 : ((t173.length : Int) == 0) = false := beq_eq_false_iff_ne.mpr c4
  have c4b1 : ((t173.length : Int) != 0) = true := bne_iff_ne.mpr c4
  have c4b2 : ¬ (t173 = []) := fun h_ => c4 (by rw [h_]; rfl)
  obtain ⟨ji7, hji7⟩ : ∃ j_ : Int, (wrap64 ((t173.length : Int) - 1)) = j_ := ⟨_, rfl⟩
  replace H : (if 0 ≤ (ji7) then (if (ji7) < (t173.length : Int) then (if 0 ≤ (wrap64 ((rd t173 (ji7)) - 1)) then (if (wrap64 ((rd t173 (ji7)) - 1)) < (l0.length : Int) then (some ((rd_T51 l0 (wrap64 ((rd t173 (ji7)) - 1))).f1)) else (none)) else (none)) else (none)) else (none)) = some r := by first | (rw [hji7] at H; exact H) | (simp only [hji7] at H ⊢; exact H)
  (try rw [hji7] at A3)
  have hji7w : (IntKind.i64.wrap ((t173.length : Int) - 1)) = ji7 := (i64_w _).trans hji7
  replace H := ifN H; obtain ⟨c8, H⟩ := H
  have c8b0 : decide (0 ≤ (ji7)) = true := decide_eq_true c8
  clear c8
  replace H := ifN H; obtain ⟨c9, H⟩ := H
  have c9b0 : decide ((ji7) < (t173.length : Int)) = true := decide_eq_true c9
  clear c9
  obtain ⟨ji10, hji10⟩ : ∃ j_ : Int, (wrap64 ((rd t173 (ji7)) - 1)) = j_ := ⟨_, rfl⟩
  replace H : (if 0 ≤ (ji10) then (if (ji10) < (l0.length : Int) then (some ((rd_T51 l0 (ji10)).f1)) else (none)) else (none)) = some r := by first | (rw [hji10] at H; exact H) | (simp only [hji10] at H ⊢; exact H)
  (try rw [hji10] at A3)
  have hji10w : (IntKind.i64.wrap ((rd t173 (ji7)) - 1)) = ji10 := (i64_w _).trans hji10
  replace H := ifN H; obtain ⟨c11, H⟩ := H
  have c11b0 : decide (0 ≤ (ji10)) = true := decide_eq_true c11
  clear c11
  replace H := ifN H; obtain ⟨c12, H⟩ := H
  have c12b0 : decide ((ji10) < (l0.length : Int)) = true := decide_eq_true c12
  clear c12
  obtain rfl := Option.some.inj H
  go_enter Try.func114, Try.ntmps114
  go_wp2_with (first | ((with_reducible refine gate_callee (f := 162) rfl ?_); refine goesL_ (some 8) rfl rfl Try.func162 (by kernel_rfl) rfl #[.slice A0 l0.length c0, .int .i64 a1] rfl (by (try simp only [List.map_toArray, List.map_cons, List.map_nil]); first | done | rfl | (simp only [List.length_drop, List.length_take]; rfl)) ?_; (with_reducible refine (spec_ChainOf.calls k _ _ l0 a1 t173 _ ?side1 ?side2 A3.out).mono ?_); (case side1 => repeat (first | exact HR0.out | (with_reducible refine Kd.C_alloc ?_ _) | (with_reducible refine Kd.C_drewN ?_ _) | (with_reducible refine Kd.C_drew ?_))); (case side2 => exact HC0.out); rintro e w13 ⟨v174, rfl, ho0, hb⟩; refine ⟨_, rfl, ?_⟩; have n0_ := Aside0.mk (Kd.R_lower ho0 (below_size (by repeat (first | (with_reducible first | exact HB.out | apply below_alloc | apply pw_below_drewN | apply below_drew1) | exact HB.out)))); have n1_ := Aside0.mk (below_step (by repeat (first | (with_reducible first | exact HB.out | apply below_alloc | apply pw_below_drewN | apply below_drew1) | exact HB.out)) hb); clear HB; have HO175 := n0_; have HB := n1_; clear n0_ n1_; (try clear hb); (try clear hb2); (try clear hk); (try clear hi); (try clear ho0); obtain ⟨Ao14, co14, eo14⟩ := Kd.R_slice HO175.out; subst eo14; have p176 : 0 ≤ ((ji7) : Int) := of_decide_eq_true (by first | (with_reducible assumption) | assumption); have q176 : (ji7) < (t173.length : Int) := of_decide_eq_true (by first | (with_reducible assumption) | assumption); obtain ⟨ad176, e176, hx176_0⟩ := Kd.at_int (Kd.R_reads' HO175.out).2.2 (ji7) p176 q176; cases e176; replace p176 := eq_true p176; replace q176 := eq_true q176; have p177 : 0 ≤ ((ji10) : Int) := of_decide_eq_true (by first | (with_reducible assumption) | assumption); have q177 : (ji10) < (l0.length : Int) := of_decide_eq_true (by first | (with_reducible assumption) | assumption); obtain ⟨ad177, A177_3, c177_3, e177, hx177_0, hx177_1, hx177_2, hx177_3, hx177_4, hx177_5, hx177_6, hl177_3, hi177_3⟩ := at_T51 HR0.out (ji10) p177 q177; cases e177; replace hx177_0 := (HB.out.cell (World.block_lt_of_cell? w _ hx177_0)).trans hx177_0; replace hx177_1 := (HB.out.cell (World.block_lt_of_cell? w _ hx177_1)).trans hx177_1; replace hx177_2 := (HB.out.cell (World.block_lt_of_cell? w _ hx177_2)).trans hx177_2; replace hx177_3 := (HB.out.cell (World.block_lt_of_cell? w _ hx177_3)).trans hx177_3; replace hx177_4 := (HB.out.cell (World.block_lt_of_cell? w _ hx177_4)).trans hx177_4; replace hx177_5 := (HB.out.cell (World.block_lt_of_cell? w _ hx177_5)).trans hx177_5; replace hx177_6 := (HB.out.cell (World.block_lt_of_cell? w _ hx177_6)).trans hx177_6; have HR177_3 := Aside0.mk hi177_3; have HC177_3 := Aside0.mk hl177_3; clear hi177_3 hl177_3; replace p177 := eq_true p177; replace q177 := eq_true q177))
  go_ret
  exact ⟨by first | rfl | (simp [errW_none, errW_some] <;> rfl) | (simp only [← hji7, ← hji10]; first | rfl | (simp [errW_none, errW_some] <;> rfl)) | (simp [*, errW_none, errW_some] <;> rfl), by repeat (first | (with_reducible first | exact HB.out | apply below_alloc | apply pw_below_drewN | apply below_drew1) | exact HB.out)⟩
end Go.Proofs.Ytplfbjbbnjlnkaa.QFnDelegated
