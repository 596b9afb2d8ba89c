/- The machine side of FnExactDeclareEmergency: what each function that it reaches computes, and that the machine's call gives just that. -/
import Derived.Test.YtplfbjbbnjlnkaaQFnExactDeclareEmergencyx0
import Derived.Test.YtplfbjbbnjlnkaaQFnExactDeclareEmergencyx2
import Derived.Test.YtplfbjbbnjlnkaaQFnExactDeclareEmergencyx3
namespace Go.Proofs.Ytplfbjbbnjlnkaa.QFnExactDeclareEmergency
open Go.RowKit Go.Proofs.YtplfbjbbnjlnkaaW.PrintWords Go.Proofs.YtplfbjbbnjlnkaaW.PrintLast Go.Proofs.YtplfbjbbnjlnkaaW.PrintMore
attribute [local go_sem] max2_int min2_int max_two min_two max_three min_three max_four min_four   -- for this text's walks alone
set_option linter.unusedVariables false
set_option linter.unusedSimpArgs false

/-! ### spec_AreEmergencies: function 41 -/
def spec_AreEmergencies.l0 : Nat → List (S144) → Int → List Int → List Int → Int → Option (Bool)
  | 0, _, _, _, _, _ => none
  | k + 1, x1, x5, x177000, x177001, x177002 => if x5 < (x1.length : Int) then (if 0 ≤ x5 then (if ((rd_T144 x1 x5).f0) = (wrap64 (x5 + 1)) then ((spec_l13Has.f k x177000 ((rd_T144 x1 x5).f1)).bind fun t179 => (if t179 = true then ((spec_IsTime.f ((rd_T144 x1 x5).f2)).bind fun t180 => (if t180 = true then (if x5 > 0 then (if 0 ≤ (wrap64 (x5 - 1)) then (if (wrap64 (x5 - 1)) < (x1.length : Int) then (if ((rd_T144 x1 (wrap64 (x5 - 1))).f2) > ((rd_T144 x1 x5).f2) then (some false) else ((spec_EndOf.f ((rd_T144 x1 x5).f2) x177002).bind fun t182 => (if ((rd_T144 x1 x5).f3) = t182 then ((spec_l30Under.f k ((rd_T144 x1 x5).f4) x177001).bind fun t183 => (if t183 = true then ((spec_DebtsOf.f k x1 ((rd_T144 x1 x5).f1)).bind fun t184 => (if (t184.length : Int) > 1 then (some false) else (spec_AreEmergencies.l0 k x1 (wrap64 (x5 + 1)) x177000 x177001 x177002))) else (some false))) else (some false)))) else (none)) else (none)) else ((spec_EndOf.f ((rd_T144 x1 x5).f2) x177002).bind fun t187 => (if ((rd_T144 x1 x5).f3) = t187 then ((spec_l30Under.f k ((rd_T144 x1 x5).f4) x177001).bind fun t188 => (if t188 = true then ((spec_DebtsOf.f k x1 ((rd_T144 x1 x5).f1)).bind fun t189 => (if (t189.length : Int) > 1 then (some false) else (spec_AreEmergencies.l0 k x1 (wrap64 (x5 + 1)) x177000 x177001 x177002))) else (some false))) else (some false)))) else (some false))) else (some false))) else (some false)) else (none)) else ((spec_IsPlan.f k x177000 x177001 x177002).bind fun t192 => (if t192 = true then (some (decide ((x1.length : Int) ≤ 8))) else (some false)))
def spec_AreEmergencies.f (k : Nat) (l0_0 : List Int) (l0_1 : List Int) (a0_2 : Int) (l1 : List (S144)) : Option (Bool) := spec_AreEmergencies.l0 k l1 0 l0_0 l0_1 a0_2
open Go.Proofs.YtplfbjbbnjlnkaaM in
set_option maxHeartbeats 8000000 in
set_option maxRecDepth 100000 in
theorem spec_AreEmergencies.calls (k : Nat) (A0_0 : Option Addr) (c0_0 : Nat) (l0_0 : List Int) (A0_1 : Option Addr) (c0_1 : Nat) (l0_1 : List Int) (a0_2 : Int) (A1 : Option Addr) (c1 : Nat) (l1 : List (S144)) (r : Bool) (w : World) (hr0_0 : Kd.C (Kd.int .i64) w A0_0 l0_0.length l0_0) (hc0_0 : l0_0.length ≤ c0_0) (hr0_1 : Kd.C (Kd.int .i64) w A0_1 l0_1.length l0_1) (hc0_1 : l0_1.length ≤ c0_1) (hr1 : Kd.C k144 w A1 l1.length l1) (hc1 : l1.length ≤ c1) (h : spec_AreEmergencies.f k l0_0 l0_1 a0_2 l1 = some r) :
    Calls Try.prog 41 #[.agg #[.slice A0_0 l0_0.length c0_0, .slice A0_1 l0_1.length c0_1, .int .i64 a0_2], .slice A1 l1.length c1] w fun e w' => e = .returned (.bool r) ∧ Below w.heap.size w w' := by
  have HR0_0 := Aside0.mk hr0_0
  have HC0_0 := Aside0.mk hc0_0
  clear hr0_0 hc0_0
  have HR0_1 := Aside0.mk hr0_1
  have HC0_1 := Aside0.mk hc0_1
  clear hr0_1 hc0_1
  have HR1 := Aside0.mk hr1
  have HC1 := Aside0.mk hc1
  clear hr1 hc1
  have HB := Aside0.mk (Below.refl w.heap.size w)
  have H := h
  clear h
  unfold spec_AreEmergencies.f at H
  have hu62 := Try.underlying62
  have hu144 := Try.underlying144
  go_enter Try.func41, Try.ntmps41
  replace H := Aside0.mk H
  go_upto_region 1 with (first | ((with_reducible refine gate_dst (N := 2) rfl ?_); refine box_event ?hg (N := 2) ?hd (cs := #[.slice A0_0 l0_0.length c0_0, .slice A0_1 l0_1.length c0_1, .int .i64 a0_2]) (t := 62) ?hr ?_; (case hd => rfl); (case hg => rfl); (case hr => first | (go_simp; done) | (go_simp; rfl)); intro gb1 hg W1 hbox hb; replace HB := bH HB hb; clear hb; have BK1 := Aside0.mk hbox; have c_BK1 := blk_cell hbox; have z_BK1 := blk_frozen hbox; clear hg hbox))
  replace H := H.out
  replace H := Aside0.mk H
  go_wp2
  go_loopg [5] k (fun kq v5 w' => ∃ (x5_2 : Int), v5 = .int .i64 x5_2 ∧ Aside0 (spec_AreEmergencies.l0 kq l1 x5_2 l0_0 l0_1 a0_2 = some r) ∧ Aside0 (kq ≤ k) ∧ Aside0 (w'.heap[gb1]? = some (.cells #[.slice A0_0 l0_0.length c0_0, .slice A0_1 l0_1.length c0_1, .int .i64 a0_2] 62 (0, 0))) ∧ Aside0 (Below w.heap.size w w'))
  case atStart => exact ⟨(0), (by first | rfl | (simp; done) | (simp [*]; done)), H, ⟨Nat.le_refl _⟩, BK1, HB⟩
  case round =>
    clear H HB BK1 c_BK1 z_BK1
    obtain ⟨x5_2, rfl, HA, Hk2, BK1, HB⟩ := hrel
    have c_BK1 := blk_cell BK1.out; have z_BK1 := blk_frozen BK1.out
    cases gk with
    | zero => exact absurd HA.out (by simp [spec_AreEmergencies.l0])
    | succ k2 =>
      have H := HA.out
      clear HA
      simp only [spec_AreEmergencies.l0] at H
      by_cases c3 : x5_2 < (l1.length : Int)
      · rw [if_pos c3] at H
        have c3_0 := decT c3
        replace c3 := Aside0.mk c3
        first | rw [c3_0] | skip
        by_cases c4 : 0 ≤ x5_2
        · rw [if_pos c4] at H
          have c4_0 := decT c4
          replace c4 := Aside0.mk c4
          first | rw [c4_0] | skip
          have p177 : 0 ≤ (x5_2 : Int) := (of_decide_eq_true (by assumption))
          have q177 : x5_2 < (l1.length : Int) := (of_decide_eq_true (by assumption))
          obtain ⟨ad177, A177_4, c177_4, e177, hx177_0, hx177_1, hx177_2, hx177_3, hx177_4, hx177_5, hl177_4, hi177_4⟩ := at_T144 HR1.out x5_2 p177 q177
          cases e177
          have HR177_4 := Aside0.mk hi177_4; have HC177_4 := Aside0.mk hl177_4; clear hi177_4 hl177_4
          replace hx177_0 := Aside0.mk hx177_0
          have y177_0 := xC HB hx177_0
          replace hx177_1 := Aside0.mk hx177_1
          have y177_1 := xC HB hx177_1
          replace hx177_2 := Aside0.mk hx177_2
          have y177_2 := xC HB hx177_2
          replace hx177_3 := Aside0.mk hx177_3
          have y177_3 := xC HB hx177_3
          replace hx177_4 := Aside0.mk hx177_4
          have y177_4 := xC HB hx177_4
          replace hx177_5 := Aside0.mk hx177_5
          have y177_5 := xC HB hx177_5
          have r177 := eq_true p177; have s177 := eq_true q177
          replace p177 := Aside0.mk p177; replace q177 := Aside0.mk q177
          replace H := Aside0.mk H
          go_upto_region 5 with (first | ((with_reducible refine gate_dst (N := 6) rfl ?_); refine box_event ?hg (N := 6) ?hd (cs := #[.int .i64 0, .int .i64 0, .int .i64 0, .int .i64 0, .slice none 0 0, .bool false]) (t := 144) ?hr ?_; (case hd => rfl); (case hg => rfl); (case hr => first | (go_simp; done) | (go_simp; rfl)); intro gb5 hg W5 hbox hb; have G5 := Aside0.mk hg; have b0_ := Aside0.mk hb; have BK5 := Aside0.mk hbox; have c_BK5 := blk_cell hbox; have z_BK5 := blk_frozen hbox; clear hg hb hbox) | ((with_reducible refine gate_store (t := 144) (p := 6) rfl ?_); refine store_event (t := 144) (p := 6) (v := ?vo_s6) (w1 := ((((((W5.setCell ⟨gb5, 0, none⟩ (.int .i64 ((rd_T144 l1 x5_2).f0))).setCell ⟨gb5, 1, none⟩ (.int .i64 ((rd_T144 l1 x5_2).f1))).setCell ⟨gb5, 2, none⟩ (.int .i64 ((rd_T144 l1 x5_2).f2))).setCell ⟨gb5, 3, none⟩ (.int .i64 ((rd_T144 l1 x5_2).f3))).setCell ⟨gb5, 4, none⟩ (.slice A177_4 ((rd_T144 l1 x5_2).f4).length c177_4)).setCell ⟨gb5, 5, none⟩ (.bool ((rd_T144 l1 x5_2).f5)))) ?hg ?ho ?hn ?hr ?_; (case ho => rfl); (case hg => rfl); (case hn => rfl); (case hr => first | (go_simp; done) | (go_simp; rfl)); intro W6 hw; have hb : Below wr.heap.size wr W6 := (by rw [hw]; exact bSet (bSet (bSet (bSet (bSet (bSet (b0_.out) (Nat.le_of_eq G5.out.symm)) (Nat.le_of_eq G5.out.symm)) (Nat.le_of_eq G5.out.symm)) (Nat.le_of_eq G5.out.symm)) (Nat.le_of_eq G5.out.symm)) (Nat.le_of_eq G5.out.symm)); clear b0_; have h_ := blk_set (blk_set (blk_set (blk_set (blk_set (blk_set (BK5.out) 0 (.int .i64 ((rd_T144 l1 x5_2).f0))) 1 (.int .i64 ((rd_T144 l1 x5_2).f1))) 2 (.int .i64 ((rd_T144 l1 x5_2).f2))) 3 (.int .i64 ((rd_T144 l1 x5_2).f3))) 4 (.slice A177_4 ((rd_T144 l1 x5_2).f4).length c177_4)) 5 (.bool ((rd_T144 l1 x5_2).f5)); rw [← hw] at h_; simp only [List.setIfInBounds_toArray, List.set_cons_zero, List.set_cons_succ] at h_; clear BK5 c_BK5 z_BK5 hw; replace BK1 := bK BK1 hb; replace c_BK1 := blk_cell BK1.out; replace z_BK1 := blk_frozen BK1.out; replace HB := bH HB hb; clear hb; have BK5 := Aside0.mk h_; have c_BK5 := blk_cell h_; have z_BK5 := blk_frozen h_; clear h_ G5))
          try clear y177_0 y177_1 y177_2 y177_3 y177_4 y177_5
          clear c_BK1 z_BK1; have rBK1 := BK1; replace BK1 := dK BK1
          clear c_BK5 z_BK5; have rBK5 := BK5; replace BK5 := dK BK5
          have HBr := HB; replace HB := dH HB
          refine stA (n := 60) (S := fun w' => Below W6.heap.size W6 w') (by kernel_rfl) rfl (below_drew1 (Below.refl _ W6)) (by kernel_rfl) (fun hHeld => ?_)
          generalize W6.drew = W7 at HB BK1 BK5 hHeld ⊢
          replace H := H.out
          replace H := Aside0.mk H
          refine pu 0 (some 17) 1 ?_; refine pu 2 (some 19) 5 ?_; refine pu 3 (some 20) 13 ?_; refine ld 1 (some 18) 15 hHeld ?_ (hr := by (intro w' h_; have y_ := kD rBK5 h_; go_simp; with_reducible rfl))
          replace H := H.out
          by_cases c8 : ((rd_T144 l1 x5_2).f0) = (wrap64 (x5_2 + 1))
          · rw [if_pos c8] at H
            have c8_0 := decT c8; have c8_1 := eqT c8; have c8_2 := neT c8
            clear c8
            first | rw [c8_1] | rw [c8_2] | skip
            replace H := Option.bind_eq_some_iff.mp H
            obtain ⟨t179, hm, H⟩ := H
            try dsimp only at H
            replace hm := Aside0.mk hm
            replace H := Aside0.mk H
            refine pu 4 (some 21) 31 ?_; refine pu 5 (some 22) 63 ?_; refine pu 6 (some 23) 127 ?_; refine pu 8 (some 25) 383 ?_; refine ld 7 (some 24) 511 hHeld ?_ (hr := by (intro w' h_; have y_ := kD rBK1 h_; go_simp; with_reducible rfl)); refine ld 9 (some 26) 1023 hHeld ?_ (hr := by (intro w' h_; have y_ := kD rBK5 h_; go_simp; with_reducible rfl))
            replace H := H.out
            replace H := Aside0.mk H
            refine on 10 (some 27) 2047 (fun K hK => ?_)
            have hcall := spec_l13Has.calls k2 _ _ _ _ _ W7 (Kd.C_below HR0_0.out HB.out) HC0_0.out hm.out
            refine goes_ Try.func103 (by kernel_rfl) rfl #[.slice A0_0 l0_0.length c0_0, .int .i64 ((rd_T144 l1 x5_2).f1)] (by rfl) rfl rfl (by (try simp only [List.map_toArray, List.map_cons, List.map_nil]); first | done | rfl) ?_
            refine hcall.mono ?_
            rintro e W10 ⟨rfl, hb⟩
            refine ⟨_, rfl, ?_⟩
            clear hcall hm
            replace hHeld := below_step hHeld hb
            replace BK1 := bK BK1 hb
            replace BK5 := bK BK5 hb
            replace HB := bH HB hb; clear hb
            refine hK.out _ _ hHeld (fun hHeld => ?_)
            clear hK K
            refine nr 27 ?_
            replace H := H.out
            by_cases c11 : t179 = true
            · rw [if_pos c11] at H
              subst c11
              replace H := Option.bind_eq_some_iff.mp H
              obtain ⟨t180, hm, H⟩ := H
              try dsimp only at H
              replace hm := Aside0.mk hm
              replace H := Aside0.mk H
              refine pu 11 (some 28) 4095 ?_; refine pu 12 (some 29) 8191 ?_; refine pu 13 (some 30) 16383 ?_; refine pu 14 (some 31) 32767 ?_; refine ld 15 (some 32) 65535 hHeld ?_ (hr := by (intro w' h_; have y_ := kD rBK5 h_; go_simp; with_reducible rfl))
              replace H := H.out
              replace H := Aside0.mk H
              refine on 16 (some 33) 131071 (fun K hK => ?_)
              have hcall := spec_IsTime.calls _ _ W10  hm.out
              refine goes_ Try.func104 (by kernel_rfl) rfl #[.int .i64 ((rd_T144 l1 x5_2).f2)] (by rfl) rfl rfl (by (try simp only [List.map_toArray, List.map_cons, List.map_nil]); first | done | rfl) ?_
              refine hcall.mono ?_
              rintro e W13 ⟨rfl, hb⟩
              refine ⟨_, rfl, ?_⟩
              clear hcall hm
              replace hHeld := below_step hHeld hb
              replace BK1 := bK BK1 hb
              replace BK5 := bK BK5 hb
              replace HB := bH HB hb; clear hb
              refine hK.out _ _ hHeld (fun hHeld => ?_)
              clear hK K
              refine nr 33 ?_
              replace H := H.out
              by_cases c14 : t180 = true
              · rw [if_pos c14] at H
                subst c14
                by_cases c15 : x5_2 > 0
                · rw [if_pos c15] at H
                  replace c15 : 0 < x5_2 := c15
                  have c15_0 := decT c15
                  replace c15 := Aside0.mk c15
                  first | rw [c15_0] | skip
                  by_cases c16 : 0 ≤ (wrap64 (x5_2 - 1))
                  · rw [if_pos c16] at H
                    have c16_0 := decT c16
                    replace c16 := Aside0.mk c16
                    first | rw [c16_0] | skip
                    by_cases c17 : (wrap64 (x5_2 - 1)) < (l1.length : Int)
                    · rw [if_pos c17] at H
                      have c17_0 := decT c17
                      replace c17 := Aside0.mk c17
                      first | rw [c17_0] | skip
                      have p181 : 0 ≤ ((wrap64 (x5_2 - 1)) : Int) := (of_decide_eq_true (by assumption))
                      have q181 : (wrap64 (x5_2 - 1)) < (l1.length : Int) := (of_decide_eq_true (by assumption))
                      obtain ⟨ad181, A181_4, c181_4, e181, hx181_0, hx181_1, hx181_2, hx181_3, hx181_4, hx181_5, hl181_4, hi181_4⟩ := at_T144 HR1.out (wrap64 (x5_2 - 1)) p181 q181
                      obtain rfl : ad177 = ad181 := by injection e181
                      have HR181_4 := Aside0.mk hi181_4; have HC181_4 := Aside0.mk hl181_4; clear hi181_4 hl181_4
                      replace hx181_0 := Aside0.mk hx181_0
                      replace hx181_1 := Aside0.mk hx181_1
                      replace hx181_2 := Aside0.mk hx181_2
                      replace hx181_3 := Aside0.mk hx181_3
                      replace hx181_4 := Aside0.mk hx181_4
                      replace hx181_5 := Aside0.mk hx181_5
                      have r181 := eq_true p181; have s181 := eq_true q181
                      replace p181 := Aside0.mk p181; replace q181 := Aside0.mk q181
                      by_cases c18 : ((rd_T144 l1 (wrap64 (x5_2 - 1))).f2) > ((rd_T144 l1 x5_2).f2)
                      · rw [if_pos c18] at H
                        replace c18 : ((rd_T144 l1 x5_2).f2) < ((rd_T144 l1 (wrap64 (x5_2 - 1))).f2) := c18
                        have c18_0 := decT c18
                        replace c18 := Aside0.mk c18
                        first | rw [c18_0] | skip
                        replace H := Aside0.mk H
                        refine pu 17 (some 34) 262143 ?_; refine pu 18 (some 35) 524287 ?_; refine pu 19 (some 36) 1048575 ?_; refine pu 20 (some 37) 2097151 ?_; refine pu 21 (some 38) 4194303 ?_; refine pu 22 (some 39) 8388607 ?_; refine pu 23 (some 40) 16777215 ?_; refine pu 24 (some 41) 33554431 ?_; refine pu 25 (some 42) 67108863 ?_; refine pu 26 (some 43) 134217727 ?_; refine pu 27 (some 44) 268435455 ?_; refine pu 29 (some 46) 805306367 ?_; refine ld 28 (some 45) 1073741823 hHeld ?_ (hr := by (intro w' h_; have y0_ := xD HBr h_ hx181_0; have y1_ := xD HBr h_ hx181_1; have y2_ := xD HBr h_ hx181_2; have y3_ := xD HBr h_ hx181_3; have y4_ := xD HBr h_ hx181_4; have y5_ := xD HBr h_ hx181_5; go_simp; with_reducible rfl)); refine ld 30 (some 47) 2147483647 hHeld ?_ (hr := by (intro w' h_; have y_ := kD rBK5 h_; go_simp; with_reducible rfl)); refine pu 31 (some 48) 4294967295 ?_; refine pu 32 (some 49) 8589934591 ?_; refine pu 33 (some 50) 17179869183 ?_; refine pu 34 (some 51) 34359738367 ?_; refine sk 35 (some 52) 68719476735 ?_; refine sk 36 (some 53) 137438953471 ?_; refine sk 37 (some 54) 274877906943 ?_; refine sk 38 (some 55) 549755813887 ?_; refine sk 39 (some 56) 1099511627775 ?_; refine sk 40 (some 57) 2199023255551 ?_; refine sk 41 (some 58) 4398046511103 ?_; refine sk 42 (some 59) 8796093022207 ?_; refine pu 43 (some 60) 17592186044415 ?_; refine pu 44 (some 61) 35184372088831 ?_; refine sk 45 (some 62) 70368744177663 ?_; refine sk 46 (some 63) 140737488355327 ?_; refine sk 47 (some 64) 281474976710655 ?_; refine sk 48 (some 65) 562949953421311 ?_; refine sk 49 (some 66) 1125899906842623 ?_; refine sk 50 (some 67) 2251799813685247 ?_; refine pu 51 (some 68) 4503599627370495 ?_; refine pu 52 (some 69) 9007199254740991 ?_; refine sk 53 (some 70) 18014398509481983 ?_; refine sk 54 (some 71) 36028797018963967 ?_; refine sk 55 (some 72) 72057594037927935 ?_; refine sk 56 (some 73) 144115188075855871 ?_; refine sk 57 (some 74) 288230376151711743 ?_; refine sk 58 (some 75) 576460752303423487 ?_; refine pu 59 (some 76) 1152921504606846975 ?_
                        replace H := H.out
                        replace H := Aside0.mk H
                        refine dn (by kernel_rfl) ?_
                        clear hHeld HBr rBK1 rBK5
                        have c_BK1 := blk_cell BK1.out; have z_BK1 := blk_frozen BK1.out
                        have c_BK5 := blk_cell BK5.out; have z_BK5 := blk_frozen BK5.out
                        replace H := H.out
                        obtain rfl := Option.some.inj H
                        clear H
                        go_wp2
                        go_ret
                        exact ⟨rfl, HB.out⟩
                      · rw [if_neg c18] at H
                        replace c18 : ¬ (((rd_T144 l1 x5_2).f2) < ((rd_T144 l1 (wrap64 (x5_2 - 1))).f2)) := c18
                        have c18_0 := decF c18
                        replace c18 := Aside0.mk c18
                        first | rw [c18_0] | skip
                        replace H := Option.bind_eq_some_iff.mp H
                        obtain ⟨t182, hm, H⟩ := H
                        try dsimp only at H
                        replace hm := Aside0.mk hm
                        replace H := Aside0.mk H
                        refine pu 17 (some 34) 262143 ?_; refine pu 18 (some 35) 524287 ?_; refine pu 19 (some 36) 1048575 ?_; refine pu 20 (some 37) 2097151 ?_; refine pu 21 (some 38) 4194303 ?_; refine pu 22 (some 39) 8388607 ?_; refine pu 23 (some 40) 16777215 ?_; refine pu 24 (some 41) 33554431 ?_; refine pu 25 (some 42) 67108863 ?_; refine pu 26 (some 43) 134217727 ?_; refine pu 27 (some 44) 268435455 ?_; refine pu 29 (some 46) 805306367 ?_; refine ld 28 (some 45) 1073741823 hHeld ?_ (hr := by (intro w' h_; have y0_ := xD HBr h_ hx181_0; have y1_ := xD HBr h_ hx181_1; have y2_ := xD HBr h_ hx181_2; have y3_ := xD HBr h_ hx181_3; have y4_ := xD HBr h_ hx181_4; have y5_ := xD HBr h_ hx181_5; go_simp; with_reducible rfl)); refine ld 30 (some 47) 2147483647 hHeld ?_ (hr := by (intro w' h_; have y_ := kD rBK5 h_; go_simp; with_reducible rfl)); refine pu 31 (some 48) 4294967295 ?_; refine pu 32 (some 49) 8589934591 ?_; refine pu 33 (some 50) 17179869183 ?_; refine pu 34 (some 51) 34359738367 ?_; refine pu 35 (some 52) 68719476735 ?_; refine pu 37 (some 54) 206158430207 ?_; refine pu 39 (some 56) 755914244095 ?_; refine ld 36 (some 53) 824633720831 hHeld ?_ (hr := by (intro w' h_; have y_ := kD rBK5 h_; go_simp; with_reducible rfl)); refine ld 38 (some 55) 1099511627775 hHeld ?_ (hr := by (intro w' h_; have y_ := kD rBK5 h_; go_simp; with_reducible rfl)); refine ld 40 (some 57) 2199023255551 hHeld ?_ (hr := by (intro w' h_; have y_ := kD rBK1 h_; go_simp; with_reducible rfl))
                        replace H := H.out
                        replace H := Aside0.mk H
                        refine on 41 (some 58) 4398046511103 (fun K hK => ?_)
                        have hcall := spec_EndOf.calls _ _ _ W13  hm.out
                        refine goes_ Try.func105 (by kernel_rfl) rfl #[.int .i64 ((rd_T144 l1 x5_2).f2), .int .i64 a0_2] (by rfl) rfl rfl (by (try simp only [List.map_toArray, List.map_cons, List.map_nil]); first | done | rfl) ?_
                        refine hcall.mono ?_
                        rintro e W20 ⟨rfl, hb⟩
                        refine ⟨_, rfl, ?_⟩
                        clear hcall hm
                        replace hHeld := below_step hHeld hb
                        replace BK1 := bK BK1 hb
                        replace BK5 := bK BK5 hb
                        replace HB := bH HB hb; clear hb
                        refine hK.out _ _ hHeld (fun hHeld => ?_)
                        clear hK K
                        refine nr 58 ?_
                        replace H := H.out
                        by_cases c21 : ((rd_T144 l1 x5_2).f3) = t182
                        · rw [if_pos c21] at H
                          have c21_0 := decT c21; have c21_1 := eqT c21; have c21_2 := neT c21
                          clear c21
                          first | rw [c21_1] | rw [c21_2] | skip
                          replace H := Option.bind_eq_some_iff.mp H
                          obtain ⟨t183, hm, H⟩ := H
                          try dsimp only at H
                          replace hm := Aside0.mk hm
                          replace H := Aside0.mk H
                          refine pu 42 (some 59) 8796093022207 ?_; refine pu 43 (some 60) 17592186044415 ?_; refine pu 44 (some 61) 35184372088831 ?_; refine pu 45 (some 62) 70368744177663 ?_; refine pu 47 (some 64) 211106232532991 ?_; refine ld 46 (some 63) 281474976710655 hHeld ?_ (hr := by (intro w' h_; have y_ := kD rBK5 h_; go_simp; with_reducible rfl)); refine ld 48 (some 65) 562949953421311 hHeld ?_ (hr := by (intro w' h_; have y_ := kD rBK1 h_; go_simp; with_reducible rfl))
                          replace H := H.out
                          replace H := Aside0.mk H
                          refine on 49 (some 66) 1125899906842623 (fun K hK => ?_)
                          have hcall := spec_l30Under.calls k2 _ _ _ _ _ _ _ W20 (Kd.C_below HR177_4.out HB.out) HC177_4.out (Kd.C_below HR0_1.out HB.out) HC0_1.out hm.out
                          refine goes_ Try.func106 (by kernel_rfl) rfl #[.slice A177_4 ((rd_T144 l1 x5_2).f4).length c177_4, .slice A0_1 l0_1.length c0_1] (by rfl) rfl rfl (by (try simp only [List.map_toArray, List.map_cons, List.map_nil]); first | done | rfl) ?_
                          refine hcall.mono ?_
                          rintro e W23 ⟨rfl, hb⟩
                          refine ⟨_, rfl, ?_⟩
                          clear hcall hm
                          replace hHeld := below_step hHeld hb
                          replace BK1 := bK BK1 hb
                          replace BK5 := bK BK5 hb
                          replace HB := bH HB hb; clear hb
                          refine hK.out _ _ hHeld (fun hHeld => ?_)
                          clear hK K
                          refine nr 66 ?_
                          replace H := H.out
                          by_cases c24 : t183 = true
                          · rw [if_pos c24] at H
                            subst c24
                            replace H := Option.bind_eq_some_iff.mp H
                            obtain ⟨t184, hm, H⟩ := H
                            try dsimp only at H
                            replace hm := Aside0.mk hm
                            replace H := Aside0.mk H
                            refine pu 50 (some 67) 2251799813685247 ?_; refine pu 51 (some 68) 4503599627370495 ?_; refine pu 52 (some 69) 9007199254740991 ?_; refine pu 53 (some 70) 18014398509481983 ?_; refine pu 54 (some 71) 36028797018963967 ?_; refine ld 55 (some 72) 72057594037927935 hHeld ?_ (hr := by (intro w' h_; have y_ := kD rBK5 h_; go_simp; with_reducible rfl))
                            replace H := H.out
                            replace H := Aside0.mk H
                            refine on 56 (some 73) 144115188075855871 (fun K hK => ?_)
                            have hcall := spec_DebtsOf.calls k2 _ _ _ _ _ W23 (Kd.C_below HR1.out HB.out) HC1.out hm.out
                            refine goes_ Try.func107 (by kernel_rfl) rfl #[.slice (some ad177) l1.length c1, .int .i64 ((rd_T144 l1 x5_2).f1)] (by rfl) rfl rfl (by (try simp only [List.map_toArray, List.map_cons, List.map_nil]); first | done | rfl) ?_
                            refine hcall.mono ?_
                            rintro e W26 ⟨v185, rfl, ho0, hb⟩
                            refine ⟨_, rfl, ?_⟩
                            clear hcall hm
                            replace hHeld := below_step hHeld hb
                            replace BK1 := bK BK1 hb
                            replace BK5 := bK BK5 hb
                            obtain ⟨A26_0, _, c26_0, rfl, rfl, hr_⟩ := R_made ho0 HB.out.size; clear ho0; have HO26_0 := Aside0.mk hr_; clear hr_
                            replace HB := bH HB hb; clear hb
                            refine hK.out _ _ hHeld (fun hHeld => ?_)
                            clear hK K
                            refine nr 73 ?_
                            replace H := H.out
                            replace H := Aside0.mk H
                            refine pu 57 (some 74) 288230376151711743 ?_; refine pu 58 (some 75) 576460752303423487 ?_; refine pu 59 (some 76) 1152921504606846975 ?_
                            replace H := H.out
                            replace H := Aside0.mk H
                            refine dn (by kernel_rfl) ?_
                            clear hHeld HBr rBK1 rBK5
                            have c_BK1 := blk_cell BK1.out; have z_BK1 := blk_frozen BK1.out
                            have c_BK5 := blk_cell BK5.out; have z_BK5 := blk_frozen BK5.out
                            replace H := H.out
                            by_cases c27 : (t184.length : Int) > 1
                            · rw [if_pos c27] at H
                              have c27_x0 : decide (1 < t184.length) = true := decide_eq_true (by omega)
                              replace c27 : 1 < (t184.length : Int) := c27
                              have c27_0 := decT c27
                              replace c27 := Aside0.mk c27
                              first | rw [c27_0] | skip
                              obtain rfl := Option.some.inj H
                              clear H
                              go_wp2
                              go_ret
                              exact ⟨rfl, HB.out⟩
                            · rw [if_neg c27] at H
                              have c27_x0 : decide (1 < t184.length) = false := decide_eq_false (by omega)
                              replace c27 : ¬ (1 < (t184.length : Int)) := c27
                              have c27_0 := decF c27
                              replace c27 := Aside0.mk c27
                              first | rw [c27_0] | skip
                              replace H := Aside0.mk H
                              go_wp2
                              go_roundg k2
                              case measure => have := Hk2.out; omega
                              case rel => exact ⟨(wrap64 (x5_2 + 1)), (by first | rfl | (simp; done) | (simp [*]; done)), H, ⟨by have := Hk2.out; omega⟩, BK1, HB⟩
                          · rw [if_neg c24] at H
                            replace c24 := (Bool.not_eq_true _).mp c24
                            subst c24
                            replace H := Aside0.mk H
                            refine pu 50 (some 67) 2251799813685247 ?_; refine pu 51 (some 68) 4503599627370495 ?_; refine pu 52 (some 69) 9007199254740991 ?_; refine sk 53 (some 70) 18014398509481983 ?_; refine sk 54 (some 71) 36028797018963967 ?_; refine sk 55 (some 72) 72057594037927935 ?_; refine sk 56 (some 73) 144115188075855871 ?_; refine sk 57 (some 74) 288230376151711743 ?_; refine sk 58 (some 75) 576460752303423487 ?_; refine pu 59 (some 76) 1152921504606846975 ?_
                            replace H := H.out
                            replace H := Aside0.mk H
                            refine dn (by kernel_rfl) ?_
                            clear hHeld HBr rBK1 rBK5
                            have c_BK1 := blk_cell BK1.out; have z_BK1 := blk_frozen BK1.out
                            have c_BK5 := blk_cell BK5.out; have z_BK5 := blk_frozen BK5.out
                            replace H := H.out
                            obtain rfl := Option.some.inj H
                            clear H
                            go_wp2
                            go_ret
                            exact ⟨rfl, HB.out⟩
                        · rw [if_neg c21] at H
                          have c21_0 := decF c21; have c21_1 := eqF c21; have c21_2 := neF c21
                          clear c21
                          first | rw [c21_1] | rw [c21_2] | skip
                          replace H := Aside0.mk H
                          refine pu 42 (some 59) 8796093022207 ?_; refine pu 43 (some 60) 17592186044415 ?_; refine pu 44 (some 61) 35184372088831 ?_; refine sk 45 (some 62) 70368744177663 ?_; refine sk 46 (some 63) 140737488355327 ?_; refine sk 47 (some 64) 281474976710655 ?_; refine sk 48 (some 65) 562949953421311 ?_; refine sk 49 (some 66) 1125899906842623 ?_; refine sk 50 (some 67) 2251799813685247 ?_; refine pu 51 (some 68) 4503599627370495 ?_; refine pu 52 (some 69) 9007199254740991 ?_; refine sk 53 (some 70) 18014398509481983 ?_; refine sk 54 (some 71) 36028797018963967 ?_; refine sk 55 (some 72) 72057594037927935 ?_; refine sk 56 (some 73) 144115188075855871 ?_; refine sk 57 (some 74) 288230376151711743 ?_; refine sk 58 (some 75) 576460752303423487 ?_; refine pu 59 (some 76) 1152921504606846975 ?_
                          replace H := H.out
                          replace H := Aside0.mk H
                          refine dn (by kernel_rfl) ?_
                          clear hHeld HBr rBK1 rBK5
                          have c_BK1 := blk_cell BK1.out; have z_BK1 := blk_frozen BK1.out
                          have c_BK5 := blk_cell BK5.out; have z_BK5 := blk_frozen BK5.out
                          replace H := H.out
                          obtain rfl := Option.some.inj H
                          clear H
                          go_wp2
                          go_ret
                          exact ⟨rfl, HB.out⟩
                    · rw [if_neg c17] at H
                      cases H
                  · rw [if_neg c16] at H
                    cases H
                · rw [if_neg c15] at H
                  replace c15 : ¬ (0 < x5_2) := c15
                  have c15_0 := decF c15
                  replace c15 := Aside0.mk c15
                  first | rw [c15_0] | skip
                  replace H := Option.bind_eq_some_iff.mp H
                  obtain ⟨t187, hm, H⟩ := H
                  try dsimp only at H
                  replace hm := Aside0.mk hm
                  replace H := Aside0.mk H
                  refine pu 17 (some 34) 262143 ?_; refine pu 18 (some 35) 524287 ?_; refine pu 19 (some 36) 1048575 ?_; refine pu 20 (some 37) 2097151 ?_; refine pu 21 (some 38) 4194303 ?_; refine pu 22 (some 39) 8388607 ?_; refine sk 23 (some 40) 16777215 ?_; refine sk 24 (some 41) 33554431 ?_; refine sk 25 (some 42) 67108863 ?_; refine sk 26 (some 43) 134217727 ?_; refine sk 27 (some 44) 268435455 ?_; refine sk 28 (some 45) 536870911 ?_; refine sk 29 (some 46) 1073741823 ?_; refine sk 30 (some 47) 2147483647 ?_; refine sk 31 (some 48) 4294967295 ?_; refine pu 32 (some 49) 8589934591 ?_; refine pu 33 (some 50) 17179869183 ?_; refine pu 34 (some 51) 34359738367 ?_; refine pu 35 (some 52) 68719476735 ?_; refine pu 37 (some 54) 206158430207 ?_; refine pu 39 (some 56) 755914244095 ?_; refine ld 36 (some 53) 824633720831 hHeld ?_ (hr := by (intro w' h_; have y_ := kD rBK5 h_; go_simp; with_reducible rfl)); refine ld 38 (some 55) 1099511627775 hHeld ?_ (hr := by (intro w' h_; have y_ := kD rBK5 h_; go_simp; with_reducible rfl)); refine ld 40 (some 57) 2199023255551 hHeld ?_ (hr := by (intro w' h_; have y_ := kD rBK1 h_; go_simp; with_reducible rfl))
                  replace H := H.out
                  replace H := Aside0.mk H
                  refine on 41 (some 58) 4398046511103 (fun K hK => ?_)
                  have hcall := spec_EndOf.calls _ _ _ W13  hm.out
                  refine goes_ Try.func105 (by kernel_rfl) rfl #[.int .i64 ((rd_T144 l1 x5_2).f2), .int .i64 a0_2] (by rfl) rfl rfl (by (try simp only [List.map_toArray, List.map_cons, List.map_nil]); first | done | rfl) ?_
                  refine hcall.mono ?_
                  rintro e W29 ⟨rfl, hb⟩
                  refine ⟨_, rfl, ?_⟩
                  clear hcall hm
                  replace hHeld := below_step hHeld hb
                  replace BK1 := bK BK1 hb
                  replace BK5 := bK BK5 hb
                  replace HB := bH HB hb; clear hb
                  refine hK.out _ _ hHeld (fun hHeld => ?_)
                  clear hK K
                  refine nr 58 ?_
                  replace H := H.out
                  by_cases c30 : ((rd_T144 l1 x5_2).f3) = t187
                  · rw [if_pos c30] at H
                    have c30_0 := decT c30; have c30_1 := eqT c30; have c30_2 := neT c30
                    clear c30
                    first | rw [c30_1] | rw [c30_2] | skip
                    replace H := Option.bind_eq_some_iff.mp H
                    obtain ⟨t188, hm, H⟩ := H
                    try dsimp only at H
                    replace hm := Aside0.mk hm
                    replace H := Aside0.mk H
                    refine pu 42 (some 59) 8796093022207 ?_; refine pu 43 (some 60) 17592186044415 ?_; refine pu 44 (some 61) 35184372088831 ?_; refine pu 45 (some 62) 70368744177663 ?_; refine pu 47 (some 64) 211106232532991 ?_; refine ld 46 (some 63) 281474976710655 hHeld ?_ (hr := by (intro w' h_; have y_ := kD rBK5 h_; go_simp; with_reducible rfl)); refine ld 48 (some 65) 562949953421311 hHeld ?_ (hr := by (intro w' h_; have y_ := kD rBK1 h_; go_simp; with_reducible rfl))
                    replace H := H.out
                    replace H := Aside0.mk H
                    refine on 49 (some 66) 1125899906842623 (fun K hK => ?_)
                    have hcall := spec_l30Under.calls k2 _ _ _ _ _ _ _ W29 (Kd.C_below HR177_4.out HB.out) HC177_4.out (Kd.C_below HR0_1.out HB.out) HC0_1.out hm.out
                    refine goes_ Try.func106 (by kernel_rfl) rfl #[.slice A177_4 ((rd_T144 l1 x5_2).f4).length c177_4, .slice A0_1 l0_1.length c0_1] (by rfl) rfl rfl (by (try simp only [List.map_toArray, List.map_cons, List.map_nil]); first | done | rfl) ?_
                    refine hcall.mono ?_
                    rintro e W32 ⟨rfl, hb⟩
                    refine ⟨_, rfl, ?_⟩
                    clear hcall hm
                    replace hHeld := below_step hHeld hb
                    replace BK1 := bK BK1 hb
                    replace BK5 := bK BK5 hb
                    replace HB := bH HB hb; clear hb
                    refine hK.out _ _ hHeld (fun hHeld => ?_)
                    clear hK K
                    refine nr 66 ?_
                    replace H := H.out
                    by_cases c33 : t188 = true
                    · rw [if_pos c33] at H
                      subst c33
                      replace H := Option.bind_eq_some_iff.mp H
                      obtain ⟨t189, hm, H⟩ := H
                      try dsimp only at H
                      replace hm := Aside0.mk hm
                      replace H := Aside0.mk H
                      refine pu 50 (some 67) 2251799813685247 ?_; refine pu 51 (some 68) 4503599627370495 ?_; refine pu 52 (some 69) 9007199254740991 ?_; refine pu 53 (some 70) 18014398509481983 ?_; refine pu 54 (some 71) 36028797018963967 ?_; refine ld 55 (some 72) 72057594037927935 hHeld ?_ (hr := by (intro w' h_; have y_ := kD rBK5 h_; go_simp; with_reducible rfl))
                      replace H := H.out
                      replace H := Aside0.mk H
                      refine on 56 (some 73) 144115188075855871 (fun K hK => ?_)
                      have hcall := spec_DebtsOf.calls k2 _ _ _ _ _ W32 (Kd.C_below HR1.out HB.out) HC1.out hm.out
                      refine goes_ Try.func107 (by kernel_rfl) rfl #[.slice (some ad177) l1.length c1, .int .i64 ((rd_T144 l1 x5_2).f1)] (by rfl) rfl rfl (by (try simp only [List.map_toArray, List.map_cons, List.map_nil]); first | done | rfl) ?_
                      refine hcall.mono ?_
                      rintro e W35 ⟨v190, rfl, ho0, hb⟩
                      refine ⟨_, rfl, ?_⟩
                      clear hcall hm
                      replace hHeld := below_step hHeld hb
                      replace BK1 := bK BK1 hb
                      replace BK5 := bK BK5 hb
                      obtain ⟨A35_0, _, c35_0, rfl, rfl, hr_⟩ := R_made ho0 HB.out.size; clear ho0; have HO35_0 := Aside0.mk hr_; clear hr_
                      replace HB := bH HB hb; clear hb
                      refine hK.out _ _ hHeld (fun hHeld => ?_)
                      clear hK K
                      refine nr 73 ?_
                      replace H := H.out
                      replace H := Aside0.mk H
                      refine pu 57 (some 74) 288230376151711743 ?_; refine pu 58 (some 75) 576460752303423487 ?_; refine pu 59 (some 76) 1152921504606846975 ?_
                      replace H := H.out
                      replace H := Aside0.mk H
                      refine dn (by kernel_rfl) ?_
                      clear hHeld HBr rBK1 rBK5
                      have c_BK1 := blk_cell BK1.out; have z_BK1 := blk_frozen BK1.out
                      have c_BK5 := blk_cell BK5.out; have z_BK5 := blk_frozen BK5.out
                      replace H := H.out
                      by_cases c36 : (t189.length : Int) > 1
                      · rw [if_pos c36] at H
                        have c36_x0 : decide (1 < t189.length) = true := decide_eq_true (by omega)
                        replace c36 : 1 < (t189.length : Int) := c36
                        have c36_0 := decT c36
                        replace c36 := Aside0.mk c36
                        first | rw [c36_0] | skip
                        obtain rfl := Option.some.inj H
                        clear H
                        go_wp2
                        go_ret
                        exact ⟨rfl, HB.out⟩
                      · rw [if_neg c36] at H
                        have c36_x0 : decide (1 < t189.length) = false := decide_eq_false (by omega)
                        replace c36 : ¬ (1 < (t189.length : Int)) := c36
                        have c36_0 := decF c36
                        replace c36 := Aside0.mk c36
                        first | rw [c36_0] | skip
                        replace H := Aside0.mk H
                        go_wp2
                        go_roundg k2
                        case measure => have := Hk2.out; omega
                        case rel => exact ⟨(wrap64 (x5_2 + 1)), (by first | rfl | (simp; done) | (simp [*]; done)), H, ⟨by have := Hk2.out; omega⟩, BK1, HB⟩
                    · rw [if_neg c33] at H
                      replace c33 := (Bool.not_eq_true _).mp c33
                      subst c33
                      replace H := Aside0.mk H
                      refine pu 50 (some 67) 2251799813685247 ?_; refine pu 51 (some 68) 4503599627370495 ?_; refine pu 52 (some 69) 9007199254740991 ?_; refine sk 53 (some 70) 18014398509481983 ?_; refine sk 54 (some 71) 36028797018963967 ?_; refine sk 55 (some 72) 72057594037927935 ?_; refine sk 56 (some 73) 144115188075855871 ?_; refine sk 57 (some 74) 288230376151711743 ?_; refine sk 58 (some 75) 576460752303423487 ?_; refine pu 59 (some 76) 1152921504606846975 ?_
                      replace H := H.out
                      replace H := Aside0.mk H
                      refine dn (by kernel_rfl) ?_
                      clear hHeld HBr rBK1 rBK5
                      have c_BK1 := blk_cell BK1.out; have z_BK1 := blk_frozen BK1.out
                      have c_BK5 := blk_cell BK5.out; have z_BK5 := blk_frozen BK5.out
                      replace H := H.out
                      obtain rfl := Option.some.inj H
                      clear H
                      go_wp2
                      go_ret
                      exact ⟨rfl, HB.out⟩
                  · rw [if_neg c30] at H
                    have c30_0 := decF c30; have c30_1 := eqF c30; have c30_2 := neF c30
                    clear c30
                    first | rw [c30_1] | rw [c30_2] | skip
                    replace H := Aside0.mk H
                    refine pu 42 (some 59) 8796093022207 ?_; refine pu 43 (some 60) 17592186044415 ?_; refine pu 44 (some 61) 35184372088831 ?_; refine sk 45 (some 62) 70368744177663 ?_; refine sk 46 (some 63) 140737488355327 ?_; refine sk 47 (some 64) 281474976710655 ?_; refine sk 48 (some 65) 562949953421311 ?_; refine sk 49 (some 66) 1125899906842623 ?_; refine sk 50 (some 67) 2251799813685247 ?_; refine pu 51 (some 68) 4503599627370495 ?_; refine pu 52 (some 69) 9007199254740991 ?_; refine sk 53 (some 70) 18014398509481983 ?_; refine sk 54 (some 71) 36028797018963967 ?_; refine sk 55 (some 72) 72057594037927935 ?_; refine sk 56 (some 73) 144115188075855871 ?_; refine sk 57 (some 74) 288230376151711743 ?_; refine sk 58 (some 75) 576460752303423487 ?_; refine pu 59 (some 76) 1152921504606846975 ?_
                    replace H := H.out
                    replace H := Aside0.mk H
                    refine dn (by kernel_rfl) ?_
                    clear hHeld HBr rBK1 rBK5
                    have c_BK1 := blk_cell BK1.out; have z_BK1 := blk_frozen BK1.out
                    have c_BK5 := blk_cell BK5.out; have z_BK5 := blk_frozen BK5.out
                    replace H := H.out
                    obtain rfl := Option.some.inj H
                    clear H
                    go_wp2
                    go_ret
                    exact ⟨rfl, HB.out⟩
              · rw [if_neg c14] at H
                replace c14 := (Bool.not_eq_true _).mp c14
                subst c14
                replace H := Aside0.mk H
                refine pu 17 (some 34) 262143 ?_; refine pu 18 (some 35) 524287 ?_; refine pu 19 (some 36) 1048575 ?_; refine sk 20 (some 37) 2097151 ?_; refine sk 21 (some 38) 4194303 ?_; refine sk 22 (some 39) 8388607 ?_; refine sk 23 (some 40) 16777215 ?_; refine sk 24 (some 41) 33554431 ?_; refine sk 25 (some 42) 67108863 ?_; refine sk 26 (some 43) 134217727 ?_; refine sk 27 (some 44) 268435455 ?_; refine sk 28 (some 45) 536870911 ?_; refine sk 29 (some 46) 1073741823 ?_; refine sk 30 (some 47) 2147483647 ?_; refine sk 31 (some 48) 4294967295 ?_; refine sk 32 (some 49) 8589934591 ?_; refine pu 33 (some 50) 17179869183 ?_; refine pu 34 (some 51) 34359738367 ?_; refine sk 35 (some 52) 68719476735 ?_; refine sk 36 (some 53) 137438953471 ?_; refine sk 37 (some 54) 274877906943 ?_; refine sk 38 (some 55) 549755813887 ?_; refine sk 39 (some 56) 1099511627775 ?_; refine sk 40 (some 57) 2199023255551 ?_; refine sk 41 (some 58) 4398046511103 ?_; refine sk 42 (some 59) 8796093022207 ?_; refine pu 43 (some 60) 17592186044415 ?_; refine pu 44 (some 61) 35184372088831 ?_; refine sk 45 (some 62) 70368744177663 ?_; refine sk 46 (some 63) 140737488355327 ?_; refine sk 47 (some 64) 281474976710655 ?_; refine sk 48 (some 65) 562949953421311 ?_; refine sk 49 (some 66) 1125899906842623 ?_; refine sk 50 (some 67) 2251799813685247 ?_; refine pu 51 (some 68) 4503599627370495 ?_; refine pu 52 (some 69) 9007199254740991 ?_; refine sk 53 (some 70) 18014398509481983 ?_; refine sk 54 (some 71) 36028797018963967 ?_; refine sk 55 (some 72) 72057594037927935 ?_; refine sk 56 (some 73) 144115188075855871 ?_; refine sk 57 (some 74) 288230376151711743 ?_; refine sk 58 (some 75) 576460752303423487 ?_; refine pu 59 (some 76) 1152921504606846975 ?_
                replace H := H.out
                replace H := Aside0.mk H
                refine dn (by kernel_rfl) ?_
                clear hHeld HBr rBK1 rBK5
                have c_BK1 := blk_cell BK1.out; have z_BK1 := blk_frozen BK1.out
                have c_BK5 := blk_cell BK5.out; have z_BK5 := blk_frozen BK5.out
                replace H := H.out
                obtain rfl := Option.some.inj H
                clear H
                go_wp2
                go_ret
                exact ⟨rfl, HB.out⟩
            · rw [if_neg c11] at H
              replace c11 := (Bool.not_eq_true _).mp c11
              subst c11
              replace H := Aside0.mk H
              refine pu 11 (some 28) 4095 ?_; refine pu 12 (some 29) 8191 ?_; refine pu 13 (some 30) 16383 ?_; refine sk 14 (some 31) 32767 ?_; refine sk 15 (some 32) 65535 ?_; refine sk 16 (some 33) 131071 ?_; refine sk 17 (some 34) 262143 ?_; refine pu 18 (some 35) 524287 ?_; refine pu 19 (some 36) 1048575 ?_; refine sk 20 (some 37) 2097151 ?_; refine sk 21 (some 38) 4194303 ?_; refine sk 22 (some 39) 8388607 ?_; refine sk 23 (some 40) 16777215 ?_; refine sk 24 (some 41) 33554431 ?_; refine sk 25 (some 42) 67108863 ?_; refine sk 26 (some 43) 134217727 ?_; refine sk 27 (some 44) 268435455 ?_; refine sk 28 (some 45) 536870911 ?_; refine sk 29 (some 46) 1073741823 ?_; refine sk 30 (some 47) 2147483647 ?_; refine sk 31 (some 48) 4294967295 ?_; refine sk 32 (some 49) 8589934591 ?_; refine pu 33 (some 50) 17179869183 ?_; refine pu 34 (some 51) 34359738367 ?_; refine sk 35 (some 52) 68719476735 ?_; refine sk 36 (some 53) 137438953471 ?_; refine sk 37 (some 54) 274877906943 ?_; refine sk 38 (some 55) 549755813887 ?_; refine sk 39 (some 56) 1099511627775 ?_; refine sk 40 (some 57) 2199023255551 ?_; refine sk 41 (some 58) 4398046511103 ?_; refine sk 42 (some 59) 8796093022207 ?_; refine pu 43 (some 60) 17592186044415 ?_; refine pu 44 (some 61) 35184372088831 ?_; refine sk 45 (some 62) 70368744177663 ?_; refine sk 46 (some 63) 140737488355327 ?_; refine sk 47 (some 64) 281474976710655 ?_; refine sk 48 (some 65) 562949953421311 ?_; refine sk 49 (some 66) 1125899906842623 ?_; refine sk 50 (some 67) 2251799813685247 ?_; refine pu 51 (some 68) 4503599627370495 ?_; refine pu 52 (some 69) 9007199254740991 ?_; refine sk 53 (some 70) 18014398509481983 ?_; refine sk 54 (some 71) 36028797018963967 ?_; refine sk 55 (some 72) 72057594037927935 ?_; refine sk 56 (some 73) 144115188075855871 ?_; refine sk 57 (some 74) 288230376151711743 ?_; refine sk 58 (some 75) 576460752303423487 ?_; refine pu 59 (some 76) 1152921504606846975 ?_
              replace H := H.out
              replace H := Aside0.mk H
              refine dn (by kernel_rfl) ?_
              clear hHeld HBr rBK1 rBK5
              have c_BK1 := blk_cell BK1.out; have z_BK1 := blk_frozen BK1.out
              have c_BK5 := blk_cell BK5.out; have z_BK5 := blk_frozen BK5.out
              replace H := H.out
              obtain rfl := Option.some.inj H
              clear H
              go_wp2
              go_ret
              exact ⟨rfl, HB.out⟩
          · rw [if_neg c8] at H
            have c8_0 := decF c8; have c8_1 := eqF c8; have c8_2 := neF c8
            clear c8
            first | rw [c8_1] | rw [c8_2] | skip
            replace H := Aside0.mk H
            refine pu 4 (some 21) 31 ?_; refine pu 5 (some 22) 63 ?_; refine sk 6 (some 23) 127 ?_; refine sk 7 (some 24) 255 ?_; refine sk 8 (some 25) 511 ?_; refine sk 9 (some 26) 1023 ?_; refine sk 10 (some 27) 2047 ?_; refine sk 11 (some 28) 4095 ?_; refine pu 12 (some 29) 8191 ?_; refine pu 13 (some 30) 16383 ?_; refine sk 14 (some 31) 32767 ?_; refine sk 15 (some 32) 65535 ?_; refine sk 16 (some 33) 131071 ?_; refine sk 17 (some 34) 262143 ?_; refine pu 18 (some 35) 524287 ?_; refine pu 19 (some 36) 1048575 ?_; refine sk 20 (some 37) 2097151 ?_; refine sk 21 (some 38) 4194303 ?_; refine sk 22 (some 39) 8388607 ?_; refine sk 23 (some 40) 16777215 ?_; refine sk 24 (some 41) 33554431 ?_; refine sk 25 (some 42) 67108863 ?_; refine sk 26 (some 43) 134217727 ?_; refine sk 27 (some 44) 268435455 ?_; refine sk 28 (some 45) 536870911 ?_; refine sk 29 (some 46) 1073741823 ?_; refine sk 30 (some 47) 2147483647 ?_; refine sk 31 (some 48) 4294967295 ?_; refine sk 32 (some 49) 8589934591 ?_; refine pu 33 (some 50) 17179869183 ?_; refine pu 34 (some 51) 34359738367 ?_; refine sk 35 (some 52) 68719476735 ?_; refine sk 36 (some 53) 137438953471 ?_; refine sk 37 (some 54) 274877906943 ?_; refine sk 38 (some 55) 549755813887 ?_; refine sk 39 (some 56) 1099511627775 ?_; refine sk 40 (some 57) 2199023255551 ?_; refine sk 41 (some 58) 4398046511103 ?_; refine sk 42 (some 59) 8796093022207 ?_; refine pu 43 (some 60) 17592186044415 ?_; refine pu 44 (some 61) 35184372088831 ?_; refine sk 45 (some 62) 70368744177663 ?_; refine sk 46 (some 63) 140737488355327 ?_; refine sk 47 (some 64) 281474976710655 ?_; refine sk 48 (some 65) 562949953421311 ?_; refine sk 49 (some 66) 1125899906842623 ?_; refine sk 50 (some 67) 2251799813685247 ?_; refine pu 51 (some 68) 4503599627370495 ?_; refine pu 52 (some 69) 9007199254740991 ?_; refine sk 53 (some 70) 18014398509481983 ?_; refine sk 54 (some 71) 36028797018963967 ?_; refine sk 55 (some 72) 72057594037927935 ?_; refine sk 56 (some 73) 144115188075855871 ?_; refine sk 57 (some 74) 288230376151711743 ?_; refine sk 58 (some 75) 576460752303423487 ?_; refine pu 59 (some 76) 1152921504606846975 ?_
            replace H := H.out
            replace H := Aside0.mk H
            refine dn (by kernel_rfl) ?_
            clear hHeld HBr rBK1 rBK5
            have c_BK1 := blk_cell BK1.out; have z_BK1 := blk_frozen BK1.out
            have c_BK5 := blk_cell BK5.out; have z_BK5 := blk_frozen BK5.out
            replace H := H.out
            obtain rfl := Option.some.inj H
            clear H
            go_wp2
            go_ret
            exact ⟨rfl, HB.out⟩
        · rw [if_neg c4] at H
          cases H
      · rw [if_neg c3] at H
        have c3_0 := decF c3
        replace c3 := Aside0.mk c3
        first | rw [c3_0] | skip
        replace H := Option.bind_eq_some_iff.mp H
        obtain ⟨t192, hm, H⟩ := H
        try dsimp only at H
        replace H := Aside0.mk H
        have hcall := spec_IsPlan.calls k2 _ _ _ _ _ _ _ _ wr (Kd.C_below HR0_0.out HB.out) HC0_0.out (Kd.C_below HR0_1.out HB.out) HC0_1.out hm
        clear hm
        go_wp2_with fail
        refine hcall.mono ?_
        rintro e W37 ⟨rfl, hb⟩
        clear hcall
        replace BK1 := bK BK1 hb; replace c_BK1 := blk_cell BK1.out; replace z_BK1 := blk_frozen BK1.out
        replace HB := bH HB hb; clear hb
        replace H := H.out
        by_cases c38 : t192 = true
        · rw [if_pos c38] at H
          subst c38
          obtain rfl := Option.some.inj H
          clear H
          go_wp2
          go_ret
          exact ⟨rfl, HB.out⟩
        · rw [if_neg c38] at H
          replace c38 := (Bool.not_eq_true _).mp c38
          subst c38
          obtain rfl := Option.some.inj H
          clear H
          go_wp2
          go_ret
          exact ⟨rfl, HB.out⟩

/-! ### spec_l33Copy: function 130 -/
def spec_l33Copy.l0 : Nat → List (S144) → List (S144) → Int → Option ((List (S144)))
  | 0, _, _, _ => none
  | k + 1, x0, x3, x4 => if x4 < (x0.length : Int) then (if 0 ≤ x4 then ((some (([] : List Int) : List Int)).bind fun y198 => (if y198.length + ((rd_T144 x0 x4).f4).length < 17592186044416 then (if x3.length < 2199023255552 then (spec_l33Copy.l0 k x0 (x3 ++ [(⟨(rd_T144 x0 x4).f0, (rd_T144 x0 x4).f1, (rd_T144 x0 x4).f2, (rd_T144 x0 x4).f3, (y198 ++ ((rd_T144 x0 x4).f4)), (rd_T144 x0 x4).f5⟩ : S144)]) (wrap64 (x4 + 1))) else (none)) else (none))) else (none)) else (some x3)
def spec_l33Copy.f (k : Nat) (l0 : List (S144)) : Option ((List (S144))) := spec_l33Copy.l0 k l0 (([] : List (S144))) 0
set_option maxHeartbeats 8000000 in
set_option maxRecDepth 100000 in
theorem spec_l33Copy.calls (k : Nat) (A0 : Option Addr) (c0 : Nat) (l0 : List (S144)) (r : List (S144)) (w : World) (hr0 : Kd.C k144 w A0 l0.length l0) (hc0 : l0.length ≤ c0) (h : spec_l33Copy.f k l0 = some r) :
    Calls Try.prog 130 #[.slice A0 l0.length c0] w fun e w' => ∃ v0_ : Value, e = .returned (v0_) ∧ Kd.S k144 144 w' w.heap.size (fun _ => True) v0_ r ∧ Below w.heap.size w w' := by
  have hu144 := Try.underlying144
  have HR0 := Aside0.mk hr0
  have HC0 := Aside0.mk hc0
  clear hr0 hc0
  have HB := Aside0.mk (Below.refl w.heap.size w)
  have H : (spec_l33Copy.l0 k l0 (([] : List (S144))) 0) = some r := h
  clear h
  obtain ⟨y193, hy193⟩ : ∃ y_ : List (S144), y_ = (([] : List (S144))) := ⟨_, rfl⟩
  replace H : (spec_l33Copy.l0 k l0 y193 0) = some r := by first | (rw [hy193]; with_reducible exact H) | (have H2_ := (Option.bind_some _ _).symm.trans H; rw [hy193]; with_reducible exact H2_) | (have H2_ := (Option.bind_some _ _).symm.trans H; with_reducible exact H2_) | with_reducible exact H | (rw [hy193]; exact H) | exact H
  have Ny193 := Aside0.mk hy193
  clear hy193
  have H' := Aside0.mk H
  clear H
  go_enter Try.func130, Try.ntmps130
  go_wp2_with (first | ((with_reducible refine gate_dst (N := 6) rfl ?_); refine Kd.S_lit k144 _ 144 ?hg (N := 6) ?hd (xs := ([] : List (S144))) (inner := []) (ok := fun _ => True) (okp := fun _ => True) ?hr ?hp (fun _ hk => hk) trivial (Below.refl _ _) (Nat.le_refl _) (by simp) ?_; (case hd => rfl); (case hg => rfl); (case hr => first | (go_simp; done) | (go_simp; rfl)); (case hp => exact (Reps.none _ _)); intro v194 w2 ho3 hb hg_ hnew_; clear hg_ hnew_; (first | rw [← Ny193.out] at ho3 | (simp only [Int.reduceToNat] at ho3; rw [← Ny193.out] at ho3)); have n0_ := Aside0.mk (Kd.S_lower ho3 (below_size (by repeat (first | (with_reducible first | exact HB.out | apply below_alloc | apply pw_below_drewN | apply below_drew1) | exact HB.out)))); have n1_ := Aside0.mk (below_step (by repeat (first | (with_reducible first | exact HB.out | apply below_alloc | apply pw_below_drewN | apply below_drew1) | exact HB.out)) hb); clear HB; have HO195 := n0_; (try have hv1_195 := fun (W_ : World) (a_ : Addr) (m_ : Mode) => run_store Try.prog W_ a_ _ m_ (Kd.R_val HO195.out).2); have HB := n1_; clear n0_ n1_; clear hb ho3))
  go_loopg [3, 4] k (fun kq v3 v4 w' => ∃ (x3_1 : List (S144)) (x4_1 : Int), v4 = .int .i64 x4_1 ∧ Aside0 (spec_l33Copy.l0 kq l0 x3_1 x4_1 = some r) ∧ Aside0 (kq ≤ k) ∧ Aside0 (Kd.S k144 144 w' w.heap.size (fun _ => True) v3 x3_1) ∧ Aside0 (Below w.heap.size w w'))
  case atStart => exact ⟨(y193), (0), (by first | rfl | (simp; done) | (simp [*]; done)), H', ⟨Nat.le_refl _⟩, ⟨by (with_reducible repeat (first | apply Kd.S_alloc | apply Kd.S_drewN | apply Kd.S_drew)); exact HO195.out⟩, ⟨by repeat (first | (with_reducible first | exact HB.out | apply below_alloc | apply pw_below_drewN | apply below_drew1) | exact HB.out)⟩⟩
  case round =>
    clear H'
    try clear c1
    try clear p2
    obtain ⟨x3_1, x4_1, rfl, HA, HK1, HO_3, HB⟩ := hrel
    cases gk with
    | zero => exact absurd HA.out (by simp [spec_l33Copy.l0])
    | succ k1 =>
      have H := HA.out
      clear HA
      simp only [spec_l33Copy.l0] at H
      by_cases c4 : x4_1 < (l0.length : Int)
      · rw [if_pos c4] at H
        have c4b0 : decide (x4_1 < (l0.length : Int)) = true := decide_eq_true c4
        clear c4
        by_cases c5 : 0 ≤ x4_1
        · rw [if_pos c5] at H
          have c5b0 : decide (0 ≤ x4_1) = true := decide_eq_true c5
          clear c5
          obtain ⟨y198, hy198⟩ : ∃ y_ : List Int, y_ = (([] : List Int)) := ⟨_, rfl⟩
          replace H : (if y198.length + ((rd_T144 l0 x4_1).f4).length < 17592186044416 then (if x3_1.length < 2199023255552 then (spec_l33Copy.l0 k1 l0 (x3_1 ++ [(⟨(rd_T144 l0 x4_1).f0, (rd_T144 l0 x4_1).f1, (rd_T144 l0 x4_1).f2, (rd_T144 l0 x4_1).f3, (y198 ++ ((rd_T144 l0 x4_1).f4)), (rd_T144 l0 x4_1).f5⟩ : S144)]) (wrap64 (x4_1 + 1))) else (none)) else (none)) = some r := by first | (rw [hy198]; with_reducible exact H) | (have H2_ := (Option.bind_some _ _).symm.trans H; rw [hy198]; with_reducible exact H2_) | (have H2_ := (Option.bind_some _ _).symm.trans H; with_reducible exact H2_) | with_reducible exact H | (rw [hy198]; exact H) | exact H
          have Ny198 := Aside0.mk hy198
          clear hy198
          by_cases c6 : y198.length + ((rd_T144 l0 x4_1).f4).length < 17592186044416
          · rw [if_pos c6] at H
            have LMc6 := Aside0.mk c6
            clear c6
            obtain ⟨y202, hy202⟩ : ∃ y_ : List Int, y_ = (y198 ++ ((rd_T144 l0 x4_1).f4)) := ⟨_, rfl⟩
            replace H : (if x3_1.length < 2199023255552 then (spec_l33Copy.l0 k1 l0 (x3_1 ++ [(⟨(rd_T144 l0 x4_1).f0, (rd_T144 l0 x4_1).f1, (rd_T144 l0 x4_1).f2, (rd_T144 l0 x4_1).f3, y202, (rd_T144 l0 x4_1).f5⟩ : S144)]) (wrap64 (x4_1 + 1))) else (none)) = some r := by first | (rw [hy202]; with_reducible exact H) | (have H2_ := (Option.bind_some _ _).symm.trans H; rw [hy202]; with_reducible exact H2_) | (have H2_ := (Option.bind_some _ _).symm.trans H; with_reducible exact H2_) | with_reducible exact H | (rw [hy202]; exact H) | exact H
            have Ny202 := Aside0.mk hy202
            clear hy202
            by_cases c7 : x3_1.length < 2199023255552
            · rw [if_pos c7] at H
              have LMc7 := Aside0.mk c7
              clear c7
              obtain ⟨y205, hy205⟩ : ∃ y_ : List (S144), y_ = (x3_1 ++ [(⟨(rd_T144 l0 x4_1).f0, (rd_T144 l0 x4_1).f1, (rd_T144 l0 x4_1).f2, (rd_T144 l0 x4_1).f3, y202, (rd_T144 l0 x4_1).f5⟩ : S144)]) := ⟨_, rfl⟩
              replace H : (spec_l33Copy.l0 k1 l0 y205 (wrap64 (x4_1 + 1))) = some r := by first | (rw [hy205]; with_reducible exact H) | (have H2_ := (Option.bind_some _ _).symm.trans H; rw [hy205]; with_reducible exact H2_) | (have H2_ := (Option.bind_some _ _).symm.trans H; with_reducible exact H2_) | with_reducible exact H | (rw [hy205]; exact H) | exact H
              have Ny205 := Aside0.mk hy205
              clear hy205
              have H' := Aside0.mk H
              clear H
              have p196 : 0 ≤ (x4_1 : Int) := of_decide_eq_true (by first | (with_reducible assumption) | assumption)
              have q196 : x4_1 < (l0.length : Int) := of_decide_eq_true (by first | (with_reducible assumption) | assumption)
              obtain ⟨ad196, A196_4, c196_4, e196, hx196_0, hx196_1, hx196_2, hx196_3, hx196_4, hx196_5, hl196_4, hi196_4⟩ := at_T144 HR0.out x4_1 p196 q196
              cases e196
              replace hx196_0 := (HB.out.cell (World.block_lt_of_cell? w _ hx196_0)).trans hx196_0
              replace hx196_1 := (HB.out.cell (World.block_lt_of_cell? w _ hx196_1)).trans hx196_1
              replace hx196_2 := (HB.out.cell (World.block_lt_of_cell? w _ hx196_2)).trans hx196_2
              replace hx196_3 := (HB.out.cell (World.block_lt_of_cell? w _ hx196_3)).trans hx196_3
              replace hx196_4 := (HB.out.cell (World.block_lt_of_cell? w _ hx196_4)).trans hx196_4
              replace hx196_5 := (HB.out.cell (World.block_lt_of_cell? w _ hx196_5)).trans hx196_5
              have HR196_4 := Aside0.mk hi196_4
              have HC196_4 := Aside0.mk hl196_4
              clear hi196_4 hl196_4
              replace p196 := eq_true p196
              replace q196 := eq_true q196
              go_wp2_with (first | ((with_reducible refine gate_dst (N := 5) rfl ?_); refine box_event ?hg (N := 5) ?hd (cs := #[.int .i64 0, .int .i64 0, .int .i64 0, .int .i64 0, .slice none 0 0, .bool false]) (t := 144) ?hr ?_; (case hd => rfl); (case hg => rfl); (case hr => first | (go_simp; done) | (go_simp; rfl)); intro gb197 hg w8 hbox hb; have n0_ := Aside0.mk (Kd.S_below (Kd.S_elderB (by (with_reducible repeat (first | apply Kd.S_alloc | apply Kd.S_drewN | apply Kd.S_drew)); exact HO_3.out) gb197 (Nat.le_of_eq hg.symm)) hb); have n1_ := Aside0.mk (below_step (by repeat (first | (with_reducible first | exact HB.out | apply below_alloc | apply pw_below_drewN | apply below_drew1) | exact HB.out)) hb); have n2_ := Aside0.mk (hbox); have n3_ := Aside0.mk ((by rw [hg]; exact (below_size (by repeat (first | (with_reducible first | exact HB.out | apply below_alloc | apply pw_below_drewN | apply below_drew1) | exact HB.out))) : w.heap.size ≤ gb197)); have n4_ := Aside0.mk ((by rw [hg]; exact (below_size (by repeat (first | (with_reducible first | exact HB.out | apply below_alloc | apply pw_below_drewN | apply below_drew1) | exact HB.out))) : w.heap.size ≤ gb197)); clear HO_3; clear HB; have HO_3 := n0_; have HB := n1_; have BK197 := n2_; have GW197 := n3_; have GE197 := n4_; clear n0_ n1_ n2_ n3_ n4_; clear hb hbox hg; have hcz9_0 : w8.cell? ⟨gb197, 0, none⟩ = some (.int .i64 0) := (blk_cell BK197.out 0).trans rfl; have hcz9_1 : w8.cell? ⟨gb197, 1, none⟩ = some (.int .i64 0) := (blk_cell BK197.out 1).trans rfl; have hcz9_2 : w8.cell? ⟨gb197, 2, none⟩ = some (.int .i64 0) := (blk_cell BK197.out 2).trans rfl; have hcz9_3 : w8.cell? ⟨gb197, 3, none⟩ = some (.int .i64 0) := (blk_cell BK197.out 3).trans rfl; have hcz9_4 : w8.cell? ⟨gb197, 4, none⟩ = some (.slice none 0 0) := (blk_cell BK197.out 4).trans rfl; have hcz9_5 : w8.cell? ⟨gb197, 5, none⟩ = some (.bool false) := (blk_cell BK197.out 5).trans rfl; have hfz9_0 := blk_frozen BK197.out 0; have hfz9_1 := blk_frozen BK197.out 1; have hfz9_2 := blk_frozen BK197.out 2; have hfz9_3 := blk_frozen BK197.out 3; have hfz9_4 := blk_frozen BK197.out 4; have hfz9_5 := blk_frozen BK197.out 5) | ((with_reducible refine gate_dst (N := 17) rfl ?_); refine Kd.R_lit (Kd.int .i64) _ 3 ?hg (N := 17) ?hd (xs := ([] : List Int)) (inner := []) (ok := fun _ => True) (okp := fun _ => True) ?hr ?hp (fun _ hk => hk) trivial (Below.refl _ _) (Nat.le_refl _) (by simp) ?_; (case hd => rfl); (case hg => rfl); (case hr => first | (go_simp; done) | (go_simp; rfl)); (case hp => exact (Reps.none _ _)); intro v199 w10 ho11 hb hg_ hnew_; clear hg_ hnew_; (first | rw [← Ny198.out] at ho11 | (simp only [Int.reduceToNat] at ho11; rw [← Ny198.out] at ho11)); have n0_ := Aside0.mk (Kd.S_elder' (by (with_reducible repeat (first | apply Kd.S_alloc | apply Kd.S_drewN | apply Kd.S_drew)); exact (Kd.S_mono (Kd.S_far (p := ⟨gb197, 5, none⟩) (Kd.S_far (p := ⟨gb197, 4, none⟩) (Kd.S_far (p := ⟨gb197, 3, none⟩) (Kd.S_far (p := ⟨gb197, 2, none⟩) (Kd.S_far (p := ⟨gb197, 1, none⟩) (Kd.S_far (p := ⟨gb197, 0, none⟩) (Kd.S_mono HO_3.out (fun k_ hk => (⟨hk, hk.2⟩ : _ ∧ k_ ≠ gb197))) (fun _ hk => hk.2) (.int .i64 ((rd_T144 l0 x4_1).f0))) (fun _ hk => hk.2) (.int .i64 ((rd_T144 l0 x4_1).f1))) (fun _ hk => hk.2) (.int .i64 ((rd_T144 l0 x4_1).f2))) (fun _ hk => hk.2) (.int .i64 ((rd_T144 l0 x4_1).f3))) (fun _ hk => hk.2) (.slice A196_4 ((rd_T144 l0 x4_1).f4).length c196_4)) (fun _ hk => hk.2) (.bool ((rd_T144 l0 x4_1).f5))) (fun _ h_ => h_.1))) (Kd.R_base ho11) hb); have n1_ := Aside0.mk (Kd.R_lower ho11 (below_size (by repeat (first | (with_reducible first | exact HB.out | apply below_alloc | apply pw_below_drewN | apply below_drew1 | refine below_set ?_ GE197.out) | exact HB.out)))); have n2_ := Aside0.mk (blk_below (g := gb197) (o := .cells #[.int .i64 ((rd_T144 l0 x4_1).f0), .int .i64 ((rd_T144 l0 x4_1).f1), .int .i64 ((rd_T144 l0 x4_1).f2), .int .i64 ((rd_T144 l0 x4_1).f3), .slice A196_4 ((rd_T144 l0 x4_1).f4).length c196_4, .bool ((rd_T144 l0 x4_1).f5)] 144 (0, 0)) (by (with_reducible repeat (first | refine blk_drewN ?_ _ | refine blk_drew ?_ | refine blk_alloc ?_ _)); refine blk_put (cs := #[.int .i64 ((rd_T144 l0 x4_1).f0), .int .i64 ((rd_T144 l0 x4_1).f1), .int .i64 ((rd_T144 l0 x4_1).f2), .int .i64 ((rd_T144 l0 x4_1).f3), .slice A196_4 ((rd_T144 l0 x4_1).f4).length c196_4, .bool false]) ?_ 5 _ rfl; (with_reducible repeat (first | refine blk_drewN ?_ _ | refine blk_drew ?_ | refine blk_alloc ?_ _)); refine blk_put (cs := #[.int .i64 ((rd_T144 l0 x4_1).f0), .int .i64 ((rd_T144 l0 x4_1).f1), .int .i64 ((rd_T144 l0 x4_1).f2), .int .i64 ((rd_T144 l0 x4_1).f3), .slice none 0 0, .bool false]) ?_ 4 _ rfl; (with_reducible repeat (first | refine blk_drewN ?_ _ | refine blk_drew ?_ | refine blk_alloc ?_ _)); refine blk_put (cs := #[.int .i64 ((rd_T144 l0 x4_1).f0), .int .i64 ((rd_T144 l0 x4_1).f1), .int .i64 ((rd_T144 l0 x4_1).f2), .int .i64 0, .slice none 0 0, .bool false]) ?_ 3 _ rfl; (with_reducible repeat (first | refine blk_drewN ?_ _ | refine blk_drew ?_ | refine blk_alloc ?_ _)); refine blk_put (cs := #[.int .i64 ((rd_T144 l0 x4_1).f0), .int .i64 ((rd_T144 l0 x4_1).f1), .int .i64 0, .int .i64 0, .slice none 0 0, .bool false]) ?_ 2 _ rfl; (with_reducible repeat (first | refine blk_drewN ?_ _ | refine blk_drew ?_ | refine blk_alloc ?_ _)); refine blk_put (cs := #[.int .i64 ((rd_T144 l0 x4_1).f0), .int .i64 0, .int .i64 0, .int .i64 0, .slice none 0 0, .bool false]) ?_ 1 _ rfl; (with_reducible repeat (first | refine blk_drewN ?_ _ | refine blk_drew ?_ | refine blk_alloc ?_ _)); refine blk_put (cs := #[.int .i64 0, .int .i64 0, .int .i64 0, .int .i64 0, .slice none 0 0, .bool false]) ?_ 0 _ rfl; (with_reducible repeat (first | refine blk_drewN ?_ _ | refine blk_drew ?_ | refine blk_alloc ?_ _)); exact BK197.out) hb); have n3_ := Aside0.mk (below_step (by repeat (first | (with_reducible first | exact HB.out | apply below_alloc | apply pw_below_drewN | apply below_drew1 | refine below_set ?_ GE197.out) | exact HB.out)) hb); clear HO_3; clear BK197; clear HB; have HO_3 := n0_; have HO200 := n1_; (try have hv1_200 := fun (W_ : World) (a_ : Addr) (m_ : Mode) => run_store Try.prog W_ a_ _ m_ (Kd.R_val HO200.out).2); have BK197 := n2_; have HB := n3_; clear n0_ n1_ n2_ n3_; clear hb ho11; have p201 : 0 ≤ (x4_1 : Int) := of_decide_eq_true (by first | (with_reducible assumption) | assumption); have q201 : x4_1 < (l0.length : Int) := of_decide_eq_true (by first | (with_reducible assumption) | assumption); obtain ⟨ad201, A201_4, c201_4, e201, hx201_0, hx201_1, hx201_2, hx201_3, hx201_4, hx201_5, hl201_4, hi201_4⟩ := at_T144 HR0.out x4_1 p201 q201; obtain rfl : ad196 = ad201 := (by injection e201); replace hx201_0 := (HB.out.cell (World.block_lt_of_cell? w _ hx201_0)).trans hx201_0; replace hx201_1 := (HB.out.cell (World.block_lt_of_cell? w _ hx201_1)).trans hx201_1; replace hx201_2 := (HB.out.cell (World.block_lt_of_cell? w _ hx201_2)).trans hx201_2; replace hx201_3 := (HB.out.cell (World.block_lt_of_cell? w _ hx201_3)).trans hx201_3; replace hx201_4 := (HB.out.cell (World.block_lt_of_cell? w _ hx201_4)).trans hx201_4; replace hx201_5 := (HB.out.cell (World.block_lt_of_cell? w _ hx201_5)).trans hx201_5; have HR201_4 := Aside0.mk hi201_4; have HC201_4 := Aside0.mk hl201_4; clear hi201_4 hl201_4; replace p201 := eq_true p201; replace q201 := eq_true q201) | ((with_reducible refine gate_builtin (b := .append) (xs := #[.tmp 17, .tmp 22]) rfl ?_); at_builtin; refine Kd.R_append_rows (Kd.int .i64) (w0 := w) w.heap.size rfl (.tmp 17) (.tmp 22) 46 3 (.int .i64 0) 8 rfl Try.underlying46 info3 rfl (by decide) (by omega) v199 y198 ((rd_T144 l0 x4_1).f4) _ _ _ (fun _ => True) (fun _ => False) rfl rfl ?aO ?aR (fun _ _ h => h) (fun _ h => h.elim) ?aF ?aB ?aS ?aL ?_; (case aR => repeat (first | exact (Kd.C_below HR201_4.out HB.out) | (with_reducible refine Kd.C_alloc ?_ _) | (with_reducible refine Kd.C_drewN ?_ _) | (with_reducible refine Kd.C_drew ?_))); (case aB => exact (by repeat (first | (with_reducible first | exact HB.out | apply below_alloc | apply pw_below_drewN | apply below_drew1 | refine below_set ?_ GE197.out) | exact HB.out))); (case aF => exact (fun _ _ => trivial)); (case aO => exact (by (with_reducible repeat (first | apply Kd.R_alloc | apply Kd.R_drewN | apply Kd.R_drew)); exact HO200.out)); (case aS => exact (below_size (by repeat (first | (with_reducible first | exact HB.out | apply below_alloc | apply pw_below_drewN | apply below_drew1 | refine below_set ?_ GE197.out) | exact HB.out)))); (case aL => have := LMc6.out; omega); intro v203 w12 ho hb hg hat; rw [← Ny202.out] at ho; have n0_ := Aside0.mk (Kd.S_after (ok := (fun k_ => k_ ≠ gb197)) (by (with_reducible repeat (first | apply Kd.S_alloc | apply Kd.S_drewN | apply Kd.S_drew)); exact Kd.S_mono HO_3.out (fun _ hk => ⟨hk.1.2, hk.2⟩)) hg hat); have n1_ := Aside0.mk (blk_grown (g := gb197) (o := .cells #[.int .i64 ((rd_T144 l0 x4_1).f0), .int .i64 ((rd_T144 l0 x4_1).f1), .int .i64 ((rd_T144 l0 x4_1).f2), .int .i64 ((rd_T144 l0 x4_1).f3), .slice A196_4 ((rd_T144 l0 x4_1).f4).length c196_4, .bool ((rd_T144 l0 x4_1).f5)] 144 (0, 0)) (by (with_reducible repeat (first | refine blk_drewN ?_ _ | refine blk_drew ?_ | refine blk_alloc ?_ _)); exact BK197.out) hg (Kd.R_ne HO200.out BK197.out (by decide))); have n2_ := Aside0.mk (hb); have n3_ := Aside0.mk (ho); clear HO_3; clear BK197; clear HB; clear HO200; have HO_3 := n0_; have BK197 := n1_; have HB := n2_; have HO204 := n3_; (try have hv1_204 := fun (W_ : World) (a_ : Addr) (m_ : Mode) => run_store Try.prog W_ a_ _ m_ (Kd.R_val HO204.out).2); clear n0_ n1_ n2_ n3_; clear ho hb hg hat; obtain ⟨Ao13, co13, eo13⟩ := Kd.R_slice HO204.out; subst eo13; have hcz14_0 : w12.cell? ⟨gb197, 0, none⟩ = some (.int .i64 ((rd_T144 l0 x4_1).f0)) := (blk_cell BK197.out 0).trans rfl; have hcz14_1 : w12.cell? ⟨gb197, 1, none⟩ = some (.int .i64 ((rd_T144 l0 x4_1).f1)) := (blk_cell BK197.out 1).trans rfl; have hcz14_2 : w12.cell? ⟨gb197, 2, none⟩ = some (.int .i64 ((rd_T144 l0 x4_1).f2)) := (blk_cell BK197.out 2).trans rfl; have hcz14_3 : w12.cell? ⟨gb197, 3, none⟩ = some (.int .i64 ((rd_T144 l0 x4_1).f3)) := (blk_cell BK197.out 3).trans rfl; have hcz14_4 : w12.cell? ⟨gb197, 4, none⟩ = some (.slice A196_4 ((rd_T144 l0 x4_1).f4).length c196_4) := (blk_cell BK197.out 4).trans rfl; have hcz14_5 : w12.cell? ⟨gb197, 5, none⟩ = some (.bool ((rd_T144 l0 x4_1).f5)) := (blk_cell BK197.out 5).trans rfl; have hfz14_0 := blk_frozen BK197.out 0; have hfz14_1 := blk_frozen BK197.out 1; have hfz14_2 := blk_frozen BK197.out 2; have hfz14_3 := blk_frozen BK197.out 3; have hfz14_4 := blk_frozen BK197.out 4; have hfz14_5 := blk_frozen BK197.out 5) | ((with_reducible refine gate_store (t := 46) (p := 24) rfl ?_); refine store_event (t := 46) (p := 24) (v := ?vo_w15) (w1 := (w12.setCell ⟨gb197, 4, none⟩ (.slice Ao13 y202.length co13))) ?hg ?ho ?hn ?hr ?_; (case ho => rfl); (case hg => rfl); (case hn => rfl); (case hr => first | (go_simp; done) | (go_simp; rfl)); intro w15 hw; have n0_ : Aside0 (Kd.S k144 144 w15 w.heap.size (fun k_ => some k_ ≠ (.slice Ao13 y202.length co13 : Value).ownBlock ∧ k_ ≠ gb197) u3 x3_1) := ⟨(by rw [hw]; exact (by (with_reducible repeat (first | apply Kd.S_alloc | apply Kd.S_drewN | apply Kd.S_drew)); exact Kd.S_mono (Kd.S_far (p := ⟨gb197, 4, none⟩) (Kd.S_mono HO_3.out (fun k_ hk => (⟨hk, hk.1⟩ : _ ∧ k_ ≠ gb197))) (fun _ hk => hk.2) (.slice Ao13 y202.length co13)) (fun _ hk => ⟨hk.1.2, hk.1.1⟩)))⟩; have n1_ : Aside0 (Kd.R (Kd.int .i64) 3 w15 w.heap.size (fun _ => True) (.slice Ao13 y202.length co13) y202) := ⟨(by rw [hw]; exact (by (with_reducible repeat (first | apply Kd.R_alloc | apply Kd.R_drewN | apply Kd.R_drew)); exact Kd.R_mono (Kd.R_far (p := ⟨gb197, 4, none⟩) (Kd.R_types HO204.out BK197.out (by decide)) (fun _ hk => hk.2) (.slice Ao13 y202.length co13)) (fun _ hk => trivial)))⟩; have n2_ : Aside0 (w15.heap[gb197]? = some (.cells #[.int .i64 ((rd_T144 l0 x4_1).f0), .int .i64 ((rd_T144 l0 x4_1).f1), .int .i64 ((rd_T144 l0 x4_1).f2), .int .i64 ((rd_T144 l0 x4_1).f3), .slice Ao13 y202.length co13, .bool ((rd_T144 l0 x4_1).f5)] 144 (0, 0))) := ⟨(by rw [hw]; exact (by (with_reducible repeat (first | refine blk_drewN ?_ _ | refine blk_drew ?_ | refine blk_alloc ?_ _)); refine blk_put (cs := #[.int .i64 ((rd_T144 l0 x4_1).f0), .int .i64 ((rd_T144 l0 x4_1).f1), .int .i64 ((rd_T144 l0 x4_1).f2), .int .i64 ((rd_T144 l0 x4_1).f3), .slice A196_4 ((rd_T144 l0 x4_1).f4).length c196_4, .bool ((rd_T144 l0 x4_1).f5)]) ?_ 4 _ rfl; (with_reducible repeat (first | refine blk_drewN ?_ _ | refine blk_drew ?_ | refine blk_alloc ?_ _)); exact BK197.out))⟩; have n3_ : Aside0 (Below w.heap.size w w15) := ⟨(by rw [hw]; exact (by repeat (first | (with_reducible first | exact HB.out | apply below_alloc | apply pw_below_drewN | apply below_drew1 | refine below_set ?_ GE197.out) | exact HB.out)))⟩; clear hw; clear HO_3; clear HO204; clear BK197; clear HB; have HO_3 := n0_; have HO204 := n1_; (try have hv1_204 := fun (W_ : World) (a_ : Addr) (m_ : Mode) => run_store Try.prog W_ a_ _ m_ (Kd.R_val HO204.out).2); have BK197 := n2_; have HB := n3_; clear n0_ n1_ n2_ n3_; have hcz16_0 : w15.cell? ⟨gb197, 0, none⟩ = some (.int .i64 ((rd_T144 l0 x4_1).f0)) := (blk_cell BK197.out 0).trans rfl; have hcz16_1 : w15.cell? ⟨gb197, 1, none⟩ = some (.int .i64 ((rd_T144 l0 x4_1).f1)) := (blk_cell BK197.out 1).trans rfl; have hcz16_2 : w15.cell? ⟨gb197, 2, none⟩ = some (.int .i64 ((rd_T144 l0 x4_1).f2)) := (blk_cell BK197.out 2).trans rfl; have hcz16_3 : w15.cell? ⟨gb197, 3, none⟩ = some (.int .i64 ((rd_T144 l0 x4_1).f3)) := (blk_cell BK197.out 3).trans rfl; have hcz16_4 : w15.cell? ⟨gb197, 4, none⟩ = some (.slice Ao13 y202.length co13) := (blk_cell BK197.out 4).trans rfl; have hcz16_5 : w15.cell? ⟨gb197, 5, none⟩ = some (.bool ((rd_T144 l0 x4_1).f5)) := (blk_cell BK197.out 5).trans rfl; have hfz16_0 := blk_frozen BK197.out 0; have hfz16_1 := blk_frozen BK197.out 1; have hfz16_2 := blk_frozen BK197.out 2; have hfz16_3 := blk_frozen BK197.out 3; have hfz16_4 := blk_frozen BK197.out 4; have hfz16_5 := blk_frozen BK197.out 5) | ((with_reducible refine gate_builtin (b := .append) (xs := #[.tmp 25, .tmp 27]) rfl ?_); at_builtin; refine Kd.S_append k144 (w0 := w) w.heap.size rfl (.tmp 25) (.tmp 27) 64 144 (.agg #[(.int .i64 0), (.int .i64 0), (.int .i64 0), (.int .i64 0), (.slice none 0 0), (.bool false)]) 64 rfl Try.underlying64 info144 rfl (by decide) (by omega) u3 x3_1 (⟨(rd_T144 l0 x4_1).f0, (rd_T144 l0 x4_1).f1, (rd_T144 l0 x4_1).f2, (rd_T144 l0 x4_1).f3, y202, (rd_T144 l0 x4_1).f5⟩ : S144) [.int .i64 ((rd_T144 l0 x4_1).f0), .int .i64 ((rd_T144 l0 x4_1).f1), .int .i64 ((rd_T144 l0 x4_1).f2), .int .i64 ((rd_T144 l0 x4_1).f3), .slice Ao13 y202.length co13, .bool ((rd_T144 l0 x4_1).f5)] (fun k_ => k_ ≠ gb197) (fun k_ => some k_ = (.slice Ao13 y202.length co13 : Value).ownBlock) rfl rfl ?aP (fun k_ hk_ => ((Kd.R_mono (ok' := fun k_ => ((fun k_ => k_ ≠ gb197)) k_ ∧ some k_ ≠ (u3 : Value).ownBlock) (Kd.R_types (Kd.R_apart' (HO204.out) (Kd.S_typed HO_3.out) (by decide)) BK197.out (by decide)) (fun k_ hk => ⟨hk.2, hk.1.2⟩))).1 k_ hk_.symm) ?aF ?aO ?aB ?aS ?aL ?_; (case aP => exact k144_mkM _ _ _ (⟨(rd_T144 l0 x4_1).f0, (rd_T144 l0 x4_1).f1, (rd_T144 l0 x4_1).f2, (rd_T144 l0 x4_1).f3, y202, (rd_T144 l0 x4_1).f5⟩ : S144) (Kd.R_mono (Kd.R_tight rfl (Kd.R_mono (ok' := fun k_ => ((fun k_ => k_ ≠ gb197)) k_ ∧ some k_ ≠ (u3 : Value).ownBlock) (Kd.R_types (Kd.R_apart' (HO204.out) (Kd.S_typed HO_3.out) (by decide)) BK197.out (by decide)) (fun k_ hk => ⟨hk.2, hk.1.2⟩))) (fun _ h_ => h_))); (case aB => exact (by repeat (first | (with_reducible first | exact HB.out | apply below_alloc | apply pw_below_drewN | apply below_drew1 | refine below_set ?_ GE197.out) | exact HB.out))); (case aF => exact (fun k_ hk => Kd.freshB (g := gb197) (o := .cells #[.int .i64 ((rd_T144 l0 x4_1).f0), .int .i64 ((rd_T144 l0 x4_1).f1), .int .i64 ((rd_T144 l0 x4_1).f2), .int .i64 ((rd_T144 l0 x4_1).f3), .slice Ao13 y202.length co13, .bool ((rd_T144 l0 x4_1).f5)] 144 (0, 0)) (by (with_reducible repeat (first | refine blk_drewN ?_ _ | refine blk_drew ?_ | refine blk_alloc ?_ _)); exact BK197.out) k_ hk)); (case aO => exact (by (with_reducible repeat (first | apply Kd.S_alloc | apply Kd.S_drewN | apply Kd.S_drew)); exact Kd.S_mono HO_3.out (fun k_ hk => ⟨hk.2, fun e_ => hk.1 e_⟩))); (case aS => exact (below_size (by repeat (first | (with_reducible first | exact HB.out | apply below_alloc | apply pw_below_drewN | apply below_drew1 | refine below_set ?_ GE197.out) | exact HB.out)))); (case aL => have := LMc7.out; omega); intro v206 w17 ho hb hg hat; rw [← Ny205.out] at ho; have n0_ := Aside0.mk (blk_grown (g := gb197) (o := .cells #[.int .i64 ((rd_T144 l0 x4_1).f0), .int .i64 ((rd_T144 l0 x4_1).f1), .int .i64 ((rd_T144 l0 x4_1).f2), .int .i64 ((rd_T144 l0 x4_1).f3), .slice Ao13 y202.length co13, .bool ((rd_T144 l0 x4_1).f5)] 144 (0, 0)) (by (with_reducible repeat (first | refine blk_drewN ?_ _ | refine blk_drew ?_ | refine blk_alloc ?_ _)); exact BK197.out) hg (Kd.S_away HO_3.out (fun _ hk => hk.2))); have n1_ := Aside0.mk (hb); have n2_ := Aside0.mk (ho); clear BK197; clear HB; clear HO_3; clear HO204; have BK197 := n0_; have HB := n1_; have HO207 := n2_; (try have hv1_207 := fun (W_ : World) (a_ : Addr) (m_ : Mode) => run_store Try.prog W_ a_ _ m_ (Kd.R_val HO207.out).2); clear n0_ n1_ n2_; clear ho hb hg hat))
              go_roundg k1
              case measure => have := HK1.out; omega
              case rel => exact ⟨(y205), (wrap64 (x4_1 + 1)), (by first | rfl | (simp; done) | (simp [*]; done)), H', ⟨by have := HK1.out; omega⟩, ⟨by (with_reducible repeat (first | apply Kd.S_alloc | apply Kd.S_drewN | apply Kd.S_drew)); exact Kd.S_mono HO207.out (fun _ hk => trivial)⟩, ⟨by repeat (first | (with_reducible first | exact HB.out | apply below_alloc | apply pw_below_drewN | apply below_drew1 | refine below_set ?_ GE197.out) | exact HB.out)⟩⟩
            · rw [if_neg c7] at H
              exact absurd H (by simp)
          · rw [if_neg c6] at H
            exact absurd H (by simp)
        · rw [if_neg c5] at H
          exact absurd H (by simp)
      · rw [if_neg c4] at H
        have c4b0 : decide (x4_1 < (l0.length : Int)) = false := decide_eq_false c4
        clear c4
        obtain rfl := Option.some.inj H
        go_wp2
        go_ret
        exact ⟨_, by first | rfl | (simp [errW_none, errW_some] <;> rfl) | (simp [*, errW_none, errW_some] <;> rfl), by (with_reducible repeat (first | apply Kd.S_alloc | apply Kd.S_drewN | apply Kd.S_drew)); exact HO_3.out, by repeat (first | (with_reducible first | exact HB.out | apply below_alloc | apply pw_below_drewN | apply below_drew1) | exact HB.out)⟩

end Go.Proofs.Ytplfbjbbnjlnkaa.QFnExactDeclareEmergency
