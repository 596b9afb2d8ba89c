/- The machine side of FnExactAreEmergencies: what each function that it reaches computes, and that the machine's call gives just that. -/
import Derived.Test.YtplfbjbbnjlnkaaQFnExactAreEmergenciesx0
import Derived.Test.YtplfbjbbnjlnkaaQFnExactAreEmergenciesx1
import Derived.Test.YtplfbjbbnjlnkaaQFnExactAreEmergenciesx2
namespace Go.Proofs.Ytplfbjbbnjlnkaa.QFnExactAreEmergencies
open Go.RowKit Go.Proofs.YtplfbjbbnjlnkaaW.PrintWords Go.Proofs.YtplfbjbbnjlnkaaW.PrintLast Go.Proofs.YtplfbjbbnjlnkaaW.PrintMore
attribute [local go_sem] max2_int min2_int max_two min_two max_three min_three max_four min_four   -- for this text's walks alone
set_option linter.unusedVariables false
set_option linter.unusedSimpArgs false

/-! ### spec_AreEmergencies: function 41 -/
def spec_AreEmergencies.l0 : Nat → List (S144) → Int → List Int → List Int → Int → Option (Bool)
  | 0, _, _, _, _, _ => none
  | k + 1, x1, x5, x135000, x135001, x135002 => if x5 < (x1.length : Int) then (if 0 ≤ x5 then (if ((rd_T144 x1 x5).f0) = (wrap64 (x5 + 1)) then ((spec_l13Has.f k x135000 ((rd_T144 x1 x5).f1)).bind fun t137 => (if t137 = true then ((spec_IsTime.f ((rd_T144 x1 x5).f2)).bind fun t138 => (if t138 = true then (if x5 > 0 then (if 0 ≤ (wrap64 (x5 - 1)) then (if (wrap64 (x5 - 1)) < (x1.length : Int) then (if ((rd_T144 x1 (wrap64 (x5 - 1))).f2) > ((rd_T144 x1 x5).f2) then (some false) else ((spec_EndOf.f ((rd_T144 x1 x5).f2) x135002).bind fun t140 => (if ((rd_T144 x1 x5).f3) = t140 then ((spec_l30Under.f k ((rd_T144 x1 x5).f4) x135001).bind fun t141 => (if t141 = true then ((spec_DebtsOf.f k x1 ((rd_T144 x1 x5).f1)).bind fun t142 => (if (t142.length : Int) > 1 then (some false) else (spec_AreEmergencies.l0 k x1 (wrap64 (x5 + 1)) x135000 x135001 x135002))) else (some false))) else (some false)))) else (none)) else (none)) else ((spec_EndOf.f ((rd_T144 x1 x5).f2) x135002).bind fun t145 => (if ((rd_T144 x1 x5).f3) = t145 then ((spec_l30Under.f k ((rd_T144 x1 x5).f4) x135001).bind fun t146 => (if t146 = true then ((spec_DebtsOf.f k x1 ((rd_T144 x1 x5).f1)).bind fun t147 => (if (t147.length : Int) > 1 then (some false) else (spec_AreEmergencies.l0 k x1 (wrap64 (x5 + 1)) x135000 x135001 x135002))) else (some false))) else (some false)))) else (some false))) else (some false))) else (some false)) else (none)) else ((spec_IsPlan.f k x135000 x135001 x135002).bind fun t150 => (if t150 = true then (some (decide ((x1.length : Int) ≤ 8))) else (some false)))
def spec_AreEmergencies.f (k : Nat) (l0_0 : List Int) (l0_1 : List Int) (a0_2 : Int) (l1 : List (S144)) : Option (Bool) := spec_AreEmergencies.l0 k l1 0 l0_0 l0_1 a0_2
open Go.Proofs.YtplfbjbbnjlnkaaM in
set_option maxHeartbeats 8000000 in
set_option maxRecDepth 100000 in
theorem spec_AreEmergencies.calls (k : Nat) (A0_0 : Option Addr) (c0_0 : Nat) (l0_0 : List Int) (A0_1 : Option Addr) (c0_1 : Nat) (l0_1 : List Int) (a0_2 : Int) (A1 : Option Addr) (c1 : Nat) (l1 : List (S144)) (r : Bool) (w : World) (hr0_0 : Kd.C (Kd.int .i64) w A0_0 l0_0.length l0_0) (hc0_0 : l0_0.length ≤ c0_0) (hr0_1 : Kd.C (Kd.int .i64) w A0_1 l0_1.length l0_1) (hc0_1 : l0_1.length ≤ c0_1) (hr1 : Kd.C k144 w A1 l1.length l1) (hc1 : l1.length ≤ c1) (h : spec_AreEmergencies.f k l0_0 l0_1 a0_2 l1 = some r) :
    Calls Try.prog 41 #[.agg #[.slice A0_0 l0_0.length c0_0, .slice A0_1 l0_1.length c0_1, .int .i64 a0_2], .slice A1 l1.length c1] w fun e w' => e = .returned (.bool r) ∧ Below w.heap.size w w' := by
  have HR0_0 := Aside0.mk hr0_0
  have HC0_0 := Aside0.mk hc0_0
  clear hr0_0 hc0_0
  have HR0_1 := Aside0.mk hr0_1
  have HC0_1 := Aside0.mk hc0_1
  clear hr0_1 hc0_1
  have HR1 := Aside0.mk hr1
  have HC1 := Aside0.mk hc1
  clear hr1 hc1
  have HB := Aside0.mk (Below.refl w.heap.size w)
  have H := h
  clear h
  unfold spec_AreEmergencies.f at H
  have hu62 := Try.underlying62
  have hu144 := Try.underlying144
  go_enter Try.func41, Try.ntmps41
  replace H := Aside0.mk H
  go_upto_region 1 with (first | ((with_reducible refine gate_dst (N := 2) rfl ?_); refine box_event ?hg (N := 2) ?hd (cs := #[.slice A0_0 l0_0.length c0_0, .slice A0_1 l0_1.length c0_1, .int .i64 a0_2]) (t := 62) ?hr ?_; (case hd => rfl); (case hg => rfl); (case hr => first | (go_simp; done) | (go_simp; rfl)); intro gb1 hg W1 hbox hb; replace HB := bH HB hb; clear hb; have BK1 := Aside0.mk hbox; have c_BK1 := blk_cell hbox; have z_BK1 := blk_frozen hbox; clear hg hbox))
  replace H := H.out
  replace H := Aside0.mk H
  go_wp2
  go_loopg [5] k (fun kq v5 w' => ∃ (x5_2 : Int), v5 = .int .i64 x5_2 ∧ Aside0 (spec_AreEmergencies.l0 kq l1 x5_2 l0_0 l0_1 a0_2 = some r) ∧ Aside0 (kq ≤ k) ∧ Aside0 (w'.heap[gb1]? = some (.cells #[.slice A0_0 l0_0.length c0_0, .slice A0_1 l0_1.length c0_1, .int .i64 a0_2] 62 (0, 0))) ∧ Aside0 (Below w.heap.size w w'))
  case atStart => exact ⟨(0), (by first | rfl | (simp; done) | (simp [*]; done)), H, ⟨Nat.le_refl _⟩, BK1, HB⟩
  case round =>
    clear H HB BK1 c_BK1 z_BK1
    obtain ⟨x5_2, rfl, HA, Hk2, BK1, HB⟩ := hrel
    have c_BK1 := blk_cell BK1.out; have z_BK1 := blk_frozen BK1.out
    cases gk with
    | zero => exact absurd HA.out (by simp [spec_AreEmergencies.l0])
    | succ k2 =>
      have H := HA.out
      clear HA
      simp only [spec_AreEmergencies.l0] at H
      by_cases c3 : x5_2 < (l1.length : Int)
      · rw [if_pos c3] at H
        have c3_0 := decT c3
        replace c3 := Aside0.mk c3
        first | rw [c3_0] | skip
        by_cases c4 : 0 ≤ x5_2
        · rw [if_pos c4] at H
          have c4_0 := decT c4
          replace c4 := Aside0.mk c4
          first | rw [c4_0] | skip
          have p135 : 0 ≤ (x5_2 : Int) := (of_decide_eq_true (by assumption))
          have q135 : x5_2 < (l1.length : Int) := (of_decide_eq_true (by assumption))
          obtain ⟨ad135, A135_4, c135_4, e135, hx135_0, hx135_1, hx135_2, hx135_3, hx135_4, hx135_5, hl135_4, hi135_4⟩ := at_T144 HR1.out x5_2 p135 q135
          cases e135
          have HR135_4 := Aside0.mk hi135_4; have HC135_4 := Aside0.mk hl135_4; clear hi135_4 hl135_4
          replace hx135_0 := Aside0.mk hx135_0
          have y135_0 := xC HB hx135_0
          replace hx135_1 := Aside0.mk hx135_1
          have y135_1 := xC HB hx135_1
          replace hx135_2 := Aside0.mk hx135_2
          have y135_2 := xC HB hx135_2
          replace hx135_3 := Aside0.mk hx135_3
          have y135_3 := xC HB hx135_3
          replace hx135_4 := Aside0.mk hx135_4
          have y135_4 := xC HB hx135_4
          replace hx135_5 := Aside0.mk hx135_5
          have y135_5 := xC HB hx135_5
          have r135 := eq_true p135; have s135 := eq_true q135
          replace p135 := Aside0.mk p135; replace q135 := Aside0.mk q135
          replace H := Aside0.mk H
          go_upto_region 5 with (first | ((with_reducible refine gate_dst (N := 6) rfl ?_); refine box_event ?hg (N := 6) ?hd (cs := #[.int .i64 0, .int .i64 0, .int .i64 0, .int .i64 0, .slice none 0 0, .bool false]) (t := 144) ?hr ?_; (case hd => rfl); (case hg => rfl); (case hr => first | (go_simp; done) | (go_simp; rfl)); intro gb5 hg W5 hbox hb; have G5 := Aside0.mk hg; have b0_ := Aside0.mk hb; have BK5 := Aside0.mk hbox; have c_BK5 := blk_cell hbox; have z_BK5 := blk_frozen hbox; clear hg hb hbox) | ((with_reducible refine gate_store (t := 144) (p := 6) rfl ?_); refine store_event (t := 144) (p := 6) (v := ?vo_s6) (w1 := ((((((W5.setCell ⟨gb5, 0, none⟩ (.int .i64 ((rd_T144 l1 x5_2).f0))).setCell ⟨gb5, 1, none⟩ (.int .i64 ((rd_T144 l1 x5_2).f1))).setCell ⟨gb5, 2, none⟩ (.int .i64 ((rd_T144 l1 x5_2).f2))).setCell ⟨gb5, 3, none⟩ (.int .i64 ((rd_T144 l1 x5_2).f3))).setCell ⟨gb5, 4, none⟩ (.slice A135_4 ((rd_T144 l1 x5_2).f4).length c135_4)).setCell ⟨gb5, 5, none⟩ (.bool ((rd_T144 l1 x5_2).f5)))) ?hg ?ho ?hn ?hr ?_; (case ho => rfl); (case hg => rfl); (case hn => rfl); (case hr => first | (go_simp; done) | (go_simp; rfl)); intro W6 hw; have hb : Below wr.heap.size wr W6 := (by rw [hw]; exact bSet (bSet (bSet (bSet (bSet (bSet (b0_.out) (Nat.le_of_eq G5.out.symm)) (Nat.le_of_eq G5.out.symm)) (Nat.le_of_eq G5.out.symm)) (Nat.le_of_eq G5.out.symm)) (Nat.le_of_eq G5.out.symm)) (Nat.le_of_eq G5.out.symm)); clear b0_; have h_ := blk_set (blk_set (blk_set (blk_set (blk_set (blk_set (BK5.out) 0 (.int .i64 ((rd_T144 l1 x5_2).f0))) 1 (.int .i64 ((rd_T144 l1 x5_2).f1))) 2 (.int .i64 ((rd_T144 l1 x5_2).f2))) 3 (.int .i64 ((rd_T144 l1 x5_2).f3))) 4 (.slice A135_4 ((rd_T144 l1 x5_2).f4).length c135_4)) 5 (.bool ((rd_T144 l1 x5_2).f5)); rw [← hw] at h_; simp only [List.setIfInBounds_toArray, List.set_cons_zero, List.set_cons_succ] at h_; clear BK5 c_BK5 z_BK5 hw; replace BK1 := bK BK1 hb; replace c_BK1 := blk_cell BK1.out; replace z_BK1 := blk_frozen BK1.out; replace HB := bH HB hb; clear hb; have BK5 := Aside0.mk h_; have c_BK5 := blk_cell h_; have z_BK5 := blk_frozen h_; clear h_ G5))
          try clear y135_0 y135_1 y135_2 y135_3 y135_4 y135_5
          clear c_BK1 z_BK1; have rBK1 := BK1; replace BK1 := dK BK1
          clear c_BK5 z_BK5; have rBK5 := BK5; replace BK5 := dK BK5
          have HBr := HB; replace HB := dH HB
          refine stA (n := 60) (S := fun w' => Below W6.heap.size W6 w') (by kernel_rfl) rfl (below_drew1 (Below.refl _ W6)) (by kernel_rfl) (fun hHeld => ?_)
          generalize W6.drew = W7 at HB BK1 BK5 hHeld ⊢
          replace H := H.out
          replace H := Aside0.mk H
          refine pu 0 (some 17) 1 ?_; refine pu 2 (some 19) 5 ?_; refine pu 3 (some 20) 13 ?_; refine ld 1 (some 18) 15 hHeld ?_ (hr := by (intro w' h_; have y_ := kD rBK5 h_; go_simp; with_reducible rfl))
          replace H := H.out
          by_cases c8 : ((rd_T144 l1 x5_2).f0) = (wrap64 (x5_2 + 1))
          · rw [if_pos c8] at H
            have c8_0 := decT c8; have c8_1 := eqT c8; have c8_2 := neT c8
            clear c8
            first | rw [c8_1] | rw [c8_2] | skip
            replace H := Option.bind_eq_some_iff.mp H
            obtain ⟨t137, hm, H⟩ := H
            try dsimp only at H
            replace hm := Aside0.mk hm
            replace H := Aside0.mk H
            refine pu 4 (some 21) 31 ?_; refine pu 5 (some 22) 63 ?_; refine pu 6 (some 23) 127 ?_; refine pu 8 (some 25) 383 ?_; refine ld 7 (some 24) 511 hHeld ?_ (hr := by (intro w' h_; have y_ := kD rBK1 h_; go_simp; with_reducible rfl)); refine ld 9 (some 26) 1023 hHeld ?_ (hr := by (intro w' h_; have y_ := kD rBK5 h_; go_simp; with_reducible rfl))
            replace H := H.out
            replace H := Aside0.mk H
            refine on 10 (some 27) 2047 (fun K hK => ?_)
            have hcall := spec_l13Has.calls k2 _ _ _ _ _ W7 (Kd.C_below HR0_0.out HB.out) HC0_0.out hm.out
            refine goes_ Try.func103 (by kernel_rfl) rfl #[.slice A0_0 l0_0.length c0_0, .int .i64 ((rd_T144 l1 x5_2).f1)] (by rfl) rfl rfl (by (try simp only [List.map_toArray, List.map_cons, List.map_nil]); first | done | rfl) ?_
            refine hcall.mono ?_
            rintro e W10 ⟨rfl, hb⟩
            refine ⟨_, rfl, ?_⟩
            clear hcall hm
            replace hHeld := below_step hHeld hb
            replace BK1 := bK BK1 hb
            replace BK5 := bK BK5 hb
            replace HB := bH HB hb; clear hb
            refine hK.out _ _ hHeld (fun hHeld => ?_)
            clear hK K
            refine nr 27 ?_
            replace H := H.out
            by_cases c11 : t137 = true
            · rw [if_pos c11] at H
              subst c11
              replace H := Option.bind_eq_some_iff.mp H
              obtain ⟨t138, hm, H⟩ := H
              try dsimp only at H
              replace hm := Aside0.mk hm
              replace H := Aside0.mk H
              refine pu 11 (some 28) 4095 ?_; refine pu 12 (some 29) 8191 ?_; refine pu 13 (some 30) 16383 ?_; refine pu 14 (some 31) 32767 ?_; refine ld 15 (some 32) 65535 hHeld ?_ (hr := by (intro w' h_; have y_ := kD rBK5 h_; go_simp; with_reducible rfl))
              replace H := H.out
              replace H := Aside0.mk H
              refine on 16 (some 33) 131071 (fun K hK => ?_)
              have hcall := spec_IsTime.calls _ _ W10  hm.out
              refine goes_ Try.func104 (by kernel_rfl) rfl #[.int .i64 ((rd_T144 l1 x5_2).f2)] (by rfl) rfl rfl (by (try simp only [List.map_toArray, List.map_cons, List.map_nil]); first | done | rfl) ?_
              refine hcall.mono ?_
              rintro e W13 ⟨rfl, hb⟩
              refine ⟨_, rfl, ?_⟩
              clear hcall hm
              replace hHeld := below_step hHeld hb
              replace BK1 := bK BK1 hb
              replace BK5 := bK BK5 hb
              replace HB := bH HB hb; clear hb
              refine hK.out _ _ hHeld (fun hHeld => ?_)
              clear hK K
              refine nr 33 ?_
              replace H := H.out
              by_cases c14 : t138 = true
              · rw [if_pos c14] at H
                subst c14
                by_cases c15 : x5_2 > 0
                · rw [if_pos c15] at H
                  replace c15 : 0 < x5_2 := c15
                  have c15_0 := decT c15
                  replace c15 := Aside0.mk c15
                  first | rw [c15_0] | skip
                  by_cases c16 : 0 ≤ (wrap64 (x5_2 - 1))
                  · rw [if_pos c16] at H
                    have c16_0 := decT c16
                    replace c16 := Aside0.mk c16
                    first | rw [c16_0] | skip
                    by_cases c17 : (wrap64 (x5_2 - 1)) < (l1.length : Int)
                    · rw [if_pos c17] at H
                      have c17_0 := decT c17
                      replace c17 := Aside0.mk c17
                      first | rw [c17_0] | skip
                      have p139 : 0 ≤ ((wrap64 (x5_2 - 1)) : Int) := (of_decide_eq_true (by assumption))
                      have q139 : (wrap64 (x5_2 - 1)) < (l1.length : Int) := (of_decide_eq_true (by assumption))
                      obtain ⟨ad139, A139_4, c139_4, e139, hx139_0, hx139_1, hx139_2, hx139_3, hx139_4, hx139_5, hl139_4, hi139_4⟩ := at_T144 HR1.out (wrap64 (x5_2 - 1)) p139 q139
                      obtain rfl : ad135 = ad139 := by injection e139
                      have HR139_4 := Aside0.mk hi139_4; have HC139_4 := Aside0.mk hl139_4; clear hi139_4 hl139_4
                      replace hx139_0 := Aside0.mk hx139_0
                      replace hx139_1 := Aside0.mk hx139_1
                      replace hx139_2 := Aside0.mk hx139_2
                      replace hx139_3 := Aside0.mk hx139_3
                      replace hx139_4 := Aside0.mk hx139_4
                      replace hx139_5 := Aside0.mk hx139_5
                      have r139 := eq_true p139; have s139 := eq_true q139
                      replace p139 := Aside0.mk p139; replace q139 := Aside0.mk q139
                      by_cases c18 : ((rd_T144 l1 (wrap64 (x5_2 - 1))).f2) > ((rd_T144 l1 x5_2).f2)
                      · rw [if_pos c18] at H
                        replace c18 : ((rd_T144 l1 x5_2).f2) < ((rd_T144 l1 (wrap64 (x5_2 - 1))).f2) := c18
                        have c18_0 := decT c18
                        replace c18 := Aside0.mk c18
                        first | rw [c18_0] | skip
                        replace H := Aside0.mk H
                        refine pu 17 (some 34) 262143 ?_; refine pu 18 (some 35) 524287 ?_; refine pu 19 (some 36) 1048575 ?_; refine pu 20 (some 37) 2097151 ?_; refine pu 21 (some 38) 4194303 ?_; refine pu 22 (some 39) 8388607 ?_; refine pu 23 (some 40) 16777215 ?_; refine pu 24 (some 41) 33554431 ?_; refine pu 25 (some 42) 67108863 ?_; refine pu 26 (some 43) 134217727 ?_; refine pu 27 (some 44) 268435455 ?_; refine pu 29 (some 46) 805306367 ?_; refine ld 28 (some 45) 1073741823 hHeld ?_ (hr := by (intro w' h_; have y0_ := xD HBr h_ hx139_0; have y1_ := xD HBr h_ hx139_1; have y2_ := xD HBr h_ hx139_2; have y3_ := xD HBr h_ hx139_3; have y4_ := xD HBr h_ hx139_4; have y5_ := xD HBr h_ hx139_5; go_simp; with_reducible rfl)); refine ld 30 (some 47) 2147483647 hHeld ?_ (hr := by (intro w' h_; have y_ := kD rBK5 h_; go_simp; with_reducible rfl)); refine pu 31 (some 48) 4294967295 ?_; refine pu 32 (some 49) 8589934591 ?_; refine pu 33 (some 50) 17179869183 ?_; refine pu 34 (some 51) 34359738367 ?_; refine sk 35 (some 52) 68719476735 ?_; refine sk 36 (some 53) 137438953471 ?_; refine sk 37 (some 54) 274877906943 ?_; refine sk 38 (some 55) 549755813887 ?_; refine sk 39 (some 56) 1099511627775 ?_; refine sk 40 (some 57) 2199023255551 ?_; refine sk 41 (some 58) 4398046511103 ?_; refine sk 42 (some 59) 8796093022207 ?_; refine pu 43 (some 60) 17592186044415 ?_; refine pu 44 (some 61) 35184372088831 ?_; refine sk 45 (some 62) 70368744177663 ?_; refine sk 46 (some 63) 140737488355327 ?_; refine sk 47 (some 64) 281474976710655 ?_; refine sk 48 (some 65) 562949953421311 ?_; refine sk 49 (some 66) 1125899906842623 ?_; refine sk 50 (some 67) 2251799813685247 ?_; refine pu 51 (some 68) 4503599627370495 ?_; refine pu 52 (some 69) 9007199254740991 ?_; refine sk 53 (some 70) 18014398509481983 ?_; refine sk 54 (some 71) 36028797018963967 ?_; refine sk 55 (some 72) 72057594037927935 ?_; refine sk 56 (some 73) 144115188075855871 ?_; refine sk 57 (some 74) 288230376151711743 ?_; refine sk 58 (some 75) 576460752303423487 ?_; refine pu 59 (some 76) 1152921504606846975 ?_
                        replace H := H.out
                        replace H := Aside0.mk H
                        refine dn (by kernel_rfl) ?_
                        clear hHeld HBr rBK1 rBK5
                        have c_BK1 := blk_cell BK1.out; have z_BK1 := blk_frozen BK1.out
                        have c_BK5 := blk_cell BK5.out; have z_BK5 := blk_frozen BK5.out
                        replace H := H.out
                        obtain rfl := Option.some.inj H
                        clear H
                        go_wp2
                        go_ret
                        exact ⟨rfl, HB.out⟩
                      · rw [if_neg c18] at H
                        replace c18 : ¬ (((rd_T144 l1 x5_2).f2) < ((rd_T144 l1 (wrap64 (x5_2 - 1))).f2)) := c18
                        have c18_0 := decF c18
                        replace c18 := Aside0.mk c18
                        first | rw [c18_0] | skip
                        replace H := Option.bind_eq_some_iff.mp H
                        obtain ⟨t140, hm, H⟩ := H
                        try dsimp only at H
                        replace hm := Aside0.mk hm
                        replace H := Aside0.mk H
                        refine pu 17 (some 34) 262143 ?_; refine pu 18 (some 35) 524287 ?_; refine pu 19 (some 36) 1048575 ?_; refine pu 20 (some 37) 2097151 ?_; refine pu 21 (some 38) 4194303 ?_; refine pu 22 (some 39) 8388607 ?_; refine pu 23 (some 40) 16777215 ?_; refine pu 24 (some 41) 33554431 ?_; refine pu 25 (some 42) 67108863 ?_; refine pu 26 (some 43) 134217727 ?_; refine pu 27 (some 44) 268435455 ?_; refine pu 29 (some 46) 805306367 ?_; refine ld 28 (some 45) 1073741823 hHeld ?_ (hr := by (intro w' h_; have y0_ := xD HBr h_ hx139_0; have y1_ := xD HBr h_ hx139_1; have y2_ := xD HBr h_ hx139_2; have y3_ := xD HBr h_ hx139_3; have y4_ := xD HBr h_ hx139_4; have y5_ := xD HBr h_ hx139_5; go_simp; with_reducible rfl)); refine ld 30 (some 47) 2147483647 hHeld ?_ (hr := by (intro w' h_; have y_ := kD rBK5 h_; go_simp; with_reducible rfl)); refine pu 31 (some 48) 4294967295 ?_; refine pu 32 (some 49) 8589934591 ?_; refine pu 33 (some 50) 17179869183 ?_; refine pu 34 (some 51) 34359738367 ?_; refine pu 35 (some 52) 68719476735 ?_; refine pu 37 (some 54) 206158430207 ?_; refine pu 39 (some 56) 755914244095 ?_; refine ld 36 (some 53) 824633720831 hHeld ?_ (hr := by (intro w' h_; have y_ := kD rBK5 h_; go_simp; with_reducible rfl)); refine ld 38 (some 55) 1099511627775 hHeld ?_ (hr := by (intro w' h_; have y_ := kD rBK5 h_; go_simp; with_reducible rfl)); refine ld 40 (some 57) 2199023255551 hHeld ?_ (hr := by (intro w' h_; have y_ := kD rBK1 h_; go_simp; with_reducible rfl))
                        replace H := H.out
                        replace H := Aside0.mk H
                        refine on 41 (some 58) 4398046511103 (fun K hK => ?_)
                        have hcall := spec_EndOf.calls _ _ _ W13  hm.out
                        refine goes_ Try.func105 (by kernel_rfl) rfl #[.int .i64 ((rd_T144 l1 x5_2).f2), .int .i64 a0_2] (by rfl) rfl rfl (by (try simp only [List.map_toArray, List.map_cons, List.map_nil]); first | done | rfl) ?_
                        refine hcall.mono ?_
                        rintro e W20 ⟨rfl, hb⟩
                        refine ⟨_, rfl, ?_⟩
                        clear hcall hm
                        replace hHeld := below_step hHeld hb
                        replace BK1 := bK BK1 hb
                        replace BK5 := bK BK5 hb
                        replace HB := bH HB hb; clear hb
                        refine hK.out _ _ hHeld (fun hHeld => ?_)
                        clear hK K
                        refine nr 58 ?_
                        replace H := H.out
                        by_cases c21 : ((rd_T144 l1 x5_2).f3) = t140
                        · rw [if_pos c21] at H
                          have c21_0 := decT c21; have c21_1 := eqT c21; have c21_2 := neT c21
                          clear c21
                          first | rw [c21_1] | rw [c21_2] | skip
                          replace H := Option.bind_eq_some_iff.mp H
                          obtain ⟨t141, hm, H⟩ := H
                          try dsimp only at H
                          replace hm := Aside0.mk hm
                          replace H := Aside0.mk H
                          refine pu 42 (some 59) 8796093022207 ?_; refine pu 43 (some 60) 17592186044415 ?_; refine pu 44 (some 61) 35184372088831 ?_; refine pu 45 (some 62) 70368744177663 ?_; refine pu 47 (some 64) 211106232532991 ?_; refine ld 46 (some 63) 281474976710655 hHeld ?_ (hr := by (intro w' h_; have y_ := kD rBK5 h_; go_simp; with_reducible rfl)); refine ld 48 (some 65) 562949953421311 hHeld ?_ (hr := by (intro w' h_; have y_ := kD rBK1 h_; go_simp; with_reducible rfl))
                          replace H := H.out
                          replace H := Aside0.mk H
                          refine on 49 (some 66) 1125899906842623 (fun K hK => ?_)
                          have hcall := spec_l30Under.calls k2 _ _ _ _ _ _ _ W20 (Kd.C_below HR135_4.out HB.out) HC135_4.out (Kd.C_below HR0_1.out HB.out) HC0_1.out hm.out
                          refine goes_ Try.func106 (by kernel_rfl) rfl #[.slice A135_4 ((rd_T144 l1 x5_2).f4).length c135_4, .slice A0_1 l0_1.length c0_1] (by rfl) rfl rfl (by (try simp only [List.map_toArray, List.map_cons, List.map_nil]); first | done | rfl) ?_
                          refine hcall.mono ?_
                          rintro e W23 ⟨rfl, hb⟩
                          refine ⟨_, rfl, ?_⟩
                          clear hcall hm
                          replace hHeld := below_step hHeld hb
                          replace BK1 := bK BK1 hb
                          replace BK5 := bK BK5 hb
                          replace HB := bH HB hb; clear hb
                          refine hK.out _ _ hHeld (fun hHeld => ?_)
                          clear hK K
                          refine nr 66 ?_
                          replace H := H.out
                          by_cases c24 : t141 = true
                          · rw [if_pos c24] at H
                            subst c24
                            replace H := Option.bind_eq_some_iff.mp H
                            obtain ⟨t142, hm, H⟩ := H
                            try dsimp only at H
                            replace hm := Aside0.mk hm
                            replace H := Aside0.mk H
                            refine pu 50 (some 67) 2251799813685247 ?_; refine pu 51 (some 68) 4503599627370495 ?_; refine pu 52 (some 69) 9007199254740991 ?_; refine pu 53 (some 70) 18014398509481983 ?_; refine pu 54 (some 71) 36028797018963967 ?_; refine ld 55 (some 72) 72057594037927935 hHeld ?_ (hr := by (intro w' h_; have y_ := kD rBK5 h_; go_simp; with_reducible rfl))
                            replace H := H.out
                            replace H := Aside0.mk H
                            refine on 56 (some 73) 144115188075855871 (fun K hK => ?_)
                            have hcall := spec_DebtsOf.calls k2 _ _ _ _ _ W23 (Kd.C_below HR1.out HB.out) HC1.out hm.out
                            refine goes_ Try.func107 (by kernel_rfl) rfl #[.slice (some ad135) l1.length c1, .int .i64 ((rd_T144 l1 x5_2).f1)] (by rfl) rfl rfl (by (try simp only [List.map_toArray, List.map_cons, List.map_nil]); first | done | rfl) ?_
                            refine hcall.mono ?_
                            rintro e W26 ⟨v143, rfl, ho0, hb⟩
                            refine ⟨_, rfl, ?_⟩
                            clear hcall hm
                            replace hHeld := below_step hHeld hb
                            replace BK1 := bK BK1 hb
                            replace BK5 := bK BK5 hb
                            obtain ⟨A26_0, _, c26_0, rfl, rfl, hr_⟩ := R_made ho0 HB.out.size; clear ho0; have HO26_0 := Aside0.mk hr_; clear hr_
                            replace HB := bH HB hb; clear hb
                            refine hK.out _ _ hHeld (fun hHeld => ?_)
                            clear hK K
                            refine nr 73 ?_
                            replace H := H.out
                            replace H := Aside0.mk H
                            refine pu 57 (some 74) 288230376151711743 ?_; refine pu 58 (some 75) 576460752303423487 ?_; refine pu 59 (some 76) 1152921504606846975 ?_
                            replace H := H.out
                            replace H := Aside0.mk H
                            refine dn (by kernel_rfl) ?_
                            clear hHeld HBr rBK1 rBK5
                            have c_BK1 := blk_cell BK1.out; have z_BK1 := blk_frozen BK1.out
                            have c_BK5 := blk_cell BK5.out; have z_BK5 := blk_frozen BK5.out
                            replace H := H.out
                            by_cases c27 : (t142.length : Int) > 1
                            · rw [if_pos c27] at H
                              have c27_x0 : decide (1 < t142.length) = true := decide_eq_true (by omega)
                              replace c27 : 1 < (t142.length : Int) := c27
                              have c27_0 := decT c27
                              replace c27 := Aside0.mk c27
                              first | rw [c27_0] | skip
                              obtain rfl := Option.some.inj H
                              clear H
                              go_wp2
                              go_ret
                              exact ⟨rfl, HB.out⟩
                            · rw [if_neg c27] at H
                              have c27_x0 : decide (1 < t142.length) = false := decide_eq_false (by omega)
                              replace c27 : ¬ (1 < (t142.length : Int)) := c27
                              have c27_0 := decF c27
                              replace c27 := Aside0.mk c27
                              first | rw [c27_0] | skip
                              replace H := Aside0.mk H
                              go_wp2
                              go_roundg k2
                              case measure => have := Hk2.out; omega
                              case rel => exact ⟨(wrap64 (x5_2 + 1)), (by first | rfl | (simp; done) | (simp [*]; done)), H, ⟨by have := Hk2.out; omega⟩, BK1, HB⟩
                          · rw [if_neg c24] at H
                            replace c24 := (Bool.not_eq_true _).mp c24
                            subst c24
                            replace H := Aside0.mk H
                            refine pu 50 (some 67) 2251799813685247 ?_; refine pu 51 (some 68) 4503599627370495 ?_; refine pu 52 (some 69) 9007199254740991 ?_; refine sk 53 (some 70) 18014398509481983 ?_; refine sk 54 (some 71) 36028797018963967 ?_; refine sk 55 (some 72) 72057594037927935 ?_; refine sk 56 (some 73) 144115188075855871 ?_; refine sk 57 (some 74) 288230376151711743 ?_; refine sk 58 (some 75) 576460752303423487 ?_; refine pu 59 (some 76) 1152921504606846975 ?_
                            replace H := H.out
                            replace H := Aside0.mk H
                            refine dn (by kernel_rfl) ?_
                            clear hHeld HBr rBK1 rBK5
                            have c_BK1 := blk_cell BK1.out; have z_BK1 := blk_frozen BK1.out
                            have c_BK5 := blk_cell BK5.out; have z_BK5 := blk_frozen BK5.out
                            replace H := H.out
                            obtain rfl := Option.some.inj H
                            clear H
                            go_wp2
                            go_ret
                            exact ⟨rfl, HB.out⟩
                        · rw [if_neg c21] at H
                          have c21_0 := decF c21; have c21_1 := eqF c21; have c21_2 := neF c21
                          clear c21
                          first | rw [c21_1] | rw [c21_2] | skip
                          replace H := Aside0.mk H
                          refine pu 42 (some 59) 8796093022207 ?_; refine pu 43 (some 60) 17592186044415 ?_; refine pu 44 (some 61) 35184372088831 ?_; refine sk 45 (some 62) 70368744177663 ?_; refine sk 46 (some 63) 140737488355327 ?_; refine sk 47 (some 64) 281474976710655 ?_; refine sk 48 (some 65) 562949953421311 ?_; refine sk 49 (some 66) 1125899906842623 ?_; refine sk 50 (some 67) 2251799813685247 ?_; refine pu 51 (some 68) 4503599627370495 ?_; refine pu 52 (some 69) 9007199254740991 ?_; refine sk 53 (some 70) 18014398509481983 ?_; refine sk 54 (some 71) 36028797018963967 ?_; refine sk 55 (some 72) 72057594037927935 ?_; refine sk 56 (some 73) 144115188075855871 ?_; refine sk 57 (some 74) 288230376151711743 ?_; refine sk 58 (some 75) 576460752303423487 ?_; refine pu 59 (some 76) 1152921504606846975 ?_
                          replace H := H.out
                          replace H := Aside0.mk H
                          refine dn (by kernel_rfl) ?_
                          clear hHeld HBr rBK1 rBK5
                          have c_BK1 := blk_cell BK1.out; have z_BK1 := blk_frozen BK1.out
                          have c_BK5 := blk_cell BK5.out; have z_BK5 := blk_frozen BK5.out
                          replace H := H.out
                          obtain rfl := Option.some.inj H
                          clear H
                          go_wp2
                          go_ret
                          exact ⟨rfl, HB.out⟩
                    · rw [if_neg c17] at H
                      cases H
                  · rw [if_neg c16] at H
                    cases H
                · rw [if_neg c15] at H
                  replace c15 : ¬ (0 < x5_2) := c15
                  have c15_0 := decF c15
                  replace c15 := Aside0.mk c15
                  first | rw [c15_0] | skip
                  replace H := Option.bind_eq_some_iff.mp H
                  obtain ⟨t145, hm, H⟩ := H
                  try dsimp only at H
                  replace hm := Aside0.mk hm
                  replace H := Aside0.mk H
                  refine pu 17 (some 34) 262143 ?_; refine pu 18 (some 35) 524287 ?_; refine pu 19 (some 36) 1048575 ?_; refine pu 20 (some 37) 2097151 ?_; refine pu 21 (some 38) 4194303 ?_; refine pu 22 (some 39) 8388607 ?_; refine sk 23 (some 40) 16777215 ?_; refine sk 24 (some 41) 33554431 ?_; refine sk 25 (some 42) 67108863 ?_; refine sk 26 (some 43) 134217727 ?_; refine sk 27 (some 44) 268435455 ?_; refine sk 28 (some 45) 536870911 ?_; refine sk 29 (some 46) 1073741823 ?_; refine sk 30 (some 47) 2147483647 ?_; refine sk 31 (some 48) 4294967295 ?_; refine pu 32 (some 49) 8589934591 ?_; refine pu 33 (some 50) 17179869183 ?_; refine pu 34 (some 51) 34359738367 ?_; refine pu 35 (some 52) 68719476735 ?_; refine pu 37 (some 54) 206158430207 ?_; refine pu 39 (some 56) 755914244095 ?_; refine ld 36 (some 53) 824633720831 hHeld ?_ (hr := by (intro w' h_; have y_ := kD rBK5 h_; go_simp; with_reducible rfl)); refine ld 38 (some 55) 1099511627775 hHeld ?_ (hr := by (intro w' h_; have y_ := kD rBK5 h_; go_simp; with_reducible rfl)); refine ld 40 (some 57) 2199023255551 hHeld ?_ (hr := by (intro w' h_; have y_ := kD rBK1 h_; go_simp; with_reducible rfl))
                  replace H := H.out
                  replace H := Aside0.mk H
                  refine on 41 (some 58) 4398046511103 (fun K hK => ?_)
                  have hcall := spec_EndOf.calls _ _ _ W13  hm.out
                  refine goes_ Try.func105 (by kernel_rfl) rfl #[.int .i64 ((rd_T144 l1 x5_2).f2), .int .i64 a0_2] (by rfl) rfl rfl (by (try simp only [List.map_toArray, List.map_cons, List.map_nil]); first | done | rfl) ?_
                  refine hcall.mono ?_
                  rintro e W29 ⟨rfl, hb⟩
                  refine ⟨_, rfl, ?_⟩
                  clear hcall hm
                  replace hHeld := below_step hHeld hb
                  replace BK1 := bK BK1 hb
                  replace BK5 := bK BK5 hb
                  replace HB := bH HB hb; clear hb
                  refine hK.out _ _ hHeld (fun hHeld => ?_)
                  clear hK K
                  refine nr 58 ?_
                  replace H := H.out
                  by_cases c30 : ((rd_T144 l1 x5_2).f3) = t145
                  · rw [if_pos c30] at H
                    have c30_0 := decT c30; have c30_1 := eqT c30; have c30_2 := neT c30
                    clear c30
                    first | rw [c30_1] | rw [c30_2] | skip
                    replace H := Option.bind_eq_some_iff.mp H
                    obtain ⟨t146, hm, H⟩ := H
                    try dsimp only at H
                    replace hm := Aside0.mk hm
                    replace H := Aside0.mk H
                    refine pu 42 (some 59) 8796093022207 ?_; refine pu 43 (some 60) 17592186044415 ?_; refine pu 44 (some 61) 35184372088831 ?_; refine pu 45 (some 62) 70368744177663 ?_; refine pu 47 (some 64) 211106232532991 ?_; refine ld 46 (some 63) 281474976710655 hHeld ?_ (hr := by (intro w' h_; have y_ := kD rBK5 h_; go_simp; with_reducible rfl)); refine ld 48 (some 65) 562949953421311 hHeld ?_ (hr := by (intro w' h_; have y_ := kD rBK1 h_; go_simp; with_reducible rfl))
                    replace H := H.out
                    replace H := Aside0.mk H
                    refine on 49 (some 66) 1125899906842623 (fun K hK => ?_)
                    have hcall := spec_l30Under.calls k2 _ _ _ _ _ _ _ W29 (Kd.C_below HR135_4.out HB.out) HC135_4.out (Kd.C_below HR0_1.out HB.out) HC0_1.out hm.out
                    refine goes_ Try.func106 (by kernel_rfl) rfl #[.slice A135_4 ((rd_T144 l1 x5_2).f4).length c135_4, .slice A0_1 l0_1.length c0_1] (by rfl) rfl rfl (by (try simp only [List.map_toArray, List.map_cons, List.map_nil]); first | done | rfl) ?_
                    refine hcall.mono ?_
                    rintro e W32 ⟨rfl, hb⟩
                    refine ⟨_, rfl, ?_⟩
                    clear hcall hm
                    replace hHeld := below_step hHeld hb
                    replace BK1 := bK BK1 hb
                    replace BK5 := bK BK5 hb
                    replace HB := bH HB hb; clear hb
                    refine hK.out _ _ hHeld (fun hHeld => ?_)
                    clear hK K
                    refine nr 66 ?_
                    replace H := H.out
                    by_cases c33 : t146 = true
                    · rw [if_pos c33] at H
                      subst c33
                      replace H := Option.bind_eq_some_iff.mp H
                      obtain ⟨t147, hm, H⟩ := H
                      try dsimp only at H
                      replace hm := Aside0.mk hm
                      replace H := Aside0.mk H
                      refine pu 50 (some 67) 2251799813685247 ?_; refine pu 51 (some 68) 4503599627370495 ?_; refine pu 52 (some 69) 9007199254740991 ?_; refine pu 53 (some 70) 18014398509481983 ?_; refine pu 54 (some 71) 36028797018963967 ?_; refine ld 55 (some 72) 72057594037927935 hHeld ?_ (hr := by (intro w' h_; have y_ := kD rBK5 h_; go_simp; with_reducible rfl))
                      replace H := H.out
                      replace H := Aside0.mk H
                      refine on 56 (some 73) 144115188075855871 (fun K hK => ?_)
                      have hcall := spec_DebtsOf.calls k2 _ _ _ _ _ W32 (Kd.C_below HR1.out HB.out) HC1.out hm.out
                      refine goes_ Try.func107 (by kernel_rfl) rfl #[.slice (some ad135) l1.length c1, .int .i64 ((rd_T144 l1 x5_2).f1)] (by rfl) rfl rfl (by (try simp only [List.map_toArray, List.map_cons, List.map_nil]); first | done | rfl) ?_
                      refine hcall.mono ?_
                      rintro e W35 ⟨v148, rfl, ho0, hb⟩
                      refine ⟨_, rfl, ?_⟩
                      clear hcall hm
                      replace hHeld := below_step hHeld hb
                      replace BK1 := bK BK1 hb
                      replace BK5 := bK BK5 hb
                      obtain ⟨A35_0, _, c35_0, rfl, rfl, hr_⟩ := R_made ho0 HB.out.size; clear ho0; have HO35_0 := Aside0.mk hr_; clear hr_
                      replace HB := bH HB hb; clear hb
                      refine hK.out _ _ hHeld (fun hHeld => ?_)
                      clear hK K
                      refine nr 73 ?_
                      replace H := H.out
                      replace H := Aside0.mk H
                      refine pu 57 (some 74) 288230376151711743 ?_; refine pu 58 (some 75) 576460752303423487 ?_; refine pu 59 (some 76) 1152921504606846975 ?_
                      replace H := H.out
                      replace H := Aside0.mk H
                      refine dn (by kernel_rfl) ?_
                      clear hHeld HBr rBK1 rBK5
                      have c_BK1 := blk_cell BK1.out; have z_BK1 := blk_frozen BK1.out
                      have c_BK5 := blk_cell BK5.out; have z_BK5 := blk_frozen BK5.out
                      replace H := H.out
                      by_cases c36 : (t147.length : Int) > 1
                      · rw [if_pos c36] at H
                        have c36_x0 : decide (1 < t147.length) = true := decide_eq_true (by omega)
                        replace c36 : 1 < (t147.length : Int) := c36
                        have c36_0 := decT c36
                        replace c36 := Aside0.mk c36
                        first | rw [c36_0] | skip
                        obtain rfl := Option.some.inj H
                        clear H
                        go_wp2
                        go_ret
                        exact ⟨rfl, HB.out⟩
                      · rw [if_neg c36] at H
                        have c36_x0 : decide (1 < t147.length) = false := decide_eq_false (by omega)
                        replace c36 : ¬ (1 < (t147.length : Int)) := c36
                        have c36_0 := decF c36
                        replace c36 := Aside0.mk c36
                        first | rw [c36_0] | skip
                        replace H := Aside0.mk H
                        go_wp2
                        go_roundg k2
                        case measure => have := Hk2.out; omega
                        case rel => exact ⟨(wrap64 (x5_2 + 1)), (by first | rfl | (simp; done) | (simp [*]; done)), H, ⟨by have := Hk2.out; omega⟩, BK1, HB⟩
                    · rw [if_neg c33] at H
                      replace c33 := (Bool.not_eq_true _).mp c33
                      subst c33
                      replace H := Aside0.mk H
                      refine pu 50 (some 67) 2251799813685247 ?_; refine pu 51 (some 68) 4503599627370495 ?_; refine pu 52 (some 69) 9007199254740991 ?_; refine sk 53 (some 70) 18014398509481983 ?_; refine sk 54 (some 71) 36028797018963967 ?_; refine sk 55 (some 72) 72057594037927935 ?_; refine sk 56 (some 73) 144115188075855871 ?_; refine sk 57 (some 74) 288230376151711743 ?_; refine sk 58 (some 75) 576460752303423487 ?_; refine pu 59 (some 76) 1152921504606846975 ?_
                      replace H := H.out
                      replace H := Aside0.mk H
                      refine dn (by kernel_rfl) ?_
                      clear hHeld HBr rBK1 rBK5
                      have c_BK1 := blk_cell BK1.out; have z_BK1 := blk_frozen BK1.out
                      have c_BK5 := blk_cell BK5.out; have z_BK5 := blk_frozen BK5.out
                      replace H := H.out
                      obtain rfl := Option.some.inj H
                      clear H
                      go_wp2
                      go_ret
                      exact ⟨rfl, HB.out⟩
                  · rw [if_neg c30] at H
                    have c30_0 := decF c30; have c30_1 := eqF c30; have c30_2 := neF c30
                    clear c30
                    first | rw [c30_1] | rw [c30_2] | skip
                    replace H := Aside0.mk H
                    refine pu 42 (some 59) 8796093022207 ?_; refine pu 43 (some 60) 17592186044415 ?_; refine pu 44 (some 61) 35184372088831 ?_; refine sk 45 (some 62) 70368744177663 ?_; refine sk 46 (some 63) 140737488355327 ?_; refine sk 47 (some 64) 281474976710655 ?_; refine sk 48 (some 65) 562949953421311 ?_; refine sk 49 (some 66) 1125899906842623 ?_; refine sk 50 (some 67) 2251799813685247 ?_; refine pu 51 (some 68) 4503599627370495 ?_; refine pu 52 (some 69) 9007199254740991 ?_; refine sk 53 (some 70) 18014398509481983 ?_; refine sk 54 (some 71) 36028797018963967 ?_; refine sk 55 (some 72) 72057594037927935 ?_; refine sk 56 (some 73) 144115188075855871 ?_; refine sk 57 (some 74) 288230376151711743 ?_; refine sk 58 (some 75) 576460752303423487 ?_; refine pu 59 (some 76) 1152921504606846975 ?_
                    replace H := H.out
                    replace H := Aside0.mk H
                    refine dn (by kernel_rfl) ?_
                    clear hHeld HBr rBK1 rBK5
                    have c_BK1 := blk_cell BK1.out; have z_BK1 := blk_frozen BK1.out
                    have c_BK5 := blk_cell BK5.out; have z_BK5 := blk_frozen BK5.out
                    replace H := H.out
                    obtain rfl := Option.some.inj H
                    clear H
                    go_wp2
                    go_ret
                    exact ⟨rfl, HB.out⟩
              · rw [if_neg c14] at H
                replace c14 := (Bool.not_eq_true _).mp c14
                subst c14
                replace H := Aside0.mk H
                refine pu 17 (some 34) 262143 ?_; refine pu 18 (some 35) 524287 ?_; refine pu 19 (some 36) 1048575 ?_; refine sk 20 (some 37) 2097151 ?_; refine sk 21 (some 38) 4194303 ?_; refine sk 22 (some 39) 8388607 ?_; refine sk 23 (some 40) 16777215 ?_; refine sk 24 (some 41) 33554431 ?_; refine sk 25 (some 42) 67108863 ?_; refine sk 26 (some 43) 134217727 ?_; refine sk 27 (some 44) 268435455 ?_; refine sk 28 (some 45) 536870911 ?_; refine sk 29 (some 46) 1073741823 ?_; refine sk 30 (some 47) 2147483647 ?_; refine sk 31 (some 48) 4294967295 ?_; refine sk 32 (some 49) 8589934591 ?_; refine pu 33 (some 50) 17179869183 ?_; refine pu 34 (some 51) 34359738367 ?_; refine sk 35 (some 52) 68719476735 ?_; refine sk 36 (some 53) 137438953471 ?_; refine sk 37 (some 54) 274877906943 ?_; refine sk 38 (some 55) 549755813887 ?_; refine sk 39 (some 56) 1099511627775 ?_; refine sk 40 (some 57) 2199023255551 ?_; refine sk 41 (some 58) 4398046511103 ?_; refine sk 42 (some 59) 8796093022207 ?_; refine pu 43 (some 60) 17592186044415 ?_; refine pu 44 (some 61) 35184372088831 ?_; refine sk 45 (some 62) 70368744177663 ?_; refine sk 46 (some 63) 140737488355327 ?_; refine sk 47 (some 64) 281474976710655 ?_; refine sk 48 (some 65) 562949953421311 ?_; refine sk 49 (some 66) 1125899906842623 ?_; refine sk 50 (some 67) 2251799813685247 ?_; refine pu 51 (some 68) 4503599627370495 ?_; refine pu 52 (some 69) 9007199254740991 ?_; refine sk 53 (some 70) 18014398509481983 ?_; refine sk 54 (some 71) 36028797018963967 ?_; refine sk 55 (some 72) 72057594037927935 ?_; refine sk 56 (some 73) 144115188075855871 ?_; refine sk 57 (some 74) 288230376151711743 ?_; refine sk 58 (some 75) 576460752303423487 ?_; refine pu 59 (some 76) 1152921504606846975 ?_
                replace H := H.out
                replace H := Aside0.mk H
                refine dn (by kernel_rfl) ?_
                clear hHeld HBr rBK1 rBK5
                have c_BK1 := blk_cell BK1.out; have z_BK1 := blk_frozen BK1.out
                have c_BK5 := blk_cell BK5.out; have z_BK5 := blk_frozen BK5.out
                replace H := H.out
                obtain rfl := Option.some.inj H
                clear H
                go_wp2
                go_ret
                exact ⟨rfl, HB.out⟩
            · rw [if_neg c11] at H
              replace c11 := (Bool.not_eq_true _).mp c11
              subst c11
              replace H := Aside0.mk H
              refine pu 11 (some 28) 4095 ?_; refine pu 12 (some 29) 8191 ?_; refine pu 13 (some 30) 16383 ?_; refine sk 14 (some 31) 32767 ?_; refine sk 15 (some 32) 65535 ?_; refine sk 16 (some 33) 131071 ?_; refine sk 17 (some 34) 262143 ?_; refine pu 18 (some 35) 524287 ?_; refine pu 19 (some 36) 1048575 ?_; refine sk 20 (some 37) 2097151 ?_; refine sk 21 (some 38) 4194303 ?_; refine sk 22 (some 39) 8388607 ?_; refine sk 23 (some 40) 16777215 ?_; refine sk 24 (some 41) 33554431 ?_; refine sk 25 (some 42) 67108863 ?_; refine sk 26 (some 43) 134217727 ?_; refine sk 27 (some 44) 268435455 ?_; refine sk 28 (some 45) 536870911 ?_; refine sk 29 (some 46) 1073741823 ?_; refine sk 30 (some 47) 2147483647 ?_; refine sk 31 (some 48) 4294967295 ?_; refine sk 32 (some 49) 8589934591 ?_; refine pu 33 (some 50) 17179869183 ?_; refine pu 34 (some 51) 34359738367 ?_; refine sk 35 (some 52) 68719476735 ?_; refine sk 36 (some 53) 137438953471 ?_; refine sk 37 (some 54) 274877906943 ?_; refine sk 38 (some 55) 549755813887 ?_; refine sk 39 (some 56) 1099511627775 ?_; refine sk 40 (some 57) 2199023255551 ?_; refine sk 41 (some 58) 4398046511103 ?_; refine sk 42 (some 59) 8796093022207 ?_; refine pu 43 (some 60) 17592186044415 ?_; refine pu 44 (some 61) 35184372088831 ?_; refine sk 45 (some 62) 70368744177663 ?_; refine sk 46 (some 63) 140737488355327 ?_; refine sk 47 (some 64) 281474976710655 ?_; refine sk 48 (some 65) 562949953421311 ?_; refine sk 49 (some 66) 1125899906842623 ?_; refine sk 50 (some 67) 2251799813685247 ?_; refine pu 51 (some 68) 4503599627370495 ?_; refine pu 52 (some 69) 9007199254740991 ?_; refine sk 53 (some 70) 18014398509481983 ?_; refine sk 54 (some 71) 36028797018963967 ?_; refine sk 55 (some 72) 72057594037927935 ?_; refine sk 56 (some 73) 144115188075855871 ?_; refine sk 57 (some 74) 288230376151711743 ?_; refine sk 58 (some 75) 576460752303423487 ?_; refine pu 59 (some 76) 1152921504606846975 ?_
              replace H := H.out
              replace H := Aside0.mk H
              refine dn (by kernel_rfl) ?_
              clear hHeld HBr rBK1 rBK5
              have c_BK1 := blk_cell BK1.out; have z_BK1 := blk_frozen BK1.out
              have c_BK5 := blk_cell BK5.out; have z_BK5 := blk_frozen BK5.out
              replace H := H.out
              obtain rfl := Option.some.inj H
              clear H
              go_wp2
              go_ret
              exact ⟨rfl, HB.out⟩
          · rw [if_neg c8] at H
            have c8_0 := decF c8; have c8_1 := eqF c8; have c8_2 := neF c8
            clear c8
            first | rw [c8_1] | rw [c8_2] | skip
            replace H := Aside0.mk H
            refine pu 4 (some 21) 31 ?_; refine pu 5 (some 22) 63 ?_; refine sk 6 (some 23) 127 ?_; refine sk 7 (some 24) 255 ?_; refine sk 8 (some 25) 511 ?_; refine sk 9 (some 26) 1023 ?_; refine sk 10 (some 27) 2047 ?_; refine sk 11 (some 28) 4095 ?_; refine pu 12 (some 29) 8191 ?_; refine pu 13 (some 30) 16383 ?_; refine sk 14 (some 31) 32767 ?_; refine sk 15 (some 32) 65535 ?_; refine sk 16 (some 33) 131071 ?_; refine sk 17 (some 34) 262143 ?_; refine pu 18 (some 35) 524287 ?_; refine pu 19 (some 36) 1048575 ?_; refine sk 20 (some 37) 2097151 ?_; refine sk 21 (some 38) 4194303 ?_; refine sk 22 (some 39) 8388607 ?_; refine sk 23 (some 40) 16777215 ?_; refine sk 24 (some 41) 33554431 ?_; refine sk 25 (some 42) 67108863 ?_; refine sk 26 (some 43) 134217727 ?_; refine sk 27 (some 44) 268435455 ?_; refine sk 28 (some 45) 536870911 ?_; refine sk 29 (some 46) 1073741823 ?_; refine sk 30 (some 47) 2147483647 ?_; refine sk 31 (some 48) 4294967295 ?_; refine sk 32 (some 49) 8589934591 ?_; refine pu 33 (some 50) 17179869183 ?_; refine pu 34 (some 51) 34359738367 ?_; refine sk 35 (some 52) 68719476735 ?_; refine sk 36 (some 53) 137438953471 ?_; refine sk 37 (some 54) 274877906943 ?_; refine sk 38 (some 55) 549755813887 ?_; refine sk 39 (some 56) 1099511627775 ?_; refine sk 40 (some 57) 2199023255551 ?_; refine sk 41 (some 58) 4398046511103 ?_; refine sk 42 (some 59) 8796093022207 ?_; refine pu 43 (some 60) 17592186044415 ?_; refine pu 44 (some 61) 35184372088831 ?_; refine sk 45 (some 62) 70368744177663 ?_; refine sk 46 (some 63) 140737488355327 ?_; refine sk 47 (some 64) 281474976710655 ?_; refine sk 48 (some 65) 562949953421311 ?_; refine sk 49 (some 66) 1125899906842623 ?_; refine sk 50 (some 67) 2251799813685247 ?_; refine pu 51 (some 68) 4503599627370495 ?_; refine pu 52 (some 69) 9007199254740991 ?_; refine sk 53 (some 70) 18014398509481983 ?_; refine sk 54 (some 71) 36028797018963967 ?_; refine sk 55 (some 72) 72057594037927935 ?_; refine sk 56 (some 73) 144115188075855871 ?_; refine sk 57 (some 74) 288230376151711743 ?_; refine sk 58 (some 75) 576460752303423487 ?_; refine pu 59 (some 76) 1152921504606846975 ?_
            replace H := H.out
            replace H := Aside0.mk H
            refine dn (by kernel_rfl) ?_
            clear hHeld HBr rBK1 rBK5
            have c_BK1 := blk_cell BK1.out; have z_BK1 := blk_frozen BK1.out
            have c_BK5 := blk_cell BK5.out; have z_BK5 := blk_frozen BK5.out
            replace H := H.out
            obtain rfl := Option.some.inj H
            clear H
            go_wp2
            go_ret
            exact ⟨rfl, HB.out⟩
        · rw [if_neg c4] at H
          cases H
      · rw [if_neg c3] at H
        have c3_0 := decF c3
        replace c3 := Aside0.mk c3
        first | rw [c3_0] | skip
        replace H := Option.bind_eq_some_iff.mp H
        obtain ⟨t150, hm, H⟩ := H
        try dsimp only at H
        replace H := Aside0.mk H
        have hcall := spec_IsPlan.calls k2 _ _ _ _ _ _ _ _ wr (Kd.C_below HR0_0.out HB.out) HC0_0.out (Kd.C_below HR0_1.out HB.out) HC0_1.out hm
        clear hm
        go_wp2_with fail
        refine hcall.mono ?_
        rintro e W37 ⟨rfl, hb⟩
        clear hcall
        replace BK1 := bK BK1 hb; replace c_BK1 := blk_cell BK1.out; replace z_BK1 := blk_frozen BK1.out
        replace HB := bH HB hb; clear hb
        replace H := H.out
        by_cases c38 : t150 = true
        · rw [if_pos c38] at H
          subst c38
          obtain rfl := Option.some.inj H
          clear H
          go_wp2
          go_ret
          exact ⟨rfl, HB.out⟩
        · rw [if_neg c38] at H
          replace c38 := (Bool.not_eq_true _).mp c38
          subst c38
          obtain rfl := Option.some.inj H
          clear H
          go_wp2
          go_ret
          exact ⟨rfl, HB.out⟩

/-! ### laws_toIntS: function 100 -/
def laws_toIntS.l0 : Nat → List Int → List Int → Int → Option (List Int)
  | 0, _, _, _ => none
  | k + 1, x0, x3, x4 => if x4 < (x0.length : Int) then (if 0 ≤ x4 then (if x4 < (x3.length : Int) then (laws_toIntS.l0 k x0 (x3.set (x4 : Int).toNat (rd x0 x4)) (wrap64 (x4 + 1))) else (none)) else (none)) else (some x3)
def laws_toIntS.f (k : Nat) (l0 : List Int) : Option (List Int) := if 0 ≤ (l0.length : Int) then (if ((l0.length : Int) : Int).toNat ≤ 35184372088832 then (laws_toIntS.l0 k l0 (List.replicate ((l0.length : Int) : Int).toNat 0) 0) else (none)) else (none)
set_option maxHeartbeats 8000000 in
set_option maxRecDepth 100000 in
theorem laws_toIntS.calls (k : Nat) (A0 : Option Addr) (c0 : Nat) (l0 : List Int) (r : List Int) (w : World) (hr0 : Kd.C (Kd.int .i64) w A0 l0.length l0) (hc0 : l0.length ≤ c0) (h : laws_toIntS.f k l0 = some r) :
    Calls Try.prog 100 #[.slice A0 l0.length c0] w fun e w' => ∃ v0_ : Value, e = .returned (v0_) ∧ Kd.R (Kd.int .i64) 3 w' w.heap.size (fun _ => True) v0_ r ∧ Below w.heap.size w w' := by
  have HR0 := Aside0.mk hr0
  have HC0 := Aside0.mk hc0
  clear hr0 hc0
  have HB := Aside0.mk (Below.refl w.heap.size w)
  have H : (if 0 ≤ (l0.length : Int) then (if ((l0.length : Int) : Int).toNat ≤ 35184372088832 then (laws_toIntS.l0 k l0 (List.replicate ((l0.length : Int) : Int).toNat 0) 0) else (none)) else (none)) = some r := h
  clear h
  by_cases c2 : 0 ≤ (l0.length : Int)
  · rw [if_pos c2] at H
    have c2b0 := eq_true c2
    have c2b1 : decide (0 ≤ (l0.length : Int)) = true := decide_eq_true c2
    clear c2
    by_cases c3 : ((l0.length : Int) : Int).toNat ≤ 35184372088832
    · rw [if_pos c3] at H
      have c3b0 := eq_true c3
      have c3b1 : decide (((l0.length : Int) : Int).toNat ≤ 35184372088832) = true := decide_eq_true c3
      clear c3
      obtain ⟨y151, hy151⟩ : ∃ y_ : List Int, y_ = (List.replicate ((l0.length : Int) : Int).toNat 0) := ⟨_, rfl⟩
      replace H : (laws_toIntS.l0 k l0 y151 0) = some r := by first | (rw [hy151]; with_reducible exact H) | (have H2_ := (Option.bind_some _ _).symm.trans H; rw [hy151]; with_reducible exact H2_) | (have H2_ := (Option.bind_some _ _).symm.trans H; with_reducible exact H2_) | with_reducible exact H | (rw [hy151]; exact H) | exact H
      have Ny151 := Aside0.mk hy151
      clear hy151
      have H' := Aside0.mk H
      clear H
      go_enter Try.func100, Try.ntmps100
      go_wp2_with (first | ((with_reducible refine gate_dst (N := 7) rfl ?_); refine Kd.R_make (Kd.int .i64) _ 3 rfl (N := 7) rfl 46 _ _ rfl (l0.length : Int) rfl rfl Try.underlying46 (.int .i64 0) 8 info3 rfl (by decide) (by omega) 0 (ok := fun _ => True) (okp := fun _ => True) rfl (fun _ hk => hk) trivial (of_decide_eq_true (by first | (with_reducible assumption) | assumption)) (Nat.le_trans (Nat.mul_le_mul_right _ (of_decide_eq_true (by first | (with_reducible assumption) | assumption) : (l0.length : Int).toNat ≤ 35184372088832)) (by omega)) (Below.refl _ _) (Nat.le_refl _) ?_; intro v152 w4 ho5 hb hg_ hnew_; clear hg_ hnew_; (first | rw [← Ny151.out] at ho5 | (simp only [Int.reduceToNat] at ho5; rw [← Ny151.out] at ho5)); have n0_ := Aside0.mk (Kd.R_lower ho5 (below_size (by repeat (first | (with_reducible first | exact HB.out | apply below_alloc | apply pw_below_drewN | apply below_drew1) | exact HB.out)))); have n1_ := Aside0.mk (below_step (by repeat (first | (with_reducible first | exact HB.out | apply below_alloc | apply pw_below_drewN | apply below_drew1) | exact HB.out)) hb); clear HB; have HO153 := n0_; (try have hv1_153 := fun (W_ : World) (a_ : Addr) (m_ : Mode) => run_store Try.prog W_ a_ _ m_ (Kd.R_val HO153.out).2); have HB := n1_; clear n0_ n1_; clear hb ho5))
      go_loopg [4] k (fun kq v4 w' => ∃ (x3_1 : List Int) (x4_1 : Int), v4 = .int .i64 x4_1 ∧ Aside0 (laws_toIntS.l0 kq l0 x3_1 x4_1 = some r) ∧ Aside0 (kq ≤ k) ∧ Aside0 (Kd.R (Kd.int .i64) 3 w' w.heap.size (fun _ => True) v152 x3_1) ∧ Aside0 (Below w.heap.size w w'))
      case atStart => exact ⟨(y151), (0), (by first | rfl | (simp; done) | (simp [*]; done)), H', ⟨Nat.le_refl _⟩, ⟨by (with_reducible repeat (first | apply Kd.R_alloc | apply Kd.R_drewN | apply Kd.R_drew)); exact HO153.out⟩, ⟨by repeat (first | (with_reducible first | exact HB.out | apply below_alloc | apply pw_below_drewN | apply below_drew1) | exact HB.out)⟩⟩
      case round =>
        clear H'
        try clear c1
        try clear c2
        try clear c2b0
        try clear c2b1
        try clear p2
        try clear c3
        try clear c3b0
        try clear c3b1
        obtain ⟨x3_1, x4_1, rfl, HA, HK1, HO_3, HB⟩ := hrel
        cases gk with
        | zero => exact absurd HA.out (by simp [laws_toIntS.l0])
        | succ k1 =>
          have H := HA.out
          clear HA
          simp only [laws_toIntS.l0] at H
          by_cases c6 : x4_1 < (l0.length : Int)
          · rw [if_pos c6] at H
            have c6b0 : decide (x4_1 < (l0.length : Int)) = true := decide_eq_true c6
            clear c6
            by_cases c7 : 0 ≤ x4_1
            · rw [if_pos c7] at H
              have c7b0 : decide (0 ≤ x4_1) = true := decide_eq_true c7
              clear c7
              by_cases c8 : x4_1 < (x3_1.length : Int)
              · rw [if_pos c8] at H
                have c8b0 : decide (x4_1 < (x3_1.length : Int)) = true := decide_eq_true c8
                clear c8
                obtain ⟨y155, hy155⟩ : ∃ y_ : List Int, y_ = (x3_1.set (x4_1 : Int).toNat (rd l0 x4_1)) := ⟨_, rfl⟩
                replace H : (laws_toIntS.l0 k1 l0 y155 (wrap64 (x4_1 + 1))) = some r := by first | (rw [hy155]; with_reducible exact H) | (have H2_ := (Option.bind_some _ _).symm.trans H; rw [hy155]; with_reducible exact H2_) | (have H2_ := (Option.bind_some _ _).symm.trans H; with_reducible exact H2_) | with_reducible exact H | (rw [hy155]; exact H) | exact H
                have Ny155 := Aside0.mk hy155
                clear hy155
                have H' := Aside0.mk H
                clear H
                have p154 : 0 ≤ (x4_1 : Int) := of_decide_eq_true (by first | (with_reducible assumption) | assumption)
                have q154 : x4_1 < (l0.length : Int) := of_decide_eq_true (by first | (with_reducible assumption) | assumption)
                obtain ⟨ad154, e154, hx154_0⟩ := Kd.at_int HR0.out x4_1 p154 q154
                cases e154
                replace hx154_0 := (HB.out.cell (World.block_lt_of_cell? w _ hx154_0)).trans hx154_0
                replace p154 := eq_true p154
                replace q154 := eq_true q154
                have p9 : 0 ≤ (x4_1 : Int) := of_decide_eq_true (by first | (with_reducible assumption) | assumption)
                have q9 : (x4_1 : Int) < ((x3_1.length : Int) : Int) := of_decide_eq_true (by first | (with_reducible assumption) | assumption)
                obtain ⟨go9, co9, eo9, gb9, gl9, cl9, HG9⟩ := Kd.R_form HO_3.out (by omega)
                (first | cases eo9 | (injection eo9 with ea_ en_ ec_; (first | subst ea_ | (injection ea_ with ea_; subst ea_)); subst ec_; clear en_))
                have GB9 := Aside0.mk gb9
                have GG9 := Aside0.mk HG9
                clear gb9 gl9 HG9
                obtain ⟨hx9_0, hf9_0⟩ := Kd.R_celln 0 HO_3.out (x4_1 : Int) p9 q9
                replace p9 := eq_true p9
                replace q9 := eq_true q9
                have HP10 := Kd.R_putg HO_3.out (x4_1 : Int) (rd l0 x4_1)
                go_wp2_with (first | ((with_reducible refine gate_store (t := 3) (p := 20) rfl ?_); refine store_event (t := 3) (p := 20) (v := ?vo_w11) (w1 := (wr.setCell ⟨go9, (x4_1 : Int).toNat, none⟩ (.int .i64 (rd l0 x4_1)))) ?hg ?ho ?hn ?hr ?_; (case ho => rfl); (case hg => rfl); (case hn => rfl); (case hr => first | (go_simp; done) | (go_simp; rfl)); intro w11 hw; have hg : wr.grownBy w11 (some go9) := (by rw [hw]; exact HP10.2); have hp_ : Kd.R (Kd.int .i64) 3 w11 w.heap.size (fun _ => True) (.slice (some ⟨go9, 0, none⟩) x3_1.length co9) y155 := (by rw [hw, Ny155.out]; exact HP10.1); clear HP10; have n0_ := Aside0.mk (hp_); have n1_ := Aside0.mk ((by rw [hw]; exact below_set (HB.out) GB9.out : Below w.heap.size w w11)); clear HO_3; clear HB; have HO_3 := n0_; have HB := n1_; clear n0_ n1_; clear hg hw hp_))
                go_roundg k1
                case measure => have := HK1.out; omega
                case rel => exact ⟨(y155), (wrap64 (x4_1 + 1)), (by first | rfl | (simp; done) | (simp [*]; done)), H', ⟨by have := HK1.out; omega⟩, ⟨by (with_reducible repeat (first | apply Kd.R_alloc | apply Kd.R_drewN | apply Kd.R_drew)); exact HO_3.out⟩, ⟨by repeat (first | (with_reducible first | exact HB.out | apply below_alloc | apply pw_below_drewN | apply below_drew1) | exact HB.out)⟩⟩
              · rw [if_neg c8] at H
                exact absurd H (by simp)
            · rw [if_neg c7] at H
              exact absurd H (by simp)
          · rw [if_neg c6] at H
            have c6b0 : decide (x4_1 < (l0.length : Int)) = false := decide_eq_false c6
            clear c6
            obtain rfl := Option.some.inj H
            go_wp2
            go_ret
            exact ⟨_, by first | rfl | (simp [errW_none, errW_some] <;> rfl) | (simp [*, errW_none, errW_some] <;> rfl), by (with_reducible repeat (first | apply Kd.R_alloc | apply Kd.R_drewN | apply Kd.R_drew)); exact HO_3.out, by repeat (first | (with_reducible first | exact HB.out | apply below_alloc | apply pw_below_drewN | apply below_drew1) | exact HB.out)⟩
    · rw [if_neg c3] at H
      exact absurd H (by simp)
  · rw [if_neg c2] at H
    exact absurd H (by simp)

/-! ### laws_toPlan: function 42 -/
def laws_toPlan.f (k : Nat) (l0_0 : List Int) (l0_1 : List Int) (a0_2 : Int) : Option (List Int × List Int × Int) := (laws_toIntS.f k l0_0).bind fun t159 => ((laws_toIntS.f k l0_1).bind fun t162 => (some (t159, t162, a0_2)))
set_option maxHeartbeats 8000000 in
set_option maxRecDepth 100000 in
theorem laws_toPlan.calls (k : Nat) (A0_0 : Option Addr) (c0_0 : Nat) (l0_0 : List Int) (A0_1 : Option Addr) (c0_1 : Nat) (l0_1 : List Int) (a0_2 : Int) (r1 : List Int) (r2 : List Int) (r3 : Int) (w : World) (hr0_0 : Kd.C (Kd.int .i64) w A0_0 l0_0.length l0_0) (hc0_0 : l0_0.length ≤ c0_0) (hr0_1 : Kd.C (Kd.int .i64) w A0_1 l0_1.length l0_1) (hc0_1 : l0_1.length ≤ c0_1) (h : laws_toPlan.f k l0_0 l0_1 a0_2 = some (r1, r2, r3)) :
    Calls Try.prog 42 #[.agg #[.slice A0_0 l0_0.length c0_0, .slice A0_1 l0_1.length c0_1, .int .i64 a0_2]] w fun e w' => ∃ v0_ v1_ : Value, e = .returned (.agg #[v0_, v1_, .int .i64 r3]) ∧ Kd.R (Kd.int .i64) 3 w' w.heap.size (fun k_ => some k_ ≠ (v1_ : Value).ownBlock) v0_ r1 ∧ Kd.R (Kd.int .i64) 3 w' w.heap.size (fun k_ => some k_ ≠ (v0_ : Value).ownBlock) v1_ r2 ∧ Below w.heap.size w w' := by
  have hu57 := Try.underlying57
  have hu62 := Try.underlying62
  have HR0_0 := Aside0.mk hr0_0
  have HC0_0 := Aside0.mk hc0_0
  clear hr0_0 hc0_0
  have HR0_1 := Aside0.mk hr0_1
  have HC0_1 := Aside0.mk hc0_1
  clear hr0_1 hc0_1
  have HB := Aside0.mk (Below.refl w.heap.size w)
  have H : ((laws_toIntS.f k l0_0).bind fun t159 => ((laws_toIntS.f k l0_1).bind fun t162 => (some (t159, t162, a0_2)))) = some (r1, r2, r3) := h
  clear h
  replace H := Option.bind_eq_some_iff.mp H
  obtain ⟨t159, A20, H⟩ := H
  replace H : ((laws_toIntS.f k l0_1).bind fun t162 => (some (t159, t162, a0_2))) = some (r1, r2, r3) := H
  have A2 := Aside0.mk A20
  clear A20
  replace H := Option.bind_eq_some_iff.mp H
  obtain ⟨t162, A30, H⟩ := H
  replace H : (some (t159, t162, a0_2)) = some (r1, r2, r3) := H
  have A3 := Aside0.mk A30
  clear A30
  simp only [Option.some.injEq, Prod.mk.injEq] at H
  obtain ⟨rfl, rfl, rfl⟩ := H
  go_enter Try.func42, Try.ntmps42
  go_wp2_with (first | ((with_reducible refine gate_dst (N := 1) rfl ?_); refine box_event ?hg (N := 1) ?hd (cs := #[.slice A0_0 l0_0.length c0_0, .slice A0_1 l0_1.length c0_1, .int .i64 a0_2]) (t := 57) ?hr ?_; (case hd => rfl); (case hg => rfl); (case hr => first | (go_simp; done) | (go_simp; rfl)); intro gb156 hg w4 hbox hb; have n0_ := Aside0.mk (below_step (by repeat (first | (with_reducible first | exact HB.out | apply below_alloc | apply pw_below_drewN | apply below_drew1) | exact HB.out)) hb); have n1_ := Aside0.mk (hbox); have n2_ := Aside0.mk ((by rw [hg]; exact (below_size (by repeat (first | (with_reducible first | exact HB.out | apply below_alloc | apply pw_below_drewN | apply below_drew1) | exact HB.out))) : w.heap.size ≤ gb156)); have n3_ := Aside0.mk ((by rw [hg]; exact (below_size (by repeat (first | (with_reducible first | exact HB.out | apply below_alloc | apply pw_below_drewN | apply below_drew1) | exact HB.out))) : w.heap.size ≤ gb156)); clear HB; have HB := n0_; have BK156 := n1_; have GW156 := n2_; have GE156 := n3_; clear n0_ n1_ n2_ n3_; clear hb hbox hg) | ((with_reducible refine gate_dst (N := 2) rfl ?_); refine box_event ?hg (N := 2) ?hd (cs := #[.slice none 0 0, .slice none 0 0, .int .i64 0]) (t := 62) ?hr ?_; (case hd => rfl); (case hg => rfl); (case hr => first | (go_simp; done) | (go_simp; rfl)); intro gb157 hg w5 hbox hb; have n0_ := Aside0.mk (blk_below (g := gb156) (o := .cells #[.slice A0_0 l0_0.length c0_0, .slice A0_1 l0_1.length c0_1, .int .i64 a0_2] 57 (0, 0)) (by (with_reducible repeat (first | refine blk_drewN ?_ _ | refine blk_drew ?_ | refine blk_alloc ?_ _)); exact BK156.out) hb); have n1_ := Aside0.mk (below_step (by repeat (first | (with_reducible first | exact HB.out | apply below_alloc | apply pw_below_drewN | apply below_drew1 | refine below_set ?_ GE156.out) | exact HB.out)) hb); have n2_ := Aside0.mk (hbox); have n3_ := Aside0.mk ((by rw [hg]; exact (below_size (by repeat (first | (with_reducible first | exact HB.out | apply below_alloc | apply pw_below_drewN | apply below_drew1 | refine below_set ?_ GE156.out) | exact HB.out))) : w.heap.size ≤ gb157)); have n4_ := Aside0.mk ((by rw [hg]; exact (below_size (by repeat (first | (with_reducible first | exact HB.out | apply below_alloc | apply pw_below_drewN | apply below_drew1 | refine below_set ?_ GE156.out) | exact HB.out))) : w.heap.size ≤ gb157)); have n5_ := Aside0.mk ((by rw [hg]; exact Nat.ne_of_lt (blk_lt (g := gb156) (o := .cells #[.slice A0_0 l0_0.length c0_0, .slice A0_1 l0_1.length c0_1, .int .i64 a0_2] 57 (0, 0)) (by (with_reducible repeat (first | refine blk_drewN ?_ _ | refine blk_drew ?_ | refine blk_alloc ?_ _)); exact BK156.out)) : gb156 ≠ gb157)); have n6_ := Aside0.mk ((by rw [hg]; exact Nat.ne_of_gt (blk_lt (g := gb156) (o := .cells #[.slice A0_0 l0_0.length c0_0, .slice A0_1 l0_1.length c0_1, .int .i64 a0_2] 57 (0, 0)) (by (with_reducible repeat (first | refine blk_drewN ?_ _ | refine blk_drew ?_ | refine blk_alloc ?_ _)); exact BK156.out)) : gb157 ≠ gb156)); clear BK156; clear HB; have BK156 := n0_; have HB := n1_; have BK157 := n2_; have GW157 := n3_; have GE157 := n4_; have NB156_157 := n5_; have NB157_156 := n6_; clear n0_ n1_ n2_ n3_ n4_ n5_ n6_; clear hb hbox hg) | ((with_reducible refine gate_dst (N := 3) rfl ?_); refine box_event ?hg (N := 3) ?hd (cs := #[.slice none 0 0, .slice none 0 0, .int .i64 0]) (t := 62) ?hr ?_; (case hd => rfl); (case hg => rfl); (case hr => first | (go_simp; done) | (go_simp; rfl)); intro gb158 hg w6 hbox hb; have n0_ := Aside0.mk (blk_below (g := gb156) (o := .cells #[.slice A0_0 l0_0.length c0_0, .slice A0_1 l0_1.length c0_1, .int .i64 a0_2] 57 (0, 0)) (by (with_reducible repeat (first | refine blk_drewN ?_ _ | refine blk_drew ?_ | refine blk_alloc ?_ _)); exact BK156.out) hb); have n1_ := Aside0.mk (blk_below (g := gb157) (o := .cells #[.slice none 0 0, .slice none 0 0, .int .i64 0] 62 (0, 0)) (by (with_reducible repeat (first | refine blk_drewN ?_ _ | refine blk_drew ?_ | refine blk_alloc ?_ _)); exact BK157.out) hb); have n2_ := Aside0.mk (below_step (by repeat (first | (with_reducible first | exact HB.out | apply below_alloc | apply pw_below_drewN | apply below_drew1 | refine below_set ?_ GE156.out | refine below_set ?_ GE157.out) | exact HB.out)) hb); have n3_ := Aside0.mk (hbox); have n4_ := Aside0.mk ((by rw [hg]; exact (below_size (by repeat (first | (with_reducible first | exact HB.out | apply below_alloc | apply pw_below_drewN | apply below_drew1 | refine below_set ?_ GE156.out | refine below_set ?_ GE157.out) | exact HB.out))) : w.heap.size ≤ gb158)); have n5_ := Aside0.mk ((by rw [hg]; exact (below_size (by repeat (first | (with_reducible first | exact HB.out | apply below_alloc | apply pw_below_drewN | apply below_drew1 | refine below_set ?_ GE156.out | refine below_set ?_ GE157.out) | exact HB.out))) : w.heap.size ≤ gb158)); have n6_ := Aside0.mk ((by rw [hg]; exact Nat.ne_of_lt (blk_lt (g := gb156) (o := .cells #[.slice A0_0 l0_0.length c0_0, .slice A0_1 l0_1.length c0_1, .int .i64 a0_2] 57 (0, 0)) (by (with_reducible repeat (first | refine blk_drewN ?_ _ | refine blk_drew ?_ | refine blk_alloc ?_ _)); exact BK156.out)) : gb156 ≠ gb158)); have n7_ := Aside0.mk ((by rw [hg]; exact Nat.ne_of_gt (blk_lt (g := gb156) (o := .cells #[.slice A0_0 l0_0.length c0_0, .slice A0_1 l0_1.length c0_1, .int .i64 a0_2] 57 (0, 0)) (by (with_reducible repeat (first | refine blk_drewN ?_ _ | refine blk_drew ?_ | refine blk_alloc ?_ _)); exact BK156.out)) : gb158 ≠ gb156)); have n8_ := Aside0.mk ((by rw [hg]; exact Nat.ne_of_lt (blk_lt (g := gb157) (o := .cells #[.slice none 0 0, .slice none 0 0, .int .i64 0] 62 (0, 0)) (by (with_reducible repeat (first | refine blk_drewN ?_ _ | refine blk_drew ?_ | refine blk_alloc ?_ _)); exact BK157.out)) : gb157 ≠ gb158)); have n9_ := Aside0.mk ((by rw [hg]; exact Nat.ne_of_gt (blk_lt (g := gb157) (o := .cells #[.slice none 0 0, .slice none 0 0, .int .i64 0] 62 (0, 0)) (by (with_reducible repeat (first | refine blk_drewN ?_ _ | refine blk_drew ?_ | refine blk_alloc ?_ _)); exact BK157.out)) : gb158 ≠ gb157)); clear BK156; clear BK157; clear HB; have BK156 := n0_; have BK157 := n1_; have HB := n2_; have BK158 := n3_; have GW158 := n4_; have GE158 := n5_; have NB156_158 := n6_; have NB158_156 := n7_; have NB157_158 := n8_; have NB158_157 := n9_; clear n0_ n1_ n2_ n3_ n4_ n5_ n6_ n7_ n8_ n9_; clear hb hbox hg; have hnb7 := NB156_157.out; have hnc7 := NB157_156.out; have hnb8 := NB156_158.out; have hnc8 := NB158_156.out; have hcz9_0 : w6.cell? ⟨gb156, 0, none⟩ = some (.slice A0_0 l0_0.length c0_0) := (blk_cell BK156.out 0).trans rfl; have hcz9_1 : w6.cell? ⟨gb156, 1, none⟩ = some (.slice A0_1 l0_1.length c0_1) := (blk_cell BK156.out 1).trans rfl; have hcz9_2 : w6.cell? ⟨gb156, 2, none⟩ = some (.int .i64 a0_2) := (blk_cell BK156.out 2).trans rfl; have hfz9_0 := blk_frozen BK156.out 0; have hfz9_1 := blk_frozen BK156.out 1; have hfz9_2 := blk_frozen BK156.out 2) | ((with_reducible refine gate_callee (f := 100) rfl ?_); refine goesL_ (some 6) rfl rfl Try.func100 (by kernel_rfl) rfl #[.slice A0_0 l0_0.length c0_0] rfl (by (try simp only [List.map_toArray, List.map_cons, List.map_nil]); first | done | rfl | (simp only [List.length_drop, List.length_take]; rfl)) ?_; (with_reducible refine (laws_toIntS.calls k _ _ l0_0 t159 _ ?side1 ?side2 A2.out).mono ?_); (case side1 => repeat (first | exact (Kd.C_below HR0_0.out HB.out) | (with_reducible refine Kd.C_alloc ?_ _) | (with_reducible refine Kd.C_drewN ?_ _) | (with_reducible refine Kd.C_drew ?_))); (case side2 => exact HC0_0.out); rintro e w10 ⟨v160, rfl, ho0, hb⟩; refine ⟨_, rfl, ?_⟩; have n0_ := Aside0.mk (Kd.R_lower ho0 (below_size (by repeat (first | (with_reducible first | exact HB.out | apply below_alloc | apply pw_below_drewN | apply below_drew1 | refine below_set ?_ GE156.out | refine below_set ?_ GE157.out | refine below_set ?_ GE158.out) | exact HB.out)))); have n1_ := Aside0.mk (blk_below (g := gb156) (o := .cells #[.slice A0_0 l0_0.length c0_0, .slice A0_1 l0_1.length c0_1, .int .i64 a0_2] 57 (0, 0)) (by (with_reducible repeat (first | refine blk_drewN ?_ _ | refine blk_drew ?_ | refine blk_alloc ?_ _)); exact BK156.out) hb); have n2_ := Aside0.mk (blk_below (g := gb157) (o := .cells #[.slice none 0 0, .slice none 0 0, .int .i64 0] 62 (0, 0)) (by (with_reducible repeat (first | refine blk_drewN ?_ _ | refine blk_drew ?_ | refine blk_alloc ?_ _)); exact BK157.out) hb); have n3_ := Aside0.mk (blk_below (g := gb158) (o := .cells #[.slice none 0 0, .slice none 0 0, .int .i64 0] 62 (0, 0)) (by (with_reducible repeat (first | refine blk_drewN ?_ _ | refine blk_drew ?_ | refine blk_alloc ?_ _)); exact BK158.out) hb); have n4_ := Aside0.mk (below_step (by repeat (first | (with_reducible first | exact HB.out | apply below_alloc | apply pw_below_drewN | apply below_drew1 | refine below_set ?_ GE156.out | refine below_set ?_ GE157.out | refine below_set ?_ GE158.out) | exact HB.out)) hb); clear BK156; clear BK157; clear BK158; clear HB; have HO161 := n0_; (try have hv1_161 := fun (W_ : World) (a_ : Addr) (m_ : Mode) => run_store Try.prog W_ a_ _ m_ (Kd.R_val HO161.out).2); have BK156 := n1_; have BK157 := n2_; have BK158 := n3_; have HB := n4_; clear n0_ n1_ n2_ n3_ n4_; (try clear hb); (try clear hb2); (try clear hk); (try clear hi); (try clear ho0); obtain ⟨Ao11, co11, eo11⟩ := Kd.R_slice HO161.out; subst eo11; have hnb12 := NB158_157.out; have hnc12 := NB157_158.out; have hcz13_0 : w10.cell? ⟨gb158, 0, none⟩ = some (.slice none 0 0) := (blk_cell BK158.out 0).trans rfl; have hcz13_1 : w10.cell? ⟨gb158, 1, none⟩ = some (.slice none 0 0) := (blk_cell BK158.out 1).trans rfl; have hcz13_2 : w10.cell? ⟨gb158, 2, none⟩ = some (.int .i64 0) := (blk_cell BK158.out 2).trans rfl; have hfz13_0 := blk_frozen BK158.out 0; have hfz13_1 := blk_frozen BK158.out 1; have hfz13_2 := blk_frozen BK158.out 2; have hcz14_0 : w10.cell? ⟨gb156, 0, none⟩ = some (.slice A0_0 l0_0.length c0_0) := (blk_cell BK156.out 0).trans rfl; have hcz14_1 : w10.cell? ⟨gb156, 1, none⟩ = some (.slice A0_1 l0_1.length c0_1) := (blk_cell BK156.out 1).trans rfl; have hcz14_2 : w10.cell? ⟨gb156, 2, none⟩ = some (.int .i64 a0_2) := (blk_cell BK156.out 2).trans rfl; have hfz14_0 := blk_frozen BK156.out 0; have hfz14_1 := blk_frozen BK156.out 1; have hfz14_2 := blk_frozen BK156.out 2) | ((with_reducible refine gate_callee (f := 100) rfl ?_); refine goesL_ (some 10) rfl rfl Try.func100 (by kernel_rfl) rfl #[.slice A0_1 l0_1.length c0_1] rfl (by (try simp only [List.map_toArray, List.map_cons, List.map_nil]); first | done | rfl | (simp only [List.length_drop, List.length_take]; rfl)) ?_; (with_reducible refine (laws_toIntS.calls k _ _ l0_1 t162 _ ?side1 ?side2 A3.out).mono ?_); (case side1 => exact Kd.C_below HR0_1.out (by repeat (first | (with_reducible first | exact HB.out | apply below_alloc | apply pw_below_drewN | apply below_drew1 | refine below_set ?_ GE156.out | refine below_set ?_ GE157.out | refine below_set ?_ GE158.out) | exact HB.out))); (case side2 => exact HC0_1.out); rintro e w15 ⟨v163, rfl, ho0, hb⟩; refine ⟨_, rfl, ?_⟩; have n0_ := Aside0.mk (Kd.R_elder' (by (with_reducible repeat (first | apply Kd.R_alloc | apply Kd.R_drewN | apply Kd.R_drew)); exact (Kd.R_mono (Kd.R_far (p := ⟨gb158, 0, none⟩) (Kd.R_types HO161.out BK158.out (by decide)) (fun _ hk => hk.2) (.slice Ao11 t159.length co11)) (fun _ h_ => h_.1))) (Kd.R_base ho0) hb); have n1_ := Aside0.mk (Kd.R_lower (Kd.R_new' ho0 (Kd.R_lt (by (with_reducible repeat (first | apply Kd.R_alloc | apply Kd.R_drewN | apply Kd.R_drew)); exact (Kd.R_mono (Kd.R_far (p := ⟨gb158, 0, none⟩) (Kd.R_types HO161.out BK158.out (by decide)) (fun _ hk => hk.2) (.slice Ao11 t159.length co11)) (fun _ h_ => h_.1))))) (below_size (by repeat (first | (with_reducible first | exact HB.out | apply below_alloc | apply pw_below_drewN | apply below_drew1 | refine below_set ?_ GE156.out | refine below_set ?_ GE157.out | refine below_set ?_ GE158.out) | exact HB.out)))); have n2_ := Aside0.mk (blk_below (g := gb156) (o := .cells #[.slice A0_0 l0_0.length c0_0, .slice A0_1 l0_1.length c0_1, .int .i64 a0_2] 57 (0, 0)) (by (with_reducible repeat (first | refine blk_drewN ?_ _ | refine blk_drew ?_ | refine blk_alloc ?_ _)); refine blk_far ?_ NB156_158.out _; (with_reducible repeat (first | refine blk_drewN ?_ _ | refine blk_drew ?_ | refine blk_alloc ?_ _)); exact BK156.out) hb); have n3_ := Aside0.mk (blk_below (g := gb157) (o := .cells #[.slice none 0 0, .slice none 0 0, .int .i64 0] 62 (0, 0)) (by (with_reducible repeat (first | refine blk_drewN ?_ _ | refine blk_drew ?_ | refine blk_alloc ?_ _)); refine blk_far ?_ NB157_158.out _; (with_reducible repeat (first | refine blk_drewN ?_ _ | refine blk_drew ?_ | refine blk_alloc ?_ _)); exact BK157.out) hb); have n4_ := Aside0.mk (blk_below (g := gb158) (o := .cells #[.slice Ao11 t159.length co11, .slice none 0 0, .int .i64 0] 62 (0, 0)) (by (with_reducible repeat (first | refine blk_drewN ?_ _ | refine blk_drew ?_ | refine blk_alloc ?_ _)); refine blk_put (cs := #[.slice none 0 0, .slice none 0 0, .int .i64 0]) ?_ 0 _ rfl; (with_reducible repeat (first | refine blk_drewN ?_ _ | refine blk_drew ?_ | refine blk_alloc ?_ _)); exact BK158.out) hb); have n5_ := Aside0.mk (below_step (by repeat (first | (with_reducible first | exact HB.out | apply below_alloc | apply pw_below_drewN | apply below_drew1 | refine below_set ?_ GE156.out | refine below_set ?_ GE157.out | refine below_set ?_ GE158.out) | exact HB.out)) hb); clear HO161; clear BK156; clear BK157; clear BK158; clear HB; have HO161 := n0_; (try have hv1_161 := fun (W_ : World) (a_ : Addr) (m_ : Mode) => run_store Try.prog W_ a_ _ m_ (Kd.R_val HO161.out).2); have HO164 := n1_; (try have hv1_164 := fun (W_ : World) (a_ : Addr) (m_ : Mode) => run_store Try.prog W_ a_ _ m_ (Kd.R_val HO164.out).2); have BK156 := n2_; have BK157 := n3_; have BK158 := n4_; have HB := n5_; clear n0_ n1_ n2_ n3_ n4_ n5_; (try clear hb); (try clear hb2); (try clear hk); (try clear hi); (try clear ho0); obtain ⟨Ao16, co16, eo16⟩ := Kd.R_slice HO164.out; subst eo16; have hcz17_0 : w15.cell? ⟨gb158, 0, none⟩ = some (.slice Ao11 t159.length co11) := (blk_cell BK158.out 0).trans rfl; have hcz17_1 : w15.cell? ⟨gb158, 1, none⟩ = some (.slice none 0 0) := (blk_cell BK158.out 1).trans rfl; have hcz17_2 : w15.cell? ⟨gb158, 2, none⟩ = some (.int .i64 0) := (blk_cell BK158.out 2).trans rfl; have hfz17_0 := blk_frozen BK158.out 0; have hfz17_1 := blk_frozen BK158.out 1; have hfz17_2 := blk_frozen BK158.out 2; have hcz18_0 : w15.cell? ⟨gb156, 0, none⟩ = some (.slice A0_0 l0_0.length c0_0) := (blk_cell BK156.out 0).trans rfl; have hcz18_1 : w15.cell? ⟨gb156, 1, none⟩ = some (.slice A0_1 l0_1.length c0_1) := (blk_cell BK156.out 1).trans rfl; have hcz18_2 : w15.cell? ⟨gb156, 2, none⟩ = some (.int .i64 a0_2) := (blk_cell BK156.out 2).trans rfl; have hfz18_0 := blk_frozen BK156.out 0; have hfz18_1 := blk_frozen BK156.out 1; have hfz18_2 := blk_frozen BK156.out 2; have hcz19_0 : w15.cell? ⟨gb157, 0, none⟩ = some (.slice none 0 0) := (blk_cell BK157.out 0).trans rfl; have hcz19_1 : w15.cell? ⟨gb157, 1, none⟩ = some (.slice none 0 0) := (blk_cell BK157.out 1).trans rfl; have hcz19_2 : w15.cell? ⟨gb157, 2, none⟩ = some (.int .i64 0) := (blk_cell BK157.out 2).trans rfl; have hfz19_0 := blk_frozen BK157.out 0; have hfz19_1 := blk_frozen BK157.out 1; have hfz19_2 := blk_frozen BK157.out 2))
  refine bodyPost_ret (results_cell_row rfl _ _ gb157 62 #[.slice Ao11 t159.length co11, .slice Ao16 t162.length co16, .int .i64 a0_2] (0, 0) _ rfl (by (with_reducible repeat (first | refine blk_drewN ?_ _ | refine blk_drew ?_ | refine blk_alloc ?_ _)); refine blk_put (cs := #[.slice Ao11 t159.length co11, .slice Ao16 t162.length co16, .int .i64 0]) ?_ 2 _ rfl; (with_reducible repeat (first | refine blk_drewN ?_ _ | refine blk_drew ?_ | refine blk_alloc ?_ _)); refine blk_put (cs := #[.slice Ao11 t159.length co11, .slice none 0 0, .int .i64 0]) ?_ 1 _ rfl; (with_reducible repeat (first | refine blk_drewN ?_ _ | refine blk_drew ?_ | refine blk_alloc ?_ _)); refine blk_put (cs := #[.slice none 0 0, .slice none 0 0, .int .i64 0]) ?_ 0 _ rfl; (with_reducible repeat (first | refine blk_drewN ?_ _ | refine blk_drew ?_ | refine blk_alloc ?_ _)); refine blk_far ?_ NB157_158.out _; (with_reducible repeat (first | refine blk_drewN ?_ _ | refine blk_drew ?_ | refine blk_alloc ?_ _)); refine blk_far ?_ NB157_158.out _; (with_reducible repeat (first | refine blk_drewN ?_ _ | refine blk_drew ?_ | refine blk_alloc ?_ _)); exact BK157.out) Try.underlying62 rfl (by kernel_rfl)) rfl ?_
  exact ⟨_, _, by first | rfl | (simp [errW_none, errW_some] <;> rfl) | (simp [*, errW_none, errW_some] <;> rfl), by (with_reducible repeat (first | apply Kd.R_alloc | apply Kd.R_drewN | apply Kd.R_drew)); exact Kd.R_mono (Kd.R_far (p := ⟨gb157, 2, none⟩) (Kd.R_far (p := ⟨gb157, 1, none⟩) (Kd.R_far (p := ⟨gb157, 0, none⟩) (Kd.R_far (p := ⟨gb158, 2, none⟩) (Kd.R_far (p := ⟨gb158, 1, none⟩) (Kd.R_types (Kd.R_types HO161.out BK158.out (by decide)) BK157.out (by decide)) (fun _ hk => hk.1.2) (.slice Ao16 t162.length co16)) (fun _ hk => hk.1.2) (.int .i64 a0_2)) (fun _ hk => hk.2) (.slice Ao11 t159.length co11)) (fun _ hk => hk.2) (.slice Ao16 t162.length co16)) (fun _ hk => hk.2) (.int .i64 a0_2)) (fun _ hk => hk.1.1.2), by (with_reducible repeat (first | apply Kd.R_alloc | apply Kd.R_drewN | apply Kd.R_drew)); exact Kd.R_mono (Kd.R_far (p := ⟨gb157, 2, none⟩) (Kd.R_far (p := ⟨gb157, 1, none⟩) (Kd.R_far (p := ⟨gb157, 0, none⟩) (Kd.R_far (p := ⟨gb158, 2, none⟩) (Kd.R_far (p := ⟨gb158, 1, none⟩) (Kd.R_types (Kd.R_types HO164.out BK158.out (by decide)) BK157.out (by decide)) (fun _ hk => hk.1.2) (.slice Ao16 t162.length co16)) (fun _ hk => hk.1.2) (.int .i64 a0_2)) (fun _ hk => hk.2) (.slice Ao11 t159.length co11)) (fun _ hk => hk.2) (.slice Ao16 t162.length co16)) (fun _ hk => hk.2) (.int .i64 a0_2)) (fun _ hk => hk.1.1.2), by repeat (first | (with_reducible first | exact HB.out | apply below_alloc | apply pw_below_drewN | apply below_drew1 | refine below_set ?_ GE156.out | refine below_set ?_ GE157.out | refine below_set ?_ GE158.out) | exact HB.out)⟩

/-! ### laws_toEmergency: function 109 -/
def laws_toEmergency.f (k : Nat) (a0_0 : Int) (a0_1 : Int) (a0_2 : Int) (a0_3 : Int) (l0_4 : List Int) (a0_5 : Bool) : Option (Int × Int × Int × Int × List Int × Bool) := (laws_toIntS.f k l0_4).bind fun t168 => (some (a0_0, a0_1, a0_2, a0_3, t168, a0_5))
set_option maxHeartbeats 8000000 in
set_option maxRecDepth 100000 in
theorem laws_toEmergency.calls (k : Nat) (a0_0 : Int) (a0_1 : Int) (a0_2 : Int) (a0_3 : Int) (A0_4 : Option Addr) (c0_4 : Nat) (l0_4 : List Int) (a0_5 : Bool) (r1 : Int) (r2 : Int) (r3 : Int) (r4 : Int) (r5 : List Int) (r6 : Bool) (w : World) (hr0_4 : Kd.C (Kd.int .i64) w A0_4 l0_4.length l0_4) (hc0_4 : l0_4.length ≤ c0_4) (h : laws_toEmergency.f k a0_0 a0_1 a0_2 a0_3 l0_4 a0_5 = some (r1, r2, r3, r4, r5, r6)) :
    Calls Try.prog 109 #[.agg #[.int .i64 a0_0, .int .i64 a0_1, .int .i64 a0_2, .int .i64 a0_3, .slice A0_4 l0_4.length c0_4, .bool a0_5]] w fun e w' => ∃ v4_ : Value, e = .returned (.agg #[.int .i64 r1, .int .i64 r2, .int .i64 r3, .int .i64 r4, v4_, .bool r6]) ∧ Kd.R (Kd.int .i64) 3 w' w.heap.size (fun _ => True) v4_ r5 ∧ Below w.heap.size w w' := by
  have hu143 := Try.underlying143
  have hu144 := Try.underlying144
  have HR0_4 := Aside0.mk hr0_4
  have HC0_4 := Aside0.mk hc0_4
  clear hr0_4 hc0_4
  have HB := Aside0.mk (Below.refl w.heap.size w)
  have H : ((laws_toIntS.f k l0_4).bind fun t168 => (some (a0_0, a0_1, a0_2, a0_3, t168, a0_5))) = some (r1, r2, r3, r4, r5, r6) := h
  clear h
  replace H := Option.bind_eq_some_iff.mp H
  obtain ⟨t168, A20, H⟩ := H
  replace H : (some (a0_0, a0_1, a0_2, a0_3, t168, a0_5)) = some (r1, r2, r3, r4, r5, r6) := H
  have A2 := Aside0.mk A20
  clear A20
  simp only [Option.some.injEq, Prod.mk.injEq] at H
  obtain ⟨rfl, rfl, rfl, rfl, rfl, rfl⟩ := H
  go_enter Try.func109, Try.ntmps109
  go_wp2_with (first | ((with_reducible refine gate_dst (N := 1) rfl ?_); refine box_event ?hg (N := 1) ?hd (cs := #[.int .i64 a0_0, .int .i64 a0_1, .int .i64 a0_2, .int .i64 a0_3, .slice A0_4 l0_4.length c0_4, .bool a0_5]) (t := 143) ?hr ?_; (case hd => rfl); (case hg => rfl); (case hr => first | (go_simp; done) | (go_simp; rfl)); intro gb165 hg w3 hbox hb; have n0_ := Aside0.mk (below_step (by repeat (first | (with_reducible first | exact HB.out | apply below_alloc | apply pw_below_drewN | apply below_drew1) | exact HB.out)) hb); have n1_ := Aside0.mk (hbox); have n2_ := Aside0.mk ((by rw [hg]; exact (below_size (by repeat (first | (with_reducible first | exact HB.out | apply below_alloc | apply pw_below_drewN | apply below_drew1) | exact HB.out))) : w.heap.size ≤ gb165)); have n3_ := Aside0.mk ((by rw [hg]; exact (below_size (by repeat (first | (with_reducible first | exact HB.out | apply below_alloc | apply pw_below_drewN | apply below_drew1) | exact HB.out))) : w.heap.size ≤ gb165)); clear HB; have HB := n0_; have BK165 := n1_; have GW165 := n2_; have GE165 := n3_; clear n0_ n1_ n2_ n3_; clear hb hbox hg) | ((with_reducible refine gate_dst (N := 2) rfl ?_); refine box_event ?hg (N := 2) ?hd (cs := #[.int .i64 0, .int .i64 0, .int .i64 0, .int .i64 0, .slice none 0 0, .bool false]) (t := 144) ?hr ?_; (case hd => rfl); (case hg => rfl); (case hr => first | (go_simp; done) | (go_simp; rfl)); intro gb166 hg w4 hbox hb; have n0_ := Aside0.mk (blk_below (g := gb165) (o := .cells #[.int .i64 a0_0, .int .i64 a0_1, .int .i64 a0_2, .int .i64 a0_3, .slice A0_4 l0_4.length c0_4, .bool a0_5] 143 (0, 0)) (by (with_reducible repeat (first | refine blk_drewN ?_ _ | refine blk_drew ?_ | refine blk_alloc ?_ _)); exact BK165.out) hb); have n1_ := Aside0.mk (below_step (by repeat (first | (with_reducible first | exact HB.out | apply below_alloc | apply pw_below_drewN | apply below_drew1 | refine below_set ?_ GE165.out) | exact HB.out)) hb); have n2_ := Aside0.mk (hbox); have n3_ := Aside0.mk ((by rw [hg]; exact (below_size (by repeat (first | (with_reducible first | exact HB.out | apply below_alloc | apply pw_below_drewN | apply below_drew1 | refine below_set ?_ GE165.out) | exact HB.out))) : w.heap.size ≤ gb166)); have n4_ := Aside0.mk ((by rw [hg]; exact (below_size (by repeat (first | (with_reducible first | exact HB.out | apply below_alloc | apply pw_below_drewN | apply below_drew1 | refine below_set ?_ GE165.out) | exact HB.out))) : w.heap.size ≤ gb166)); have n5_ := Aside0.mk ((by rw [hg]; exact Nat.ne_of_lt (blk_lt (g := gb165) (o := .cells #[.int .i64 a0_0, .int .i64 a0_1, .int .i64 a0_2, .int .i64 a0_3, .slice A0_4 l0_4.length c0_4, .bool a0_5] 143 (0, 0)) (by (with_reducible repeat (first | refine blk_drewN ?_ _ | refine blk_drew ?_ | refine blk_alloc ?_ _)); exact BK165.out)) : gb165 ≠ gb166)); have n6_ := Aside0.mk ((by rw [hg]; exact Nat.ne_of_gt (blk_lt (g := gb165) (o := .cells #[.int .i64 a0_0, .int .i64 a0_1, .int .i64 a0_2, .int .i64 a0_3, .slice A0_4 l0_4.length c0_4, .bool a0_5] 143 (0, 0)) (by (with_reducible repeat (first | refine blk_drewN ?_ _ | refine blk_drew ?_ | refine blk_alloc ?_ _)); exact BK165.out)) : gb166 ≠ gb165)); clear BK165; clear HB; have BK165 := n0_; have HB := n1_; have BK166 := n2_; have GW166 := n3_; have GE166 := n4_; have NB165_166 := n5_; have NB166_165 := n6_; clear n0_ n1_ n2_ n3_ n4_ n5_ n6_; clear hb hbox hg) | ((with_reducible refine gate_dst (N := 3) rfl ?_); refine box_event ?hg (N := 3) ?hd (cs := #[.int .i64 0, .int .i64 0, .int .i64 0, .int .i64 0, .slice none 0 0, .bool false]) (t := 144) ?hr ?_; (case hd => rfl); (case hg => rfl); (case hr => first | (go_simp; done) | (go_simp; rfl)); intro gb167 hg w5 hbox hb; have n0_ := Aside0.mk (blk_below (g := gb165) (o := .cells #[.int .i64 a0_0, .int .i64 a0_1, .int .i64 a0_2, .int .i64 a0_3, .slice A0_4 l0_4.length c0_4, .bool a0_5] 143 (0, 0)) (by (with_reducible repeat (first | refine blk_drewN ?_ _ | refine blk_drew ?_ | refine blk_alloc ?_ _)); exact BK165.out) hb); have n1_ := Aside0.mk (blk_below (g := gb166) (o := .cells #[.int .i64 0, .int .i64 0, .int .i64 0, .int .i64 0, .slice none 0 0, .bool false] 144 (0, 0)) (by (with_reducible repeat (first | refine blk_drewN ?_ _ | refine blk_drew ?_ | refine blk_alloc ?_ _)); exact BK166.out) hb); have n2_ := Aside0.mk (below_step (by repeat (first | (with_reducible first | exact HB.out | apply below_alloc | apply pw_below_drewN | apply below_drew1 | refine below_set ?_ GE165.out | refine below_set ?_ GE166.out) | exact HB.out)) hb); have n3_ := Aside0.mk (hbox); have n4_ := Aside0.mk ((by rw [hg]; exact (below_size (by repeat (first | (with_reducible first | exact HB.out | apply below_alloc | apply pw_below_drewN | apply below_drew1 | refine below_set ?_ GE165.out | refine below_set ?_ GE166.out) | exact HB.out))) : w.heap.size ≤ gb167)); have n5_ := Aside0.mk ((by rw [hg]; exact (below_size (by repeat (first | (with_reducible first | exact HB.out | apply below_alloc | apply pw_below_drewN | apply below_drew1 | refine below_set ?_ GE165.out | refine below_set ?_ GE166.out) | exact HB.out))) : w.heap.size ≤ gb167)); have n6_ := Aside0.mk ((by rw [hg]; exact Nat.ne_of_lt (blk_lt (g := gb165) (o := .cells #[.int .i64 a0_0, .int .i64 a0_1, .int .i64 a0_2, .int .i64 a0_3, .slice A0_4 l0_4.length c0_4, .bool a0_5] 143 (0, 0)) (by (with_reducible repeat (first | refine blk_drewN ?_ _ | refine blk_drew ?_ | refine blk_alloc ?_ _)); exact BK165.out)) : gb165 ≠ gb167)); have n7_ := Aside0.mk ((by rw [hg]; exact Nat.ne_of_gt (blk_lt (g := gb165) (o := .cells #[.int .i64 a0_0, .int .i64 a0_1, .int .i64 a0_2, .int .i64 a0_3, .slice A0_4 l0_4.length c0_4, .bool a0_5] 143 (0, 0)) (by (with_reducible repeat (first | refine blk_drewN ?_ _ | refine blk_drew ?_ | refine blk_alloc ?_ _)); exact BK165.out)) : gb167 ≠ gb165)); have n8_ := Aside0.mk ((by rw [hg]; exact Nat.ne_of_lt (blk_lt (g := gb166) (o := .cells #[.int .i64 0, .int .i64 0, .int .i64 0, .int .i64 0, .slice none 0 0, .bool false] 144 (0, 0)) (by (with_reducible repeat (first | refine blk_drewN ?_ _ | refine blk_drew ?_ | refine blk_alloc ?_ _)); exact BK166.out)) : gb166 ≠ gb167)); have n9_ := Aside0.mk ((by rw [hg]; exact Nat.ne_of_gt (blk_lt (g := gb166) (o := .cells #[.int .i64 0, .int .i64 0, .int .i64 0, .int .i64 0, .slice none 0 0, .bool false] 144 (0, 0)) (by (with_reducible repeat (first | refine blk_drewN ?_ _ | refine blk_drew ?_ | refine blk_alloc ?_ _)); exact BK166.out)) : gb167 ≠ gb166)); clear BK165; clear BK166; clear HB; have BK165 := n0_; have BK166 := n1_; have HB := n2_; have BK167 := n3_; have GW167 := n4_; have GE167 := n5_; have NB165_167 := n6_; have NB167_165 := n7_; have NB166_167 := n8_; have NB167_166 := n9_; clear n0_ n1_ n2_ n3_ n4_ n5_ n6_ n7_ n8_ n9_; clear hb hbox hg; have hnb6 := NB165_166.out; have hnc6 := NB166_165.out; have hnb7 := NB165_167.out; have hnc7 := NB167_165.out; have hcz8_0 : w5.cell? ⟨gb165, 0, none⟩ = some (.int .i64 a0_0) := (blk_cell BK165.out 0).trans rfl; have hcz8_1 : w5.cell? ⟨gb165, 1, none⟩ = some (.int .i64 a0_1) := (blk_cell BK165.out 1).trans rfl; have hcz8_2 : w5.cell? ⟨gb165, 2, none⟩ = some (.int .i64 a0_2) := (blk_cell BK165.out 2).trans rfl; have hcz8_3 : w5.cell? ⟨gb165, 3, none⟩ = some (.int .i64 a0_3) := (blk_cell BK165.out 3).trans rfl; have hcz8_4 : w5.cell? ⟨gb165, 4, none⟩ = some (.slice A0_4 l0_4.length c0_4) := (blk_cell BK165.out 4).trans rfl; have hcz8_5 : w5.cell? ⟨gb165, 5, none⟩ = some (.bool a0_5) := (blk_cell BK165.out 5).trans rfl; have hfz8_0 := blk_frozen BK165.out 0; have hfz8_1 := blk_frozen BK165.out 1; have hfz8_2 := blk_frozen BK165.out 2; have hfz8_3 := blk_frozen BK165.out 3; have hfz8_4 := blk_frozen BK165.out 4; have hfz8_5 := blk_frozen BK165.out 5; have hnb9 := NB167_166.out; have hnc9 := NB166_167.out; have hcz10_0 : w5.cell? ⟨gb167, 0, none⟩ = some (.int .i64 0) := (blk_cell BK167.out 0).trans rfl; have hcz10_1 : w5.cell? ⟨gb167, 1, none⟩ = some (.int .i64 0) := (blk_cell BK167.out 1).trans rfl; have hcz10_2 : w5.cell? ⟨gb167, 2, none⟩ = some (.int .i64 0) := (blk_cell BK167.out 2).trans rfl; have hcz10_3 : w5.cell? ⟨gb167, 3, none⟩ = some (.int .i64 0) := (blk_cell BK167.out 3).trans rfl; have hcz10_4 : w5.cell? ⟨gb167, 4, none⟩ = some (.slice none 0 0) := (blk_cell BK167.out 4).trans rfl; have hcz10_5 : w5.cell? ⟨gb167, 5, none⟩ = some (.bool false) := (blk_cell BK167.out 5).trans rfl; have hfz10_0 := blk_frozen BK167.out 0; have hfz10_1 := blk_frozen BK167.out 1; have hfz10_2 := blk_frozen BK167.out 2; have hfz10_3 := blk_frozen BK167.out 3; have hfz10_4 := blk_frozen BK167.out 4; have hfz10_5 := blk_frozen BK167.out 5) | ((with_reducible refine gate_callee (f := 100) rfl ?_); refine goesL_ (some 18) rfl rfl Try.func100 (by kernel_rfl) rfl #[.slice A0_4 l0_4.length c0_4] rfl (by (try simp only [List.map_toArray, List.map_cons, List.map_nil]); first | done | rfl | (simp only [List.length_drop, List.length_take]; rfl)) ?_; (with_reducible refine (laws_toIntS.calls k _ _ l0_4 t168 _ ?side1 ?side2 A2.out).mono ?_); (case side1 => exact Kd.C_below HR0_4.out (by repeat (first | (with_reducible first | exact HB.out | apply below_alloc | apply pw_below_drewN | apply below_drew1 | refine below_set ?_ GE165.out | refine below_set ?_ GE166.out | refine below_set ?_ GE167.out) | exact HB.out))); (case side2 => exact HC0_4.out); rintro e w11 ⟨v169, rfl, ho0, hb⟩; refine ⟨_, rfl, ?_⟩; have n0_ := Aside0.mk (Kd.R_lower ho0 (below_size (by repeat (first | (with_reducible first | exact HB.out | apply below_alloc | apply pw_below_drewN | apply below_drew1 | refine below_set ?_ GE165.out | refine below_set ?_ GE166.out | refine below_set ?_ GE167.out) | exact HB.out)))); have n1_ := Aside0.mk (blk_below (g := gb165) (o := .cells #[.int .i64 a0_0, .int .i64 a0_1, .int .i64 a0_2, .int .i64 a0_3, .slice A0_4 l0_4.length c0_4, .bool a0_5] 143 (0, 0)) (by (with_reducible repeat (first | refine blk_drewN ?_ _ | refine blk_drew ?_ | refine blk_alloc ?_ _)); refine blk_far ?_ NB165_167.out _; (with_reducible repeat (first | refine blk_drewN ?_ _ | refine blk_drew ?_ | refine blk_alloc ?_ _)); refine blk_far ?_ NB165_167.out _; (with_reducible repeat (first | refine blk_drewN ?_ _ | refine blk_drew ?_ | refine blk_alloc ?_ _)); refine blk_far ?_ NB165_167.out _; (with_reducible repeat (first | refine blk_drewN ?_ _ | refine blk_drew ?_ | refine blk_alloc ?_ _)); refine blk_far ?_ NB165_167.out _; (with_reducible repeat (first | refine blk_drewN ?_ _ | refine blk_drew ?_ | refine blk_alloc ?_ _)); exact BK165.out) hb); have n2_ := Aside0.mk (blk_below (g := gb166) (o := .cells #[.int .i64 0, .int .i64 0, .int .i64 0, .int .i64 0, .slice none 0 0, .bool false] 144 (0, 0)) (by (with_reducible repeat (first | refine blk_drewN ?_ _ | refine blk_drew ?_ | refine blk_alloc ?_ _)); refine blk_far ?_ NB166_167.out _; (with_reducible repeat (first | refine blk_drewN ?_ _ | refine blk_drew ?_ | refine blk_alloc ?_ _)); refine blk_far ?_ NB166_167.out _; (with_reducible repeat (first | refine blk_drewN ?_ _ | refine blk_drew ?_ | refine blk_alloc ?_ _)); refine blk_far ?_ NB166_167.out _; (with_reducible repeat (first | refine blk_drewN ?_ _ | refine blk_drew ?_ | refine blk_alloc ?_ _)); refine blk_far ?_ NB166_167.out _; (with_reducible repeat (first | refine blk_drewN ?_ _ | refine blk_drew ?_ | refine blk_alloc ?_ _)); exact BK166.out) hb); have n3_ := Aside0.mk (blk_below (g := gb167) (o := .cells #[.int .i64 a0_0, .int .i64 a0_1, .int .i64 a0_2, .int .i64 a0_3, .slice none 0 0, .bool false] 144 (0, 0)) (by (with_reducible repeat (first | refine blk_drewN ?_ _ | refine blk_drew ?_ | refine blk_alloc ?_ _)); refine blk_put (cs := #[.int .i64 a0_0, .int .i64 a0_1, .int .i64 a0_2, .int .i64 0, .slice none 0 0, .bool false]) ?_ 3 _ rfl; (with_reducible repeat (first | refine blk_drewN ?_ _ | refine blk_drew ?_ | refine blk_alloc ?_ _)); refine blk_put (cs := #[.int .i64 a0_0, .int .i64 a0_1, .int .i64 0, .int .i64 0, .slice none 0 0, .bool false]) ?_ 2 _ rfl; (with_reducible repeat (first | refine blk_drewN ?_ _ | refine blk_drew ?_ | refine blk_alloc ?_ _)); refine blk_put (cs := #[.int .i64 a0_0, .int .i64 0, .int .i64 0, .int .i64 0, .slice none 0 0, .bool false]) ?_ 1 _ rfl; (with_reducible repeat (first | refine blk_drewN ?_ _ | refine blk_drew ?_ | refine blk_alloc ?_ _)); refine blk_put (cs := #[.int .i64 0, .int .i64 0, .int .i64 0, .int .i64 0, .slice none 0 0, .bool false]) ?_ 0 _ rfl; (with_reducible repeat (first | refine blk_drewN ?_ _ | refine blk_drew ?_ | refine blk_alloc ?_ _)); exact BK167.out) hb); have n4_ := Aside0.mk (below_step (by repeat (first | (with_reducible first | exact HB.out | apply below_alloc | apply pw_below_drewN | apply below_drew1 | refine below_set ?_ GE165.out | refine below_set ?_ GE166.out | refine below_set ?_ GE167.out) | exact HB.out)) hb); clear BK165; clear BK166; clear BK167; clear HB; have HO170 := n0_; (try have hv1_170 := fun (W_ : World) (a_ : Addr) (m_ : Mode) => run_store Try.prog W_ a_ _ m_ (Kd.R_val HO170.out).2); have BK165 := n1_; have BK166 := n2_; have BK167 := n3_; have HB := n4_; clear n0_ n1_ n2_ n3_ n4_; (try clear hb); (try clear hb2); (try clear hk); (try clear hi); (try clear ho0); obtain ⟨Ao12, co12, eo12⟩ := Kd.R_slice HO170.out; subst eo12; have hcz13_0 : w11.cell? ⟨gb167, 0, none⟩ = some (.int .i64 a0_0) := (blk_cell BK167.out 0).trans rfl; have hcz13_1 : w11.cell? ⟨gb167, 1, none⟩ = some (.int .i64 a0_1) := (blk_cell BK167.out 1).trans rfl; have hcz13_2 : w11.cell? ⟨gb167, 2, none⟩ = some (.int .i64 a0_2) := (blk_cell BK167.out 2).trans rfl; have hcz13_3 : w11.cell? ⟨gb167, 3, none⟩ = some (.int .i64 a0_3) := (blk_cell BK167.out 3).trans rfl; have hcz13_4 : w11.cell? ⟨gb167, 4, none⟩ = some (.slice none 0 0) := (blk_cell BK167.out 4).trans rfl; have hcz13_5 : w11.cell? ⟨gb167, 5, none⟩ = some (.bool false) := (blk_cell BK167.out 5).trans rfl; have hfz13_0 := blk_frozen BK167.out 0; have hfz13_1 := blk_frozen BK167.out 1; have hfz13_2 := blk_frozen BK167.out 2; have hfz13_3 := blk_frozen BK167.out 3; have hfz13_4 := blk_frozen BK167.out 4; have hfz13_5 := blk_frozen BK167.out 5; have hcz14_0 : w11.cell? ⟨gb165, 0, none⟩ = some (.int .i64 a0_0) := (blk_cell BK165.out 0).trans rfl; have hcz14_1 : w11.cell? ⟨gb165, 1, none⟩ = some (.int .i64 a0_1) := (blk_cell BK165.out 1).trans rfl; have hcz14_2 : w11.cell? ⟨gb165, 2, none⟩ = some (.int .i64 a0_2) := (blk_cell BK165.out 2).trans rfl; have hcz14_3 : w11.cell? ⟨gb165, 3, none⟩ = some (.int .i64 a0_3) := (blk_cell BK165.out 3).trans rfl; have hcz14_4 : w11.cell? ⟨gb165, 4, none⟩ = some (.slice A0_4 l0_4.length c0_4) := (blk_cell BK165.out 4).trans rfl; have hcz14_5 : w11.cell? ⟨gb165, 5, none⟩ = some (.bool a0_5) := (blk_cell BK165.out 5).trans rfl; have hfz14_0 := blk_frozen BK165.out 0; have hfz14_1 := blk_frozen BK165.out 1; have hfz14_2 := blk_frozen BK165.out 2; have hfz14_3 := blk_frozen BK165.out 3; have hfz14_4 := blk_frozen BK165.out 4; have hfz14_5 := blk_frozen BK165.out 5; have hcz15_0 : w11.cell? ⟨gb166, 0, none⟩ = some (.int .i64 0) := (blk_cell BK166.out 0).trans rfl; have hcz15_1 : w11.cell? ⟨gb166, 1, none⟩ = some (.int .i64 0) := (blk_cell BK166.out 1).trans rfl; have hcz15_2 : w11.cell? ⟨gb166, 2, none⟩ = some (.int .i64 0) := (blk_cell BK166.out 2).trans rfl; have hcz15_3 : w11.cell? ⟨gb166, 3, none⟩ = some (.int .i64 0) := (blk_cell BK166.out 3).trans rfl; have hcz15_4 : w11.cell? ⟨gb166, 4, none⟩ = some (.slice none 0 0) := (blk_cell BK166.out 4).trans rfl; have hcz15_5 : w11.cell? ⟨gb166, 5, none⟩ = some (.bool false) := (blk_cell BK166.out 5).trans rfl; have hfz15_0 := blk_frozen BK166.out 0; have hfz15_1 := blk_frozen BK166.out 1; have hfz15_2 := blk_frozen BK166.out 2; have hfz15_3 := blk_frozen BK166.out 3; have hfz15_4 := blk_frozen BK166.out 4; have hfz15_5 := blk_frozen BK166.out 5))
  refine bodyPost_ret (results_cell_row rfl _ _ gb166 144 #[.int .i64 a0_0, .int .i64 a0_1, .int .i64 a0_2, .int .i64 a0_3, .slice Ao12 t168.length co12, .bool a0_5] (0, 0) _ rfl (by (with_reducible repeat (first | refine blk_drewN ?_ _ | refine blk_drew ?_ | refine blk_alloc ?_ _)); refine blk_put (cs := #[.int .i64 a0_0, .int .i64 a0_1, .int .i64 a0_2, .int .i64 a0_3, .slice Ao12 t168.length co12, .bool false]) ?_ 5 _ rfl; (with_reducible repeat (first | refine blk_drewN ?_ _ | refine blk_drew ?_ | refine blk_alloc ?_ _)); refine blk_put (cs := #[.int .i64 a0_0, .int .i64 a0_1, .int .i64 a0_2, .int .i64 a0_3, .slice none 0 0, .bool false]) ?_ 4 _ rfl; (with_reducible repeat (first | refine blk_drewN ?_ _ | refine blk_drew ?_ | refine blk_alloc ?_ _)); refine blk_put (cs := #[.int .i64 a0_0, .int .i64 a0_1, .int .i64 a0_2, .int .i64 0, .slice none 0 0, .bool false]) ?_ 3 _ rfl; (with_reducible repeat (first | refine blk_drewN ?_ _ | refine blk_drew ?_ | refine blk_alloc ?_ _)); refine blk_put (cs := #[.int .i64 a0_0, .int .i64 a0_1, .int .i64 0, .int .i64 0, .slice none 0 0, .bool false]) ?_ 2 _ rfl; (with_reducible repeat (first | refine blk_drewN ?_ _ | refine blk_drew ?_ | refine blk_alloc ?_ _)); refine blk_put (cs := #[.int .i64 a0_0, .int .i64 0, .int .i64 0, .int .i64 0, .slice none 0 0, .bool false]) ?_ 1 _ rfl; (with_reducible repeat (first | refine blk_drewN ?_ _ | refine blk_drew ?_ | refine blk_alloc ?_ _)); refine blk_put (cs := #[.int .i64 0, .int .i64 0, .int .i64 0, .int .i64 0, .slice none 0 0, .bool false]) ?_ 0 _ rfl; (with_reducible repeat (first | refine blk_drewN ?_ _ | refine blk_drew ?_ | refine blk_alloc ?_ _)); refine blk_far ?_ NB166_167.out _; (with_reducible repeat (first | refine blk_drewN ?_ _ | refine blk_drew ?_ | refine blk_alloc ?_ _)); refine blk_far ?_ NB166_167.out _; (with_reducible repeat (first | refine blk_drewN ?_ _ | refine blk_drew ?_ | refine blk_alloc ?_ _)); exact BK166.out) Try.underlying144 rfl (by kernel_rfl)) rfl ?_
  exact ⟨_, by first | rfl | (simp [errW_none, errW_some] <;> rfl) | (simp [*, errW_none, errW_some] <;> rfl), by (with_reducible repeat (first | apply Kd.R_alloc | apply Kd.R_drewN | apply Kd.R_drew)); exact Kd.R_mono (Kd.R_far (p := ⟨gb166, 5, none⟩) (Kd.R_far (p := ⟨gb166, 4, none⟩) (Kd.R_far (p := ⟨gb166, 3, none⟩) (Kd.R_far (p := ⟨gb166, 2, none⟩) (Kd.R_far (p := ⟨gb166, 1, none⟩) (Kd.R_far (p := ⟨gb166, 0, none⟩) (Kd.R_far (p := ⟨gb167, 5, none⟩) (Kd.R_far (p := ⟨gb167, 4, none⟩) (Kd.R_types (Kd.R_types HO170.out BK167.out (by decide)) BK166.out (by decide)) (fun _ hk => hk.1.2) (.slice Ao12 t168.length co12)) (fun _ hk => hk.1.2) (.bool a0_5)) (fun _ hk => hk.2) (.int .i64 a0_0)) (fun _ hk => hk.2) (.int .i64 a0_1)) (fun _ hk => hk.2) (.int .i64 a0_2)) (fun _ hk => hk.2) (.int .i64 a0_3)) (fun _ hk => hk.2) (.slice Ao12 t168.length co12)) (fun _ hk => hk.2) (.bool a0_5)) (fun _ hk => trivial), by repeat (first | (with_reducible first | exact HB.out | apply below_alloc | apply pw_below_drewN | apply below_drew1 | refine below_set ?_ GE165.out | refine below_set ?_ GE166.out | refine below_set ?_ GE167.out) | exact HB.out)⟩

end Go.Proofs.Ytplfbjbbnjlnkaa.QFnExactAreEmergencies
