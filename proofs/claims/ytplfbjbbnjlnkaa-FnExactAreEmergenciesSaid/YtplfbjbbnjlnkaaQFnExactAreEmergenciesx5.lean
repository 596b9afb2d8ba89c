/- The machine side of FnExactAreEmergencies: what each function that it reaches computes, and that the machine's call gives just that. -/
import Derived.Test.YtplfbjbbnjlnkaaQFnExactAreEmergenciesx0
import Derived.Test.YtplfbjbbnjlnkaaQFnExactAreEmergenciesx4
namespace Go.Proofs.Ytplfbjbbnjlnkaa.QFnExactAreEmergencies
open Go.RowKit Go.Proofs.YtplfbjbbnjlnkaaW.PrintWords Go.Proofs.YtplfbjbbnjlnkaaW.PrintLast Go.Proofs.YtplfbjbbnjlnkaaW.PrintMore
attribute [local go_sem] max2_int min2_int max_two min_two max_three min_three max_four min_four   -- for this text's walks alone
set_option linter.unusedVariables false
set_option linter.unusedSimpArgs false

/-! ### impl_isEmergency: function 110 -/
def impl_isEmergency.f (k : Nat) (l0_0 : List Int) (l0_1 : List Int) (a0_2 : Int) (a1_0 : Int) (a1_1 : Int) (a1_2 : Int) (a1_3 : Int) (l1_4 : List Int) (a1_5 : Bool) (l2 : List (S144)) : Option (Bool) := if a1_0 = (wrap64 ((l2.length : Int) + 1)) then ((slices_Contains_int_int.f k l0_0 a1_1).bind fun t201 => (if t201 = true then ((impl_IsTime.f a1_2).bind fun t202 => (if t202 = true then (if (l2.length : Int) > 0 then (if 0 ≤ (wrap64 ((l2.length : Int) - 1)) then (if (wrap64 ((l2.length : Int) - 1)) < (l2.length : Int) then (if ((rd_T144 l2 (wrap64 ((l2.length : Int) - 1))).f2) > a1_2 then (some false) else ((impl_EndOf.f a1_2 a0_2).bind fun t204 => (if a1_3 = t204 then ((Go.Proofs.YtplfbjbbnjlnkaaH.idxO (fun x => cl159.f k x l0_0 l0_1 a0_2) l1_4 0).bind fun t205 => (if t205 ≥ 0 then (some false) else (if a1_5 = true then (some true) else ((impl_DebtsOf.f k l2 a1_1).bind fun t206 => (some ((t206.length : Int) == 0)))))) else (some false)))) else (none)) else (none)) else ((impl_EndOf.f a1_2 a0_2).bind fun t209 => (if a1_3 = t209 then ((Go.Proofs.YtplfbjbbnjlnkaaH.idxO (fun x => cl159.f k x l0_0 l0_1 a0_2) l1_4 0).bind fun t210 => (if t210 ≥ 0 then (some false) else (if a1_5 = true then (some true) else ((impl_DebtsOf.f k l2 a1_1).bind fun t211 => (some ((t211.length : Int) == 0)))))) else (some false)))) else (some false))) else (some false))) else (some false)
open Go.Proofs.YtplfbjbbnjlnkaaM in
set_option maxHeartbeats 8000000 in
set_option maxRecDepth 100000 in
theorem impl_isEmergency.calls (k : Nat) (A0_0 : Option Addr) (c0_0 : Nat) (l0_0 : List Int) (A0_1 : Option Addr) (c0_1 : Nat) (l0_1 : List Int) (a0_2 : Int) (a1_0 : Int) (a1_1 : Int) (a1_2 : Int) (a1_3 : Int) (A1_4 : Option Addr) (c1_4 : Nat) (l1_4 : List Int) (a1_5 : Bool) (A2 : Option Addr) (c2 : Nat) (l2 : List (S144)) (r : Bool) (w : World) (hr0_0 : Kd.C (Kd.int .i64) w A0_0 l0_0.length l0_0) (hc0_0 : l0_0.length ≤ c0_0) (hr0_1 : Kd.C (Kd.int .i64) w A0_1 l0_1.length l0_1) (hc0_1 : l0_1.length ≤ c0_1) (hr1_4 : Kd.C (Kd.int .i64) w A1_4 l1_4.length l1_4) (hc1_4 : l1_4.length ≤ c1_4) (hr2 : Kd.C k144 w A2 l2.length l2) (hc2 : l2.length ≤ c2) (h : impl_isEmergency.f k l0_0 l0_1 a0_2 a1_0 a1_1 a1_2 a1_3 l1_4 a1_5 l2 = some r) :
    Calls Try.prog 110 #[.agg #[.slice A0_0 l0_0.length c0_0, .slice A0_1 l0_1.length c0_1, .int .i64 a0_2], .agg #[.int .i64 a1_0, .int .i64 a1_1, .int .i64 a1_2, .int .i64 a1_3, .slice A1_4 l1_4.length c1_4, .bool a1_5], .slice A2 l2.length c2] w fun e w' => e = .returned (.bool r) ∧ Below w.heap.size w w' := by
  have HR0_0 := Aside0.mk hr0_0
  have HC0_0 := Aside0.mk hc0_0
  clear hr0_0 hc0_0
  have HR0_1 := Aside0.mk hr0_1
  have HC0_1 := Aside0.mk hc0_1
  clear hr0_1 hc0_1
  have HR1_4 := Aside0.mk hr1_4
  have HC1_4 := Aside0.mk hc1_4
  clear hr1_4 hc1_4
  have HR2 := Aside0.mk hr2
  have HC2 := Aside0.mk hc2
  clear hr2 hc2
  have HB := Aside0.mk (Below.refl w.heap.size w)
  have H := h
  clear h
  unfold impl_isEmergency.f at H
  have hu62 := Try.underlying62
  have hu144 := Try.underlying144
  go_enter Try.func110, Try.ntmps110
  replace H := Aside0.mk H
  go_upto_region 1 with (first | ((with_reducible refine gate_dst (N := 3) rfl ?_); refine box_event ?hg (N := 3) ?hd (cs := #[.slice A0_0 l0_0.length c0_0, .slice A0_1 l0_1.length c0_1, .int .i64 a0_2]) (t := 62) ?hr ?_; (case hd => rfl); (case hg => rfl); (case hr => first | (go_simp; done) | (go_simp; rfl)); intro gb1 hg W1 hbox hb; replace HB := bH HB hb; clear hb; have BK1 := Aside0.mk hbox; have c_BK1 := blk_cell hbox; have z_BK1 := blk_frozen hbox; clear hg hbox) | ((with_reducible refine gate_dst (N := 4) rfl ?_); refine box_event ?hg (N := 4) ?hd (cs := #[.int .i64 a1_0, .int .i64 a1_1, .int .i64 a1_2, .int .i64 a1_3, .slice A1_4 l1_4.length c1_4, .bool a1_5]) (t := 144) ?hr ?_; (case hd => rfl); (case hg => rfl); (case hr => first | (go_simp; done) | (go_simp; rfl)); intro gb2 hg W2 hbox hb; replace BK1 := bK BK1 hb; replace c_BK1 := blk_cell BK1.out; replace z_BK1 := blk_frozen BK1.out; replace HB := bH HB hb; clear hb; have BK2 := Aside0.mk hbox; have c_BK2 := blk_cell hbox; have z_BK2 := blk_frozen hbox; clear hg hbox))
  replace H := H.out
  replace H := Aside0.mk H
  try go_wp2
  clear c_BK1 z_BK1; have rBK1 := BK1; replace BK1 := dK BK1
  clear c_BK2 z_BK2; have rBK2 := BK2; replace BK2 := dK BK2
  have HBr := HB; replace HB := dH HB
  refine stA (n := 44) (S := fun w' => Below W2.heap.size W2 w') (by kernel_rfl) rfl (below_drew1 (Below.refl _ W2)) (by kernel_rfl) (fun hHeld => ?_)
  generalize W2.drew = W3 at HB BK1 BK2 hHeld ⊢
  replace H := H.out
  replace H := Aside0.mk H
  refine pu 0 (some 10) 1 ?_; refine pu 2 (some 12) 5 ?_; refine pu 3 (some 13) 13 ?_; refine ld 1 (some 11) 15 hHeld ?_ (hr := by (intro w' h_; have y_ := kD rBK2 h_; go_simp; with_reducible rfl))
  replace H := H.out
  by_cases c4 : a1_0 = (wrap64 ((l2.length : Int) + 1))
  · rw [if_pos c4] at H
    have c4_0 := decT c4; have c4_1 := eqT c4; have c4_2 := neT c4
    clear c4
    first | rw [c4_1] | rw [c4_2] | skip
    replace H := Option.bind_eq_some_iff.mp H
    obtain ⟨t201, hm, H⟩ := H
    try dsimp only at H
    replace hm := Aside0.mk hm
    replace H := Aside0.mk H
    refine pu 4 (some 14) 31 ?_; refine pu 5 (some 15) 63 ?_; refine pu 6 (some 16) 127 ?_; refine pu 8 (some 18) 383 ?_; refine ld 7 (some 17) 511 hHeld ?_ (hr := by (intro w' h_; have y_ := kD rBK1 h_; go_simp; with_reducible rfl)); refine ld 9 (some 19) 1023 hHeld ?_ (hr := by (intro w' h_; have y_ := kD rBK2 h_; go_simp; with_reducible rfl))
    replace H := H.out
    replace H := Aside0.mk H
    refine on 10 (some 20) 2047 (fun K hK => ?_)
    have hcall := slices_Contains_int_int.calls k _ _ _ _ _ W3 (Kd.C_below HR0_0.out HB.out) HC0_0.out hm.out
    refine goes_ Try.func116 (by kernel_rfl) rfl #[.slice A0_0 l0_0.length c0_0, .int .i64 a1_1] (by rfl) rfl rfl (by (try simp only [List.map_toArray, List.map_cons, List.map_nil]); first | done | rfl) ?_
    refine hcall.mono ?_
    rintro e W6 ⟨rfl, hd⟩
    refine ⟨_, rfl, ?_⟩
    clear hcall hm
    have hb : Below W3.heap.size W3 W6 := hd.below; clear hd
    replace hHeld := below_step hHeld hb
    replace BK1 := bK BK1 hb
    replace BK2 := bK BK2 hb
    replace HB := bH HB hb; clear hb
    refine hK.out _ _ hHeld (fun hHeld => ?_)
    clear hK K
    refine nr 20 ?_
    replace H := H.out
    by_cases c7 : t201 = true
    · rw [if_pos c7] at H
      subst c7
      replace H := Option.bind_eq_some_iff.mp H
      obtain ⟨t202, hm, H⟩ := H
      try dsimp only at H
      replace hm := Aside0.mk hm
      replace H := Aside0.mk H
      refine pu 11 (some 21) 4095 ?_; refine pu 12 (some 22) 8191 ?_; refine pu 13 (some 23) 16383 ?_; refine pu 14 (some 24) 32767 ?_; refine ld 15 (some 25) 65535 hHeld ?_ (hr := by (intro w' h_; have y_ := kD rBK2 h_; go_simp; with_reducible rfl))
      replace H := H.out
      replace H := Aside0.mk H
      refine on 16 (some 26) 131071 (fun K hK => ?_)
      have hcall := impl_IsTime.calls _ _ W6  hm.out
      refine goes_ Try.func149 (by kernel_rfl) rfl #[.int .i64 a1_2] (by rfl) rfl rfl (by (try simp only [List.map_toArray, List.map_cons, List.map_nil]); first | done | rfl) ?_
      refine hcall.mono ?_
      rintro e W9 ⟨rfl, hb⟩
      refine ⟨_, rfl, ?_⟩
      clear hcall hm
      replace hHeld := below_step hHeld hb
      replace BK1 := bK BK1 hb
      replace BK2 := bK BK2 hb
      replace HB := bH HB hb; clear hb
      refine hK.out _ _ hHeld (fun hHeld => ?_)
      clear hK K
      refine nr 26 ?_
      replace H := H.out
      by_cases c10 : t202 = true
      · rw [if_pos c10] at H
        subst c10
        by_cases c11 : (l2.length : Int) > 0
        · rw [if_pos c11] at H
          have c11_x0 : decide (0 < l2.length) = true := decide_eq_true (by omega)
          replace c11 : 0 < (l2.length : Int) := c11
          have c11_0 := decT c11
          replace c11 := Aside0.mk c11
          first | rw [c11_0] | skip
          by_cases c12 : 0 ≤ (wrap64 ((l2.length : Int) - 1))
          · rw [if_pos c12] at H
            have c12_0 := decT c12
            replace c12 := Aside0.mk c12
            first | rw [c12_0] | skip
            by_cases c13 : (wrap64 ((l2.length : Int) - 1)) < (l2.length : Int)
            · rw [if_pos c13] at H
              have c13_0 := decT c13
              replace c13 := Aside0.mk c13
              first | rw [c13_0] | skip
              have p203 : 0 ≤ ((wrap64 ((l2.length : Int) - 1)) : Int) := (of_decide_eq_true (by assumption))
              have q203 : (wrap64 ((l2.length : Int) - 1)) < (l2.length : Int) := (of_decide_eq_true (by assumption))
              obtain ⟨ad203, A203_4, c203_4, e203, hx203_0, hx203_1, hx203_2, hx203_3, hx203_4, hx203_5, hl203_4, hi203_4⟩ := at_T144 HR2.out (wrap64 ((l2.length : Int) - 1)) p203 q203
              cases e203
              have HR203_4 := Aside0.mk hi203_4; have HC203_4 := Aside0.mk hl203_4; clear hi203_4 hl203_4
              replace hx203_0 := Aside0.mk hx203_0
              replace hx203_1 := Aside0.mk hx203_1
              replace hx203_2 := Aside0.mk hx203_2
              replace hx203_3 := Aside0.mk hx203_3
              replace hx203_4 := Aside0.mk hx203_4
              replace hx203_5 := Aside0.mk hx203_5
              have r203 := eq_true p203; have s203 := eq_true q203
              replace p203 := Aside0.mk p203; replace q203 := Aside0.mk q203
              by_cases c14 : ((rd_T144 l2 (wrap64 ((l2.length : Int) - 1))).f2) > a1_2
              · rw [if_pos c14] at H
                replace c14 : a1_2 < ((rd_T144 l2 (wrap64 ((l2.length : Int) - 1))).f2) := c14
                have c14_0 := decT c14
                replace c14 := Aside0.mk c14
                first | rw [c14_0] | skip
                replace H := Aside0.mk H
                refine pu 17 (some 27) 262143 ?_; refine pu 18 (some 28) 524287 ?_; refine pu 19 (some 29) 1048575 ?_; refine pu 20 (some 30) 2097151 ?_; refine pu 21 (some 31) 4194303 ?_; refine pu 22 (some 32) 8388607 ?_; refine pu 23 (some 33) 16777215 ?_; refine pu 24 (some 34) 33554431 ?_; refine pu 25 (some 35) 67108863 ?_; refine pu 26 (some 36) 134217727 ?_; refine pu 27 (some 37) 268435455 ?_; refine pu 29 (some 39) 805306367 ?_; refine ld 28 (some 38) 1073741823 hHeld ?_ (hr := by (intro w' h_; have y0_ := xD HBr h_ hx203_0; have y1_ := xD HBr h_ hx203_1; have y2_ := xD HBr h_ hx203_2; have y3_ := xD HBr h_ hx203_3; have y4_ := xD HBr h_ hx203_4; have y5_ := xD HBr h_ hx203_5; go_simp; with_reducible rfl)); refine ld 30 (some 40) 2147483647 hHeld ?_ (hr := by (intro w' h_; have y_ := kD rBK2 h_; go_simp; with_reducible rfl)); refine pu 31 (some 41) 4294967295 ?_; refine pu 32 (some 42) 8589934591 ?_; refine pu 33 (some 43) 17179869183 ?_; refine pu 34 (some 44) 34359738367 ?_; refine sk 35 (some 45) 68719476735 ?_; refine sk 36 (some 46) 137438953471 ?_; refine sk 37 (some 47) 274877906943 ?_; refine sk 38 (some 48) 549755813887 ?_; refine sk 39 (some 49) 1099511627775 ?_; refine sk 40 (some 50) 2199023255551 ?_; refine sk 41 (some 51) 4398046511103 ?_; refine sk 42 (some 52) 8796093022207 ?_; refine pu 43 (some 53) 17592186044415 ?_
                replace H := H.out
                replace H := Aside0.mk H
                refine dn (by kernel_rfl) ?_
                clear hHeld HBr rBK1 rBK2
                have c_BK1 := blk_cell BK1.out; have z_BK1 := blk_frozen BK1.out
                have c_BK2 := blk_cell BK2.out; have z_BK2 := blk_frozen BK2.out
                replace H := H.out
                obtain rfl := Option.some.inj H
                clear H
                go_wp2
                go_ret
                exact ⟨rfl, HB.out⟩
              · rw [if_neg c14] at H
                replace c14 : ¬ (a1_2 < ((rd_T144 l2 (wrap64 ((l2.length : Int) - 1))).f2)) := c14
                have c14_0 := decF c14
                replace c14 := Aside0.mk c14
                first | rw [c14_0] | skip
                replace H := Option.bind_eq_some_iff.mp H
                obtain ⟨t204, hm, H⟩ := H
                try dsimp only at H
                replace hm := Aside0.mk hm
                replace H := Aside0.mk H
                refine pu 17 (some 27) 262143 ?_; refine pu 18 (some 28) 524287 ?_; refine pu 19 (some 29) 1048575 ?_; refine pu 20 (some 30) 2097151 ?_; refine pu 21 (some 31) 4194303 ?_; refine pu 22 (some 32) 8388607 ?_; refine pu 23 (some 33) 16777215 ?_; refine pu 24 (some 34) 33554431 ?_; refine pu 25 (some 35) 67108863 ?_; refine pu 26 (some 36) 134217727 ?_; refine pu 27 (some 37) 268435455 ?_; refine pu 29 (some 39) 805306367 ?_; refine ld 28 (some 38) 1073741823 hHeld ?_ (hr := by (intro w' h_; have y0_ := xD HBr h_ hx203_0; have y1_ := xD HBr h_ hx203_1; have y2_ := xD HBr h_ hx203_2; have y3_ := xD HBr h_ hx203_3; have y4_ := xD HBr h_ hx203_4; have y5_ := xD HBr h_ hx203_5; go_simp; with_reducible rfl)); refine ld 30 (some 40) 2147483647 hHeld ?_ (hr := by (intro w' h_; have y_ := kD rBK2 h_; go_simp; with_reducible rfl)); refine pu 31 (some 41) 4294967295 ?_; refine pu 32 (some 42) 8589934591 ?_; refine pu 33 (some 43) 17179869183 ?_; refine pu 34 (some 44) 34359738367 ?_; refine pu 35 (some 45) 68719476735 ?_; refine pu 37 (some 47) 206158430207 ?_; refine pu 39 (some 49) 755914244095 ?_; refine ld 36 (some 46) 824633720831 hHeld ?_ (hr := by (intro w' h_; have y_ := kD rBK2 h_; go_simp; with_reducible rfl)); refine ld 38 (some 48) 1099511627775 hHeld ?_ (hr := by (intro w' h_; have y_ := kD rBK2 h_; go_simp; with_reducible rfl)); refine ld 40 (some 50) 2199023255551 hHeld ?_ (hr := by (intro w' h_; have y_ := kD rBK1 h_; go_simp; with_reducible rfl))
                replace H := H.out
                replace H := Aside0.mk H
                refine on 41 (some 51) 4398046511103 (fun K hK => ?_)
                have hcall := impl_EndOf.calls _ _ _ W9  hm.out
                refine goes_ Try.func127 (by kernel_rfl) rfl #[.int .i64 a1_2, .int .i64 a0_2] (by rfl) rfl rfl (by (try simp only [List.map_toArray, List.map_cons, List.map_nil]); first | done | rfl) ?_
                refine hcall.mono ?_
                rintro e W16 ⟨rfl, hb⟩
                refine ⟨_, rfl, ?_⟩
                clear hcall hm
                replace hHeld := below_step hHeld hb
                replace BK1 := bK BK1 hb
                replace BK2 := bK BK2 hb
                replace HB := bH HB hb; clear hb
                refine hK.out _ _ hHeld (fun hHeld => ?_)
                clear hK K
                refine nr 51 ?_
                replace H := H.out
                replace H := Aside0.mk H
                refine pu 42 (some 52) 8796093022207 ?_; refine pu 43 (some 53) 17592186044415 ?_
                replace H := H.out
                replace H := Aside0.mk H
                refine dn (by kernel_rfl) ?_
                clear hHeld HBr rBK1 rBK2
                have c_BK1 := blk_cell BK1.out; have z_BK1 := blk_frozen BK1.out
                have c_BK2 := blk_cell BK2.out; have z_BK2 := blk_frozen BK2.out
                replace H := H.out
                by_cases c17 : a1_3 = t204
                · rw [if_pos c17] at H
                  have c17_0 := decT c17; have c17_1 := eqT c17; have c17_2 := neT c17
                  clear c17
                  first | rw [c17_1] | rw [c17_2] | skip
                  replace H := Option.bind_eq_some_iff.mp H
                  obtain ⟨t205, hm, H⟩ := H
                  try dsimp only at H
                  replace hm := Aside0.mk hm
                  replace H := Aside0.mk H
                  have eg : ∀ args w, (callFunc 159 args).run Try.prog w = .ok (.enter 159 args) w := Go.Proofs.YtplfbjbbnjlnkaaH.enters Try.func159 (by kernel_rfl) rfl
                  have hcall := ctf158.calls 159 #[.pointer (some ⟨gb1, 0, none⟩)] eg _ _ _ _ _ W16 (fun W_ x_  b_ hW_  hp_ => cl159.calls k _ _ _ _ _ _ _ _ gb1 b_ W16 W_ BK1.out (Kd.C_below HR0_0.out HB.out) HC0_0.out (Kd.C_below HR0_1.out HB.out) HC0_1.out  hW_ hp_) (Kd.C_below HR1_4.out HB.out) HC1_4.out hm.out
                  clear hm
                  go_wp2_with fail
                  refine hcall.mono ?_
                  rintro e W18 ⟨rfl, hb⟩
                  clear hcall eg
                  replace BK1 := bK BK1 hb; replace c_BK1 := blk_cell BK1.out; replace z_BK1 := blk_frozen BK1.out
                  replace BK2 := bK BK2 hb; replace c_BK2 := blk_cell BK2.out; replace z_BK2 := blk_frozen BK2.out
                  replace HB := bH HB hb; clear hb
                  replace H := H.out
                  by_cases c19 : t205 ≥ 0
                  · rw [if_pos c19] at H
                    replace c19 : 0 ≤ t205 := c19
                    have c19_0 := decT c19
                    replace c19 := Aside0.mk c19
                    first | rw [c19_0] | skip
                    obtain rfl := Option.some.inj H
                    clear H
                    go_wp2
                    go_ret
                    exact ⟨rfl, HB.out⟩
                  · rw [if_neg c19] at H
                    replace c19 : ¬ (0 ≤ t205) := c19
                    have c19_0 := decF c19
                    replace c19 := Aside0.mk c19
                    first | rw [c19_0] | skip
                    by_cases c20 : a1_5 = true
                    · rw [if_pos c20] at H
                      try rw [c20]
                      obtain rfl := Option.some.inj H
                      clear H
                      go_wp2
                      go_ret
                      exact ⟨rfl, HB.out⟩
                    · rw [if_neg c20] at H
                      replace c20 := (Bool.not_eq_true _).mp c20
                      try rw [c20]
                      replace H := Option.bind_eq_some_iff.mp H
                      obtain ⟨t206, hm, H⟩ := H
                      try dsimp only at H
                      replace H := Aside0.mk H
                      have hcall := impl_DebtsOf.calls k _ _ _ _ _ W18 (Kd.C_below HR2.out HB.out) HC2.out hm
                      clear hm
                      go_wp2_with fail
                      refine hcall.mono ?_
                      rintro e W21 ⟨v207, rfl, ho0, hb⟩
                      clear hcall
                      obtain ⟨A21_0, _, c21_0, rfl, rfl, hr_⟩ := R_made ho0 HB.out.size; clear ho0; have HO21_0 := Aside0.mk hr_; clear hr_
                      replace BK1 := bK BK1 hb; replace c_BK1 := blk_cell BK1.out; replace z_BK1 := blk_frozen BK1.out
                      replace BK2 := bK BK2 hb; replace c_BK2 := blk_cell BK2.out; replace z_BK2 := blk_frozen BK2.out
                      replace HB := bH HB hb; clear hb
                      replace H := H.out
                      obtain rfl := Option.some.inj H
                      clear H
                      go_wp2
                      go_ret
                      exact ⟨rfl, HB.out⟩
                · rw [if_neg c17] at H
                  have c17_0 := decF c17; have c17_1 := eqF c17; have c17_2 := neF c17
                  clear c17
                  first | rw [c17_1] | rw [c17_2] | skip
                  obtain rfl := Option.some.inj H
                  clear H
                  go_wp2
                  go_ret
                  exact ⟨rfl, HB.out⟩
            · rw [if_neg c13] at H
              cases H
          · rw [if_neg c12] at H
            cases H
        · rw [if_neg c11] at H
          have c11_x0 : decide (0 < l2.length) = false := decide_eq_false (by omega)
          replace c11 : ¬ (0 < (l2.length : Int)) := c11
          have c11_0 := decF c11
          replace c11 := Aside0.mk c11
          first | rw [c11_0] | skip
          replace H := Option.bind_eq_some_iff.mp H
          obtain ⟨t209, hm, H⟩ := H
          try dsimp only at H
          replace hm := Aside0.mk hm
          replace H := Aside0.mk H
          refine pu 17 (some 27) 262143 ?_; refine pu 18 (some 28) 524287 ?_; refine pu 19 (some 29) 1048575 ?_; refine pu 20 (some 30) 2097151 ?_; refine pu 21 (some 31) 4194303 ?_; refine pu 22 (some 32) 8388607 ?_; refine sk 23 (some 33) 16777215 ?_; refine sk 24 (some 34) 33554431 ?_; refine sk 25 (some 35) 67108863 ?_; refine sk 26 (some 36) 134217727 ?_; refine sk 27 (some 37) 268435455 ?_; refine sk 28 (some 38) 536870911 ?_; refine sk 29 (some 39) 1073741823 ?_; refine sk 30 (some 40) 2147483647 ?_; refine sk 31 (some 41) 4294967295 ?_; refine pu 32 (some 42) 8589934591 ?_; refine pu 33 (some 43) 17179869183 ?_; refine pu 34 (some 44) 34359738367 ?_; refine pu 35 (some 45) 68719476735 ?_; refine pu 37 (some 47) 206158430207 ?_; refine pu 39 (some 49) 755914244095 ?_; refine ld 36 (some 46) 824633720831 hHeld ?_ (hr := by (intro w' h_; have y_ := kD rBK2 h_; go_simp; with_reducible rfl)); refine ld 38 (some 48) 1099511627775 hHeld ?_ (hr := by (intro w' h_; have y_ := kD rBK2 h_; go_simp; with_reducible rfl)); refine ld 40 (some 50) 2199023255551 hHeld ?_ (hr := by (intro w' h_; have y_ := kD rBK1 h_; go_simp; with_reducible rfl))
          replace H := H.out
          replace H := Aside0.mk H
          refine on 41 (some 51) 4398046511103 (fun K hK => ?_)
          have hcall := impl_EndOf.calls _ _ _ W9  hm.out
          refine goes_ Try.func127 (by kernel_rfl) rfl #[.int .i64 a1_2, .int .i64 a0_2] (by rfl) rfl rfl (by (try simp only [List.map_toArray, List.map_cons, List.map_nil]); first | done | rfl) ?_
          refine hcall.mono ?_
          rintro e W23 ⟨rfl, hb⟩
          refine ⟨_, rfl, ?_⟩
          clear hcall hm
          replace hHeld := below_step hHeld hb
          replace BK1 := bK BK1 hb
          replace BK2 := bK BK2 hb
          replace HB := bH HB hb; clear hb
          refine hK.out _ _ hHeld (fun hHeld => ?_)
          clear hK K
          refine nr 51 ?_
          replace H := H.out
          replace H := Aside0.mk H
          refine pu 42 (some 52) 8796093022207 ?_; refine pu 43 (some 53) 17592186044415 ?_
          replace H := H.out
          replace H := Aside0.mk H
          refine dn (by kernel_rfl) ?_
          clear hHeld HBr rBK1 rBK2
          have c_BK1 := blk_cell BK1.out; have z_BK1 := blk_frozen BK1.out
          have c_BK2 := blk_cell BK2.out; have z_BK2 := blk_frozen BK2.out
          replace H := H.out
          by_cases c24 : a1_3 = t209
          · rw [if_pos c24] at H
            have c24_0 := decT c24; have c24_1 := eqT c24; have c24_2 := neT c24
            clear c24
            first | rw [c24_1] | rw [c24_2] | skip
            replace H := Option.bind_eq_some_iff.mp H
            obtain ⟨t210, hm, H⟩ := H
            try dsimp only at H
            replace hm := Aside0.mk hm
            replace H := Aside0.mk H
            have eg : ∀ args w, (callFunc 159 args).run Try.prog w = .ok (.enter 159 args) w := Go.Proofs.YtplfbjbbnjlnkaaH.enters Try.func159 (by kernel_rfl) rfl
            have hcall := ctf158.calls 159 #[.pointer (some ⟨gb1, 0, none⟩)] eg _ _ _ _ _ W23 (fun W_ x_  b_ hW_  hp_ => cl159.calls k _ _ _ _ _ _ _ _ gb1 b_ W23 W_ BK1.out (Kd.C_below HR0_0.out HB.out) HC0_0.out (Kd.C_below HR0_1.out HB.out) HC0_1.out  hW_ hp_) (Kd.C_below HR1_4.out HB.out) HC1_4.out hm.out
            clear hm
            go_wp2_with fail
            refine hcall.mono ?_
            rintro e W25 ⟨rfl, hb⟩
            clear hcall eg
            replace BK1 := bK BK1 hb; replace c_BK1 := blk_cell BK1.out; replace z_BK1 := blk_frozen BK1.out
            replace BK2 := bK BK2 hb; replace c_BK2 := blk_cell BK2.out; replace z_BK2 := blk_frozen BK2.out
            replace HB := bH HB hb; clear hb
            replace H := H.out
            by_cases c26 : t210 ≥ 0
            · rw [if_pos c26] at H
              replace c26 : 0 ≤ t210 := c26
              have c26_0 := decT c26
              replace c26 := Aside0.mk c26
              first | rw [c26_0] | skip
              obtain rfl := Option.some.inj H
              clear H
              go_wp2
              go_ret
              exact ⟨rfl, HB.out⟩
            · rw [if_neg c26] at H
              replace c26 : ¬ (0 ≤ t210) := c26
              have c26_0 := decF c26
              replace c26 := Aside0.mk c26
              first | rw [c26_0] | skip
              by_cases c27 : a1_5 = true
              · rw [if_pos c27] at H
                try rw [c27]
                obtain rfl := Option.some.inj H
                clear H
                go_wp2
                go_ret
                exact ⟨rfl, HB.out⟩
              · rw [if_neg c27] at H
                replace c27 := (Bool.not_eq_true _).mp c27
                try rw [c27]
                replace H := Option.bind_eq_some_iff.mp H
                obtain ⟨t211, hm, H⟩ := H
                try dsimp only at H
                replace H := Aside0.mk H
                have hcall := impl_DebtsOf.calls k _ _ _ _ _ W25 (Kd.C_below HR2.out HB.out) HC2.out hm
                clear hm
                go_wp2_with fail
                refine hcall.mono ?_
                rintro e W28 ⟨v212, rfl, ho0, hb⟩
                clear hcall
                obtain ⟨A28_0, _, c28_0, rfl, rfl, hr_⟩ := R_made ho0 HB.out.size; clear ho0; have HO28_0 := Aside0.mk hr_; clear hr_
                replace BK1 := bK BK1 hb; replace c_BK1 := blk_cell BK1.out; replace z_BK1 := blk_frozen BK1.out
                replace BK2 := bK BK2 hb; replace c_BK2 := blk_cell BK2.out; replace z_BK2 := blk_frozen BK2.out
                replace HB := bH HB hb; clear hb
                replace H := H.out
                obtain rfl := Option.some.inj H
                clear H
                go_wp2
                go_ret
                exact ⟨rfl, HB.out⟩
          · rw [if_neg c24] at H
            have c24_0 := decF c24; have c24_1 := eqF c24; have c24_2 := neF c24
            clear c24
            first | rw [c24_1] | rw [c24_2] | skip
            obtain rfl := Option.some.inj H
            clear H
            go_wp2
            go_ret
            exact ⟨rfl, HB.out⟩
      · rw [if_neg c10] at H
        replace c10 := (Bool.not_eq_true _).mp c10
        subst c10
        replace H := Aside0.mk H
        refine pu 17 (some 27) 262143 ?_; refine pu 18 (some 28) 524287 ?_; refine pu 19 (some 29) 1048575 ?_; refine sk 20 (some 30) 2097151 ?_; refine sk 21 (some 31) 4194303 ?_; refine sk 22 (some 32) 8388607 ?_; refine sk 23 (some 33) 16777215 ?_; refine sk 24 (some 34) 33554431 ?_; refine sk 25 (some 35) 67108863 ?_; refine sk 26 (some 36) 134217727 ?_; refine sk 27 (some 37) 268435455 ?_; refine sk 28 (some 38) 536870911 ?_; refine sk 29 (some 39) 1073741823 ?_; refine sk 30 (some 40) 2147483647 ?_; refine sk 31 (some 41) 4294967295 ?_; refine sk 32 (some 42) 8589934591 ?_; refine pu 33 (some 43) 17179869183 ?_; refine pu 34 (some 44) 34359738367 ?_; refine sk 35 (some 45) 68719476735 ?_; refine sk 36 (some 46) 137438953471 ?_; refine sk 37 (some 47) 274877906943 ?_; refine sk 38 (some 48) 549755813887 ?_; refine sk 39 (some 49) 1099511627775 ?_; refine sk 40 (some 50) 2199023255551 ?_; refine sk 41 (some 51) 4398046511103 ?_; refine sk 42 (some 52) 8796093022207 ?_; refine pu 43 (some 53) 17592186044415 ?_
        replace H := H.out
        replace H := Aside0.mk H
        refine dn (by kernel_rfl) ?_
        clear hHeld HBr rBK1 rBK2
        have c_BK1 := blk_cell BK1.out; have z_BK1 := blk_frozen BK1.out
        have c_BK2 := blk_cell BK2.out; have z_BK2 := blk_frozen BK2.out
        replace H := H.out
        obtain rfl := Option.some.inj H
        clear H
        go_wp2
        go_ret
        exact ⟨rfl, HB.out⟩
    · rw [if_neg c7] at H
      replace c7 := (Bool.not_eq_true _).mp c7
      subst c7
      replace H := Aside0.mk H
      refine pu 11 (some 21) 4095 ?_; refine pu 12 (some 22) 8191 ?_; refine pu 13 (some 23) 16383 ?_; refine sk 14 (some 24) 32767 ?_; refine sk 15 (some 25) 65535 ?_; refine sk 16 (some 26) 131071 ?_; refine sk 17 (some 27) 262143 ?_; refine pu 18 (some 28) 524287 ?_; refine pu 19 (some 29) 1048575 ?_; refine sk 20 (some 30) 2097151 ?_; refine sk 21 (some 31) 4194303 ?_; refine sk 22 (some 32) 8388607 ?_; refine sk 23 (some 33) 16777215 ?_; refine sk 24 (some 34) 33554431 ?_; refine sk 25 (some 35) 67108863 ?_; refine sk 26 (some 36) 134217727 ?_; refine sk 27 (some 37) 268435455 ?_; refine sk 28 (some 38) 536870911 ?_; refine sk 29 (some 39) 1073741823 ?_; refine sk 30 (some 40) 2147483647 ?_; refine sk 31 (some 41) 4294967295 ?_; refine sk 32 (some 42) 8589934591 ?_; refine pu 33 (some 43) 17179869183 ?_; refine pu 34 (some 44) 34359738367 ?_; refine sk 35 (some 45) 68719476735 ?_; refine sk 36 (some 46) 137438953471 ?_; refine sk 37 (some 47) 274877906943 ?_; refine sk 38 (some 48) 549755813887 ?_; refine sk 39 (some 49) 1099511627775 ?_; refine sk 40 (some 50) 2199023255551 ?_; refine sk 41 (some 51) 4398046511103 ?_; refine sk 42 (some 52) 8796093022207 ?_; refine pu 43 (some 53) 17592186044415 ?_
      replace H := H.out
      replace H := Aside0.mk H
      refine dn (by kernel_rfl) ?_
      clear hHeld HBr rBK1 rBK2
      have c_BK1 := blk_cell BK1.out; have z_BK1 := blk_frozen BK1.out
      have c_BK2 := blk_cell BK2.out; have z_BK2 := blk_frozen BK2.out
      replace H := H.out
      obtain rfl := Option.some.inj H
      clear H
      go_wp2
      go_ret
      exact ⟨rfl, HB.out⟩
  · rw [if_neg c4] at H
    have c4_0 := decF c4; have c4_1 := eqF c4; have c4_2 := neF c4
    clear c4
    first | rw [c4_1] | rw [c4_2] | skip
    replace H := Aside0.mk H
    refine pu 4 (some 14) 31 ?_; refine pu 5 (some 15) 63 ?_; refine sk 6 (some 16) 127 ?_; refine sk 7 (some 17) 255 ?_; refine sk 8 (some 18) 511 ?_; refine sk 9 (some 19) 1023 ?_; refine sk 10 (some 20) 2047 ?_; refine sk 11 (some 21) 4095 ?_; refine pu 12 (some 22) 8191 ?_; refine pu 13 (some 23) 16383 ?_; refine sk 14 (some 24) 32767 ?_; refine sk 15 (some 25) 65535 ?_; refine sk 16 (some 26) 131071 ?_; refine sk 17 (some 27) 262143 ?_; refine pu 18 (some 28) 524287 ?_; refine pu 19 (some 29) 1048575 ?_; refine sk 20 (some 30) 2097151 ?_; refine sk 21 (some 31) 4194303 ?_; refine sk 22 (some 32) 8388607 ?_; refine sk 23 (some 33) 16777215 ?_; refine sk 24 (some 34) 33554431 ?_; refine sk 25 (some 35) 67108863 ?_; refine sk 26 (some 36) 134217727 ?_; refine sk 27 (some 37) 268435455 ?_; refine sk 28 (some 38) 536870911 ?_; refine sk 29 (some 39) 1073741823 ?_; refine sk 30 (some 40) 2147483647 ?_; refine sk 31 (some 41) 4294967295 ?_; refine sk 32 (some 42) 8589934591 ?_; refine pu 33 (some 43) 17179869183 ?_; refine pu 34 (some 44) 34359738367 ?_; refine sk 35 (some 45) 68719476735 ?_; refine sk 36 (some 46) 137438953471 ?_; refine sk 37 (some 47) 274877906943 ?_; refine sk 38 (some 48) 549755813887 ?_; refine sk 39 (some 49) 1099511627775 ?_; refine sk 40 (some 50) 2199023255551 ?_; refine sk 41 (some 51) 4398046511103 ?_; refine sk 42 (some 52) 8796093022207 ?_; refine pu 43 (some 53) 17592186044415 ?_
    replace H := H.out
    replace H := Aside0.mk H
    refine dn (by kernel_rfl) ?_
    clear hHeld HBr rBK1 rBK2
    have c_BK1 := blk_cell BK1.out; have z_BK1 := blk_frozen BK1.out
    have c_BK2 := blk_cell BK2.out; have z_BK2 := blk_frozen BK2.out
    replace H := H.out
    obtain rfl := Option.some.inj H
    clear H
    go_wp2
    go_ret
    exact ⟨rfl, HB.out⟩

/-! ### impl_isAscending: function 155 -/
def impl_isAscending.l0 : Nat → List Int → Int → Int → List Int → Int → Int → Option (Bool)
  | 0, _, _, _, _, _, _ => none
  | k + 1, x0, x1, x2, x9, x10, x11 => if x11 < x10 then (if 0 ≤ x11 then (if x11 < (x9.length : Int) then ((impl_InRange.f (rd x9 x11) x1 x2).bind fun t215 => (if t215 = true then (if x11 > 0 then (if 0 ≤ (wrap64 (x11 - 1)) then (if (wrap64 (x11 - 1)) < (x0.length : Int) then (if (rd x0 (wrap64 (x11 - 1))) ≥ (rd x9 x11) then (some false) else (impl_isAscending.l0 k x0 x1 x2 x9 x10 (wrap64 (x11 + 1)))) else (none)) else (none)) else (impl_isAscending.l0 k x0 x1 x2 x9 x10 (wrap64 (x11 + 1)))) else (some false))) else (none)) else (none)) else (some true)
def impl_isAscending.f (k : Nat) (l0 : List Int) (a1 : Int) (a2 : Int) : Option (Bool) := impl_isAscending.l0 k l0 a1 a2 l0 (l0.length : Int) 0
open Go.Proofs.YtplfbjbbnjlnkaaM in
set_option maxHeartbeats 8000000 in
set_option maxRecDepth 100000 in
theorem impl_isAscending.calls (k : Nat) (A0 : Option Addr) (c0 : Nat) (l0 : List Int) (a1 : Int) (a2 : Int) (r : Bool) (w : World) (hr0 : Kd.C (Kd.int .i64) w A0 l0.length l0) (hc0 : l0.length ≤ c0) (h : impl_isAscending.f k l0 a1 a2 = some r) :
    Calls Try.prog 155 #[.slice A0 l0.length c0, .int .i64 a1, .int .i64 a2] w fun e w' => e = .returned (.bool r) ∧ Below w.heap.size w w' := by
  have HR0 := Aside0.mk hr0
  have HC0 := Aside0.mk hc0
  clear hr0 hc0
  have HB := Aside0.mk (Below.refl w.heap.size w)
  have H := h
  clear h
  unfold impl_isAscending.f at H
  go_enter Try.func155, Try.ntmps155
  replace H := Aside0.mk H
  go_wp2
  go_loopg [11] k (fun kq v11 w' => ∃ (x11_1 : Int), v11 = .int .i64 x11_1 ∧ Aside0 (impl_isAscending.l0 kq l0 a1 a2 l0 (l0.length : Int) x11_1 = some r) ∧ Aside0 (kq ≤ k) ∧ Aside0 (Below w.heap.size w w'))
  case atStart => exact ⟨(0), (by first | rfl | (simp; done) | (simp [*]; done)), H, ⟨Nat.le_refl _⟩, HB⟩
  case round =>
    clear H HB 
    obtain ⟨x11_1, rfl, HA, Hk1, HB⟩ := hrel
    cases gk with
    | zero => exact absurd HA.out (by simp [impl_isAscending.l0])
    | succ k1 =>
      have H := HA.out
      clear HA
      simp only [impl_isAscending.l0] at H
      by_cases c2 : x11_1 < (l0.length : Int)
      · rw [if_pos c2] at H
        have c2_0 := decT c2
        replace c2 := Aside0.mk c2
        first | rw [c2_0] | skip
        by_cases c3 : 0 ≤ x11_1
        · rw [if_pos c3] at H
          have c3_0 := decT c3
          replace c3 := Aside0.mk c3
          first | rw [c3_0] | skip
          by_cases c4 : x11_1 < (l0.length : Int)
          · rw [if_pos c4] at H
            have c4_0 := decT c4
            replace c4 := Aside0.mk c4
            first | rw [c4_0] | skip
            have p214 : 0 ≤ (x11_1 : Int) := (of_decide_eq_true (by assumption))
            have q214 : x11_1 < (l0.length : Int) := (of_decide_eq_true (by assumption))
            obtain ⟨ad214, e214, hx214_0⟩ := Kd.at_int HR0.out x11_1 p214 q214
            cases e214
            replace hx214_0 := Aside0.mk hx214_0
            have y214_0 := xC HB hx214_0
            have r214 := eq_true p214; have s214 := eq_true q214
            replace p214 := Aside0.mk p214; replace q214 := Aside0.mk q214
            replace H := Option.bind_eq_some_iff.mp H
            obtain ⟨t215, hm, H⟩ := H
            try dsimp only at H
            replace H := Aside0.mk H
            have hcall := impl_InRange.calls _ _ _ _ wr  hm
            clear hm
            go_wp2_with fail
            refine hcall.mono ?_
            rintro e W5 ⟨rfl, hb⟩
            clear hcall
            try clear y214_0
            replace HB := bH HB hb; clear hb
            replace H := H.out
            by_cases c6 : t215 = true
            · rw [if_pos c6] at H
              subst c6
              by_cases c7 : x11_1 > 0
              · rw [if_pos c7] at H
                replace c7 : 0 < x11_1 := c7
                have c7_0 := decT c7
                replace c7 := Aside0.mk c7
                first | rw [c7_0] | skip
                by_cases c8 : 0 ≤ (wrap64 (x11_1 - 1))
                · rw [if_pos c8] at H
                  have c8_0 := decT c8
                  replace c8 := Aside0.mk c8
                  first | rw [c8_0] | skip
                  by_cases c9 : (wrap64 (x11_1 - 1)) < (l0.length : Int)
                  · rw [if_pos c9] at H
                    have c9_0 := decT c9
                    replace c9 := Aside0.mk c9
                    first | rw [c9_0] | skip
                    have p216 : 0 ≤ ((wrap64 (x11_1 - 1)) : Int) := (of_decide_eq_true (by assumption))
                    have q216 : (wrap64 (x11_1 - 1)) < (l0.length : Int) := (of_decide_eq_true (by assumption))
                    obtain ⟨ad216, e216, hx216_0⟩ := Kd.at_int HR0.out (wrap64 (x11_1 - 1)) p216 q216
                    obtain rfl : ad214 = ad216 := by injection e216
                    replace hx216_0 := Aside0.mk hx216_0
                    have y216_0 := xC HB hx216_0
                    have r216 := eq_true p216; have s216 := eq_true q216
                    replace p216 := Aside0.mk p216; replace q216 := Aside0.mk q216
                    by_cases c10 : (rd l0 (wrap64 (x11_1 - 1))) ≥ (rd l0 x11_1)
                    · rw [if_pos c10] at H
                      replace c10 : (rd l0 x11_1) ≤ (rd l0 (wrap64 (x11_1 - 1))) := c10
                      have c10_0 := decT c10
                      replace c10 := Aside0.mk c10
                      first | rw [c10_0] | skip
                      obtain rfl := Option.some.inj H
                      clear H
                      go_wp2
                      go_ret
                      exact ⟨rfl, HB.out⟩
                    · rw [if_neg c10] at H
                      replace c10 : ¬ ((rd l0 x11_1) ≤ (rd l0 (wrap64 (x11_1 - 1)))) := c10
                      have c10_0 := decF c10
                      replace c10 := Aside0.mk c10
                      first | rw [c10_0] | skip
                      replace H := Aside0.mk H
                      go_wp2
                      go_roundg k1
                      case measure => have := Hk1.out; omega
                      case rel => exact ⟨(wrap64 (x11_1 + 1)), (by first | rfl | (simp; done) | (simp [*]; done)), H, ⟨by have := Hk1.out; omega⟩, HB⟩
                  · rw [if_neg c9] at H
                    cases H
                · rw [if_neg c8] at H
                  cases H
              · rw [if_neg c7] at H
                replace c7 : ¬ (0 < x11_1) := c7
                have c7_0 := decF c7
                replace c7 := Aside0.mk c7
                first | rw [c7_0] | skip
                replace H := Aside0.mk H
                go_wp2
                go_roundg k1
                case measure => have := Hk1.out; omega
                case rel => exact ⟨(wrap64 (x11_1 + 1)), (by first | rfl | (simp; done) | (simp [*]; done)), H, ⟨by have := Hk1.out; omega⟩, HB⟩
            · rw [if_neg c6] at H
              replace c6 := (Bool.not_eq_true _).mp c6
              subst c6
              obtain rfl := Option.some.inj H
              clear H
              go_wp2
              go_ret
              exact ⟨rfl, HB.out⟩
          · rw [if_neg c4] at H
            cases H
        · rw [if_neg c3] at H
          cases H
      · rw [if_neg c2] at H
        have c2_0 := decF c2
        replace c2 := Aside0.mk c2
        first | rw [c2_0] | skip
        obtain rfl := Option.some.inj H
        clear H
        go_wp2
        go_ret
        exact ⟨rfl, HB.out⟩

/-! ### impl_IsPlan: function 111 -/
def impl_IsPlan.f (k : Nat) (l0_0 : List Int) (l0_1 : List Int) (a0_2 : Int) : Option (Bool) := (impl_isAscending.f k l0_0 10 19).bind fun t218 => (if t218 = true then ((impl_isAscending.f k l0_1 40 49).bind fun t219 => (if t219 = true then ((impl_InRange.f a0_2 0 10).bind fun t220 => (some t220)) else (some false))) else (some false))
open Go.Proofs.YtplfbjbbnjlnkaaM in
set_option maxHeartbeats 8000000 in
set_option maxRecDepth 100000 in
theorem impl_IsPlan.calls (k : Nat) (A0_0 : Option Addr) (c0_0 : Nat) (l0_0 : List Int) (A0_1 : Option Addr) (c0_1 : Nat) (l0_1 : List Int) (a0_2 : Int) (r : Bool) (w : World) (hr0_0 : Kd.C (Kd.int .i64) w A0_0 l0_0.length l0_0) (hc0_0 : l0_0.length ≤ c0_0) (hr0_1 : Kd.C (Kd.int .i64) w A0_1 l0_1.length l0_1) (hc0_1 : l0_1.length ≤ c0_1) (h : impl_IsPlan.f k l0_0 l0_1 a0_2 = some r) :
    Calls Try.prog 111 #[.agg #[.slice A0_0 l0_0.length c0_0, .slice A0_1 l0_1.length c0_1, .int .i64 a0_2]] w fun e w' => e = .returned (.bool r) ∧ Below w.heap.size w w' := by
  have HR0_0 := Aside0.mk hr0_0
  have HC0_0 := Aside0.mk hc0_0
  clear hr0_0 hc0_0
  have HR0_1 := Aside0.mk hr0_1
  have HC0_1 := Aside0.mk hc0_1
  clear hr0_1 hc0_1
  have HB := Aside0.mk (Below.refl w.heap.size w)
  have H := h
  clear h
  unfold impl_IsPlan.f at H
  have hu62 := Try.underlying62
  go_enter Try.func111, Try.ntmps111
  replace H := Aside0.mk H
  go_upto_region 1 with (first | ((with_reducible refine gate_dst (N := 1) rfl ?_); refine box_event ?hg (N := 1) ?hd (cs := #[.slice A0_0 l0_0.length c0_0, .slice A0_1 l0_1.length c0_1, .int .i64 a0_2]) (t := 62) ?hr ?_; (case hd => rfl); (case hg => rfl); (case hr => first | (go_simp; done) | (go_simp; rfl)); intro gb1 hg W1 hbox hb; replace HB := bH HB hb; clear hb; have BK1 := Aside0.mk hbox; have c_BK1 := blk_cell hbox; have z_BK1 := blk_frozen hbox; clear hg hbox))
  replace H := H.out
  replace H := Option.bind_eq_some_iff.mp H
  obtain ⟨t218, hm, H⟩ := H
  try dsimp only at H
  replace H := Aside0.mk H
  have hcall := impl_isAscending.calls k _ _ _ _ _ _ W1 (Kd.C_below HR0_0.out HB.out) HC0_0.out hm
  clear hm
  go_wp2_with fail
  refine hcall.mono ?_
  rintro e W2 ⟨rfl, hb⟩
  clear hcall
  replace BK1 := bK BK1 hb; replace c_BK1 := blk_cell BK1.out; replace z_BK1 := blk_frozen BK1.out
  replace HB := bH HB hb; clear hb
  replace H := H.out
  by_cases c3 : t218 = true
  · rw [if_pos c3] at H
    subst c3
    replace H := Option.bind_eq_some_iff.mp H
    obtain ⟨t219, hm, H⟩ := H
    try dsimp only at H
    replace H := Aside0.mk H
    have hcall := impl_isAscending.calls k _ _ _ _ _ _ W2 (Kd.C_below HR0_1.out HB.out) HC0_1.out hm
    clear hm
    go_wp2_with fail
    refine hcall.mono ?_
    rintro e W4 ⟨rfl, hb⟩
    clear hcall
    replace BK1 := bK BK1 hb; replace c_BK1 := blk_cell BK1.out; replace z_BK1 := blk_frozen BK1.out
    replace HB := bH HB hb; clear hb
    replace H := H.out
    by_cases c5 : t219 = true
    · rw [if_pos c5] at H
      subst c5
      replace H := Option.bind_eq_some_iff.mp H
      obtain ⟨t220, hm, H⟩ := H
      try dsimp only at H
      replace H := Aside0.mk H
      have hcall := impl_InRange.calls _ _ _ _ W4  hm
      clear hm
      go_wp2_with fail
      refine hcall.mono ?_
      rintro e W6 ⟨rfl, hb⟩
      clear hcall
      replace BK1 := bK BK1 hb; replace c_BK1 := blk_cell BK1.out; replace z_BK1 := blk_frozen BK1.out
      replace HB := bH HB hb; clear hb
      replace H := H.out
      obtain rfl := Option.some.inj H
      clear H
      go_wp2
      go_ret
      exact ⟨rfl, HB.out⟩
    · rw [if_neg c5] at H
      replace c5 := (Bool.not_eq_true _).mp c5
      subst c5
      obtain rfl := Option.some.inj H
      clear H
      go_wp2
      go_ret
      exact ⟨rfl, HB.out⟩
  · rw [if_neg c3] at H
    replace c3 := (Bool.not_eq_true _).mp c3
    subst c3
    obtain rfl := Option.some.inj H
    clear H
    go_wp2
    go_ret
    exact ⟨rfl, HB.out⟩

end Go.Proofs.Ytplfbjbbnjlnkaa.QFnExactAreEmergencies
