/- The machine side of FnExactTakeBack: what each function that it reaches computes, and that the machine's call gives just that. -/
import Derived.Test.YtplfbjbbnjlnkaaQFnExactTakeBackx0
import Derived.Test.YtplfbjbbnjlnkaaQFnExactTakeBackx1
import Derived.Test.YtplfbjbbnjlnkaaQFnExactTakeBackx3
import Derived.Test.YtplfbjbbnjlnkaaQFnExactTakeBackx4
import Derived.Test.YtplfbjbbnjlnkaaQFnExactTakeBackx5
import Derived.Test.YtplfbjbbnjlnkaaQFnExactTakeBackx6
namespace Go.Proofs.Ytplfbjbbnjlnkaa.QFnExactTakeBack
open Go.RowKit Go.Proofs.YtplfbjbbnjlnkaaW.PrintWords Go.Proofs.YtplfbjbbnjlnkaaW.PrintLast Go.Proofs.YtplfbjbbnjlnkaaW.PrintMore
attribute [local go_sem] max2_int min2_int max_two min_two max_three min_three max_four min_four   -- for this text's walks alone
set_option linter.unusedVariables false
set_option linter.unusedSimpArgs false

/-! ### laws_FnExactTakeBack: function 4 -/
def laws_FnExactTakeBack.f (k : Nat) (l0 : List (S48)) (a1 : Int) : Option (Bool) := (laws_szGrantS.f k l0 1048576).bind fun t220 => (if t220 < 0 then (some true) else ((laws_toGrantS.f k l0).bind fun t221 => ((spec_TakeBack.f k t221 a1).bind fun bt224 => ((laws_toGrantS.f k l0).bind fun t228 => ((impl_TakeBack.f k t228 a1).bind fun bt231 => ((laws_eqGrantS.f k bt231.1 bt224.1).bind fun t235 => (if t235 = true then (if (bt231.2 != bt224.2) = true then (some false) else ((laws_toGrantS.f k l0).bind fun t236 => ((laws_eqGrantS.f k t228 t236).bind fun t239 => (if t239 = true then ((laws_markGrantS.f k t228 1).bind fun bt240 => (if bt240.1 < 0 then (some false) else ((laws_eqGrantS.f k bt231.1 bt224.1).bind fun t242 => (if t242 = true then ((laws_markGrantS.f k bt231.1 1).bind fun bt243 => ((laws_heldGrantS.f k bt243.2 1).bind fun t245 => (if t245 < 0 then (some false) else (if t245 = bt243.1 then ((laws_toGrantS.f k l0).bind fun t246 => ((impl_TakeBack.f k t246 a1).bind fun bt249 => ((laws_eqGrantS.f k bt249.1 bt224.1).bind fun t253 => (if t253 = true then (if (bt249.2 != bt224.2) = true then (some false) else ((laws_heldGrantS.f k bt243.2 1).bind fun t254 => (if t254 < 0 then (some false) else (if t254 = bt243.1 then (some true) else (some false))))) else (some false))))) else (some false))))) else (some false))))) else (some false))))) else (some false))))))))
theorem laws_FnExactTakeBack.mono : ∀ a0 a1 k, LeO (laws_FnExactTakeBack.f k a0 a1) (laws_FnExactTakeBack.f (k + 1) a0 a1) := by
  intro a0 a1 k
  unfold laws_FnExactTakeBack.f
  repeat' first
      | (with_reducible exact impl_TakeBack.mono _ _ _)
      | (with_reducible exact laws_eqGrantS.mono _ _ _)
      | (with_reducible exact laws_heldGrantS.mono _ _ _)
      | (with_reducible exact laws_markGrantS.mono _ _ _)
      | (with_reducible exact laws_szGrantS.mono _ _ _)
      | (with_reducible exact laws_toGrantS.mono _ _)
      | (with_reducible exact spec_TakeBack.mono _ _ _)
      | (with_reducible exact LeO.refl _)
      | (with_reducible exact LeO.none _)
      | (with_reducible refine LeO.ite ?_ ?_)
      | (with_reducible refine LeO.bind ?_ (fun _ => ?_))
      | exact impl_TakeBack.mono _ _ _
      | exact laws_eqGrantS.mono _ _ _
      | exact laws_heldGrantS.mono _ _ _
      | exact laws_markGrantS.mono _ _ _
      | exact laws_szGrantS.mono _ _ _
      | exact laws_toGrantS.mono _ _
      | exact spec_TakeBack.mono _ _ _
      | exact LeO.none _
      | refine LeO.ite ?_ ?_
      | refine LeO.bind ?_ (fun _ => ?_)
set_option maxHeartbeats 8000000 in
set_option maxRecDepth 100000 in
theorem laws_FnExactTakeBack.calls (k : Nat) (A0 : Option Addr) (c0 : Nat) (l0 : List (S48)) (a1 : Int) (r : Bool) (w : World) (hr0 : Kd.C k48 w A0 l0.length l0) (hc0 : l0.length ≤ c0) (h : laws_FnExactTakeBack.f k l0 a1 = some r) :
    Calls Try.prog 4 #[.slice A0 l0.length c0, .int .i64 a1] w fun e w' => e = .returned (.bool r) ∧ Below w.heap.size w w' := by
  have HR0 := Aside0.mk hr0
  have HC0 := Aside0.mk hc0
  clear hr0 hc0
  have HB := Aside0.mk (Below.refl w.heap.size w)
  have H := h
  clear h
  unfold laws_FnExactTakeBack.f at H
  go_enter Try.func4, Try.ntmps4
  replace H := Option.bind_eq_some_iff.mp H
  obtain ⟨t220, hm, H⟩ := H
  try dsimp only at H
  have H' := Aside0.mk H
  clear H
  have hcall := laws_szGrantS.calls k _ _ l0 1048576 t220 w (Kd.C_below HR0.out HB.out) HC0.out hm
  clear hm
  go_wp2_with fail
  refine hcall.mono ?_
  rintro e W1 ⟨rfl, hb⟩
  clear hcall
  have Z1 := Aside0.mk hb.size
  have hB_ := below_step HB.out hb
  clear HB hb
  have HB := Aside0.mk hB_
  clear hB_
  have H := H'.out
  clear H'
  by_cases c2 : t220 < 0
  · rw [if_pos c2] at H
    have c2_0 : decide (t220 < 0) = true := decide_eq_true c2
    clear c2
    obtain rfl := Option.some.inj H
    clear H
    go_wp2
    go_ret
    exact ⟨rfl, HB.out⟩
  · rw [if_neg c2] at H
    have c2_0 : decide (t220 < 0) = false := decide_eq_false c2
    clear c2
    replace H := Option.bind_eq_some_iff.mp H
    obtain ⟨t221, hm, H⟩ := H
    try dsimp only at H
    have H' := Aside0.mk H
    clear H
    have hcall := laws_toGrantS.calls k _ _ l0 t221 W1 (Kd.C_below HR0.out HB.out) HC0.out hm
    clear hm
    go_wp2_with fail
    refine hcall.mono ?_
    rintro e W3 ⟨v222, rfl, ho0, hb⟩
    clear hcall
    have Z3 := Aside0.mk hb.size
    obtain ⟨A3_0, n3_0, c3_0, rfl, hn_, hr_⟩ := Go.Proofs.YtplfbjbbnjlnkaaM.S_made ho0 HB.out.size
    clear hn_ ho0
    have HO3_0 := Aside0.mk hr_
    clear hr_
    have hB_ := below_step HB.out hb
    clear HB hb
    have HB := Aside0.mk hB_
    clear hB_
    have H := H'.out
    clear H'
    replace H := Option.bind_eq_some_iff.mp H
    obtain ⟨⟨t224, t225⟩, hm, H⟩ := H
    try dsimp only at H
    have H' := Aside0.mk H
    clear H
    have hcall := spec_TakeBack.calls k _ _ t221 a1 t224 t225 W3 (Go.Proofs.YtplfbjbbnjlnkaaM.S_C HO3_0.out) (Go.Proofs.YtplfbjbbnjlnkaaM.S_len HO3_0.out) hm
    rw [Go.Proofs.YtplfbjbbnjlnkaaM.S_n HO3_0.out] at hcall
    clear hm
    go_wp2_with fail
    refine hcall.mono ?_
    rintro e W4 ⟨v226, rfl, ho0, hb⟩
    clear hcall
    have Z4 := Aside0.mk hb.size
    have h_ := Kd.S_below HO3_0.out hb
    clear HO3_0
    have HO3_0 := Aside0.mk h_
    clear h_
    obtain ⟨A4_0, n4_0, c4_0, rfl, hn_, hr_⟩ := Go.Proofs.YtplfbjbbnjlnkaaM.S_made ho0 HB.out.size
    clear hn_ ho0
    have HO4_0 := Aside0.mk hr_
    clear hr_
    have hB_ := below_step HB.out hb
    clear HB hb
    have HB := Aside0.mk hB_
    clear hB_
    have H := H'.out
    clear H'
    replace H := Option.bind_eq_some_iff.mp H
    obtain ⟨t228, hm, H⟩ := H
    try dsimp only at H
    have H' := Aside0.mk H
    clear H
    have hcall := laws_toGrantS.calls k _ _ l0 t228 W4 (Kd.C_below HR0.out HB.out) HC0.out hm
    clear hm
    go_wp2_with fail
    refine hcall.mono ?_
    rintro e W5 ⟨v229, rfl, ho0, hb⟩
    clear hcall
    have Z5 := Aside0.mk hb.size
    have h_ := Kd.S_below HO3_0.out hb
    clear HO3_0
    have HO3_0 := Aside0.mk h_
    clear h_
    have h_ := Kd.S_below HO4_0.out hb
    clear HO4_0
    have HO4_0 := Aside0.mk h_
    clear h_
    obtain ⟨A5_0, n5_0, c5_0, rfl, hn_, hr_⟩ := Go.Proofs.YtplfbjbbnjlnkaaM.S_made ho0 HB.out.size
    clear hn_ ho0
    have HO5_0 := Aside0.mk hr_
    clear hr_
    have hB_ := below_step HB.out hb
    clear HB hb
    have HB := Aside0.mk hB_
    clear hB_
    have H := H'.out
    clear H'
    replace H := Option.bind_eq_some_iff.mp H
    obtain ⟨⟨t231, t232⟩, hm, H⟩ := H
    try dsimp only at H
    have H' := Aside0.mk H
    clear H
    have hcall := impl_TakeBack.calls k _ _ t228 a1 t231 t232 W5 (Go.Proofs.YtplfbjbbnjlnkaaM.S_C HO5_0.out) (Go.Proofs.YtplfbjbbnjlnkaaM.S_len HO5_0.out) hm
    rw [Go.Proofs.YtplfbjbbnjlnkaaM.S_n HO5_0.out] at hcall
    clear hm
    go_wp2_with fail
    refine hcall.mono ?_
    rintro e W6 ⟨v233, rfl, ho0, hb⟩
    clear hcall
    have Z6 := Aside0.mk hb.size
    have h_ := Kd.S_below HO3_0.out hb
    clear HO3_0
    have HO3_0 := Aside0.mk h_
    clear h_
    have h_ := Kd.S_below HO4_0.out hb
    clear HO4_0
    have HO4_0 := Aside0.mk h_
    clear h_
    have h_ := Kd.S_below HO5_0.out hb
    clear HO5_0
    have HO5_0 := Aside0.mk h_
    clear h_
    obtain ⟨A6_0, n6_0, c6_0, rfl, hn_, hr_⟩ := Go.Proofs.YtplfbjbbnjlnkaaM.S_made ho0 HB.out.size
    clear hn_ ho0
    have HO6_0 := Aside0.mk hr_
    clear hr_
    have hB_ := below_step HB.out hb
    clear HB hb
    have HB := Aside0.mk hB_
    clear hB_
    have H := H'.out
    clear H'
    replace H := Option.bind_eq_some_iff.mp H
    obtain ⟨t235, hm, H⟩ := H
    try dsimp only at H
    have H' := Aside0.mk H
    clear H
    have hcall := laws_eqGrantS.calls k _ _ t231 _ _ t224 t235 W6 (Go.Proofs.YtplfbjbbnjlnkaaM.S_C HO6_0.out) (Go.Proofs.YtplfbjbbnjlnkaaM.S_len HO6_0.out) (Go.Proofs.YtplfbjbbnjlnkaaM.S_C HO4_0.out) (Go.Proofs.YtplfbjbbnjlnkaaM.S_len HO4_0.out) hm
    rw [Go.Proofs.YtplfbjbbnjlnkaaM.S_n HO6_0.out, Go.Proofs.YtplfbjbbnjlnkaaM.S_n HO4_0.out] at hcall
    clear hm
    go_wp2_with fail
    refine hcall.mono ?_
    rintro e W7 ⟨rfl, hb⟩
    clear hcall
    have Z7 := Aside0.mk hb.size
    have h_ := Kd.S_below HO3_0.out hb
    clear HO3_0
    have HO3_0 := Aside0.mk h_
    clear h_
    have h_ := Kd.S_below HO4_0.out hb
    clear HO4_0
    have HO4_0 := Aside0.mk h_
    clear h_
    have h_ := Kd.S_below HO5_0.out hb
    clear HO5_0
    have HO5_0 := Aside0.mk h_
    clear h_
    have h_ := Kd.S_below HO6_0.out hb
    clear HO6_0
    have HO6_0 := Aside0.mk h_
    clear h_
    have hB_ := below_step HB.out hb
    clear HB hb
    have HB := Aside0.mk hB_
    clear hB_
    have H := H'.out
    clear H'
    by_cases c8 : t235 = true
    · rw [if_pos c8] at H
      subst c8
      by_cases c9 : (t232 != t225) = true
      · rw [if_pos c9] at H
        have c9_1 : (t232 != t225) = true := by revert c9; cases t232 <;> cases t225 <;> decide
        have c9_2 : (!t232 == t225) = true := by revert c9; cases t232 <;> cases t225 <;> decide
        clear c9
        obtain rfl := Option.some.inj H
        clear H
        go_wp2
        go_ret
        exact ⟨rfl, HB.out⟩
      · rw [if_neg c9] at H
        have c9_1 : (t232 != t225) = false := by revert c9; cases t232 <;> cases t225 <;> decide
        have c9_2 : (!t232 == t225) = false := by revert c9; cases t232 <;> cases t225 <;> decide
        clear c9
        replace H := Option.bind_eq_some_iff.mp H
        obtain ⟨t236, hm, H⟩ := H
        try dsimp only at H
        have H' := Aside0.mk H
        clear H
        have hcall := laws_toGrantS.calls k _ _ l0 t236 W7 (Kd.C_below HR0.out HB.out) HC0.out hm
        clear hm
        go_wp2_with fail
        refine hcall.mono ?_
        rintro e W10 ⟨v237, rfl, ho0, hb⟩
        clear hcall
        have Z10 := Aside0.mk hb.size
        have h_ := Kd.S_below HO3_0.out hb
        clear HO3_0
        have HO3_0 := Aside0.mk h_
        clear h_
        have h_ := Kd.S_below HO4_0.out hb
        clear HO4_0
        have HO4_0 := Aside0.mk h_
        clear h_
        have h_ := Kd.S_below HO5_0.out hb
        clear HO5_0
        have HO5_0 := Aside0.mk h_
        clear h_
        have h_ := Kd.S_below HO6_0.out hb
        clear HO6_0
        have HO6_0 := Aside0.mk h_
        clear h_
        obtain ⟨A10_0, n10_0, c10_0, rfl, hn_, hr_⟩ := Go.Proofs.YtplfbjbbnjlnkaaM.S_made ho0 HB.out.size
        clear hn_ ho0
        have HO10_0 := Aside0.mk hr_
        clear hr_
        have hB_ := below_step HB.out hb
        clear HB hb
        have HB := Aside0.mk hB_
        clear hB_
        have H := H'.out
        clear H'
        replace H := Option.bind_eq_some_iff.mp H
        obtain ⟨t239, hm, H⟩ := H
        try dsimp only at H
        have H' := Aside0.mk H
        clear H
        have hcall := laws_eqGrantS.calls k _ _ t228 _ _ t236 t239 W10 (Go.Proofs.YtplfbjbbnjlnkaaM.S_C HO5_0.out) (Go.Proofs.YtplfbjbbnjlnkaaM.S_len HO5_0.out) (Go.Proofs.YtplfbjbbnjlnkaaM.S_C HO10_0.out) (Go.Proofs.YtplfbjbbnjlnkaaM.S_len HO10_0.out) hm
        rw [Go.Proofs.YtplfbjbbnjlnkaaM.S_n HO5_0.out, Go.Proofs.YtplfbjbbnjlnkaaM.S_n HO10_0.out] at hcall
        clear hm
        go_wp2_with fail
        refine hcall.mono ?_
        rintro e W11 ⟨rfl, hb⟩
        clear hcall
        have Z11 := Aside0.mk hb.size
        have h_ := Kd.S_below HO3_0.out hb
        clear HO3_0
        have HO3_0 := Aside0.mk h_
        clear h_
        have h_ := Kd.S_below HO4_0.out hb
        clear HO4_0
        have HO4_0 := Aside0.mk h_
        clear h_
        have h_ := Kd.S_below HO5_0.out hb
        clear HO5_0
        have HO5_0 := Aside0.mk h_
        clear h_
        have h_ := Kd.S_below HO6_0.out hb
        clear HO6_0
        have HO6_0 := Aside0.mk h_
        clear h_
        have h_ := Kd.S_below HO10_0.out hb
        clear HO10_0
        have HO10_0 := Aside0.mk h_
        clear h_
        have hB_ := below_step HB.out hb
        clear HB hb
        have HB := Aside0.mk hB_
        clear hB_
        have H := H'.out
        clear H'
        by_cases c12 : t239 = true
        · rw [if_pos c12] at H
          subst c12
          replace H := Option.bind_eq_some_iff.mp H
          obtain ⟨⟨t240, t241⟩, hm, H⟩ := H
          try dsimp only at H
          have H' := Aside0.mk H
          clear H
          have hcall := laws_markGrantS.calls k (fun k_ => W4.heap.size ≤ k_ ∧ k_ < W5.heap.size) A5_0 n5_0 c5_0 t228 1 t240 t241 w W11 HB.out HO5_0.out hm
          clear hm
          go_wp2_with fail
          refine hcall.mono ?_
          rintro e W13 ⟨rfl, ho, hb, hkp⟩
          clear hcall
          clear HB
          have HB := Aside0.mk hb
          have Z13 := Aside0.mk hkp.1
          have HO13 := Aside0.mk (ho)
          clear ho HO5_0
          have h_ := Go.Proofs.YtplfbjbbnjlnkaaM.S_else HO3_0.out hkp (by have := Z1.out; have := Z3.out; have := Z4.out; have := Z5.out; have := Z6.out; have := Z7.out; have := Z10.out; have := Z11.out; omega)
          clear HO3_0
          have HO3_0 := Aside0.mk h_
          clear h_
          have h_ := Go.Proofs.YtplfbjbbnjlnkaaM.S_else HO4_0.out hkp (by have := Z1.out; have := Z3.out; have := Z4.out; have := Z5.out; have := Z6.out; have := Z7.out; have := Z10.out; have := Z11.out; omega)
          clear HO4_0
          have HO4_0 := Aside0.mk h_
          clear h_
          have h_ := Go.Proofs.YtplfbjbbnjlnkaaM.S_else HO6_0.out hkp (by have := Z1.out; have := Z3.out; have := Z4.out; have := Z5.out; have := Z6.out; have := Z7.out; have := Z10.out; have := Z11.out; omega)
          clear HO6_0
          have HO6_0 := Aside0.mk h_
          clear h_
          have h_ := Go.Proofs.YtplfbjbbnjlnkaaM.S_else HO10_0.out hkp (by have := Z1.out; have := Z3.out; have := Z4.out; have := Z5.out; have := Z6.out; have := Z7.out; have := Z10.out; have := Z11.out; omega)
          clear HO10_0
          have HO10_0 := Aside0.mk h_
          clear h_
          clear hkp hb
          have H := H'.out
          clear H'
          by_cases c14 : t240 < 0
          · rw [if_pos c14] at H
            have c14_0 : decide (t240 < 0) = true := decide_eq_true c14
            clear c14
            obtain rfl := Option.some.inj H
            clear H
            go_wp2
            go_ret
            exact ⟨rfl, HB.out⟩
          · rw [if_neg c14] at H
            have c14_0 : decide (t240 < 0) = false := decide_eq_false c14
            clear c14
            replace H := Option.bind_eq_some_iff.mp H
            obtain ⟨t242, hm, H⟩ := H
            try dsimp only at H
            have H' := Aside0.mk H
            clear H
            have hcall := laws_eqGrantS.calls k _ _ t231 _ _ t224 t242 W13 (Go.Proofs.YtplfbjbbnjlnkaaM.S_C HO6_0.out) (Go.Proofs.YtplfbjbbnjlnkaaM.S_len HO6_0.out) (Go.Proofs.YtplfbjbbnjlnkaaM.S_C HO4_0.out) (Go.Proofs.YtplfbjbbnjlnkaaM.S_len HO4_0.out) hm
            rw [Go.Proofs.YtplfbjbbnjlnkaaM.S_n HO6_0.out, Go.Proofs.YtplfbjbbnjlnkaaM.S_n HO4_0.out] at hcall
            clear hm
            go_wp2_with fail
            refine hcall.mono ?_
            rintro e W15 ⟨rfl, hb⟩
            clear hcall
            have Z15 := Aside0.mk hb.size
            have h_ := Kd.S_below HO3_0.out hb
            clear HO3_0
            have HO3_0 := Aside0.mk h_
            clear h_
            have h_ := Kd.S_below HO4_0.out hb
            clear HO4_0
            have HO4_0 := Aside0.mk h_
            clear h_
            have h_ := Kd.S_below HO13.out hb
            clear HO13
            have HO13 := Aside0.mk h_
            clear h_
            have h_ := Kd.S_below HO6_0.out hb
            clear HO6_0
            have HO6_0 := Aside0.mk h_
            clear h_
            have h_ := Kd.S_below HO10_0.out hb
            clear HO10_0
            have HO10_0 := Aside0.mk h_
            clear h_
            have hB_ := below_step HB.out hb
            clear HB hb
            have HB := Aside0.mk hB_
            clear hB_
            have H := H'.out
            clear H'
            by_cases c16 : t242 = true
            · rw [if_pos c16] at H
              subst c16
              replace H := Option.bind_eq_some_iff.mp H
              obtain ⟨⟨t243, t244⟩, hm, H⟩ := H
              try dsimp only at H
              have H' := Aside0.mk H
              clear H
              have hcall := laws_markGrantS.calls k (fun k_ => W5.heap.size ≤ k_ ∧ k_ < W6.heap.size) A6_0 n6_0 c6_0 t231 1 t243 t244 w W15 HB.out HO6_0.out hm
              clear hm
              go_wp2_with fail
              refine hcall.mono ?_
              rintro e W17 ⟨rfl, ho, hb, hkp⟩
              clear hcall
              clear HB
              have HB := Aside0.mk hb
              have Z17 := Aside0.mk hkp.1
              have HO17 := Aside0.mk (ho)
              clear ho HO6_0
              have h_ := Go.Proofs.YtplfbjbbnjlnkaaM.S_else HO3_0.out hkp (by have := Z1.out; have := Z3.out; have := Z4.out; have := Z5.out; have := Z6.out; have := Z7.out; have := Z10.out; have := Z11.out; have := Z13.out; have := Z15.out; omega)
              clear HO3_0
              have HO3_0 := Aside0.mk h_
              clear h_
              have h_ := Go.Proofs.YtplfbjbbnjlnkaaM.S_else HO4_0.out hkp (by have := Z1.out; have := Z3.out; have := Z4.out; have := Z5.out; have := Z6.out; have := Z7.out; have := Z10.out; have := Z11.out; have := Z13.out; have := Z15.out; omega)
              clear HO4_0
              have HO4_0 := Aside0.mk h_
              clear h_
              have h_ := Go.Proofs.YtplfbjbbnjlnkaaM.S_else HO13.out hkp (by have := Z1.out; have := Z3.out; have := Z4.out; have := Z5.out; have := Z6.out; have := Z7.out; have := Z10.out; have := Z11.out; have := Z13.out; have := Z15.out; omega)
              clear HO13
              have HO13 := Aside0.mk h_
              clear h_
              have h_ := Go.Proofs.YtplfbjbbnjlnkaaM.S_else HO10_0.out hkp (by have := Z1.out; have := Z3.out; have := Z4.out; have := Z5.out; have := Z6.out; have := Z7.out; have := Z10.out; have := Z11.out; have := Z13.out; have := Z15.out; omega)
              clear HO10_0
              have HO10_0 := Aside0.mk h_
              clear h_
              clear hkp hb
              have H := H'.out
              clear H'
              replace H := Option.bind_eq_some_iff.mp H
              obtain ⟨t245, hm, H⟩ := H
              try dsimp only at H
              have H' := Aside0.mk H
              clear H
              have hcall := laws_heldGrantS.calls k _ _ t244 1 t245 W17 (Go.Proofs.YtplfbjbbnjlnkaaM.S_C HO17.out) (Go.Proofs.YtplfbjbbnjlnkaaM.S_len HO17.out) hm
              rw [Go.Proofs.YtplfbjbbnjlnkaaM.S_n HO17.out] at hcall
              clear hm
              go_wp2_with fail
              refine hcall.mono ?_
              rintro e W18 ⟨rfl, hd⟩
              clear hcall
              have hb : Below W17.heap.size W17 W18 := hd.below
              clear hd
              have Z18 := Aside0.mk hb.size
              have h_ := Kd.S_below HO3_0.out hb
              clear HO3_0
              have HO3_0 := Aside0.mk h_
              clear h_
              have h_ := Kd.S_below HO4_0.out hb
              clear HO4_0
              have HO4_0 := Aside0.mk h_
              clear h_
              have h_ := Kd.S_below HO13.out hb
              clear HO13
              have HO13 := Aside0.mk h_
              clear h_
              have h_ := Kd.S_below HO17.out hb
              clear HO17
              have HO17 := Aside0.mk h_
              clear h_
              have h_ := Kd.S_below HO10_0.out hb
              clear HO10_0
              have HO10_0 := Aside0.mk h_
              clear h_
              have hB_ := below_step HB.out hb
              clear HB hb
              have HB := Aside0.mk hB_
              clear hB_
              have H := H'.out
              clear H'
              by_cases c19 : t245 < 0
              · rw [if_pos c19] at H
                have c19_0 : decide (t245 < 0) = true := decide_eq_true c19
                clear c19
                obtain rfl := Option.some.inj H
                clear H
                go_wp2
                go_ret
                exact ⟨rfl, HB.out⟩
              · rw [if_neg c19] at H
                have c19_0 : decide (t245 < 0) = false := decide_eq_false c19
                clear c19
                by_cases c20 : t245 = t243
                · rw [if_pos c20] at H
                  have c20_1 : (t245 == t243) = true := beq_iff_eq.mpr c20
                  have c20_2 : (t245 != t243) = false := bne_eq_false_iff_eq.mpr c20
                  have c20_0 : decide (t245 = t243) = true := decide_eq_true c20
                  clear c20
                  replace H := Option.bind_eq_some_iff.mp H
                  obtain ⟨t246, hm, H⟩ := H
                  try dsimp only at H
                  have H' := Aside0.mk H
                  clear H
                  have hcall := laws_toGrantS.calls k _ _ l0 t246 W18 (Kd.C_below HR0.out HB.out) HC0.out hm
                  clear hm
                  go_wp2_with fail
                  refine hcall.mono ?_
                  rintro e W21 ⟨v247, rfl, ho0, hb⟩
                  clear hcall
                  have Z21 := Aside0.mk hb.size
                  have h_ := Kd.S_below HO3_0.out hb
                  clear HO3_0
                  have HO3_0 := Aside0.mk h_
                  clear h_
                  have h_ := Kd.S_below HO4_0.out hb
                  clear HO4_0
                  have HO4_0 := Aside0.mk h_
                  clear h_
                  have h_ := Kd.S_below HO13.out hb
                  clear HO13
                  have HO13 := Aside0.mk h_
                  clear h_
                  have h_ := Kd.S_below HO17.out hb
                  clear HO17
                  have HO17 := Aside0.mk h_
                  clear h_
                  have h_ := Kd.S_below HO10_0.out hb
                  clear HO10_0
                  have HO10_0 := Aside0.mk h_
                  clear h_
                  obtain ⟨A21_0, n21_0, c21_0, rfl, hn_, hr_⟩ := Go.Proofs.YtplfbjbbnjlnkaaM.S_made ho0 HB.out.size
                  clear hn_ ho0
                  have HO21_0 := Aside0.mk hr_
                  clear hr_
                  have hB_ := below_step HB.out hb
                  clear HB hb
                  have HB := Aside0.mk hB_
                  clear hB_
                  have H := H'.out
                  clear H'
                  replace H := Option.bind_eq_some_iff.mp H
                  obtain ⟨⟨t249, t250⟩, hm, H⟩ := H
                  try dsimp only at H
                  have H' := Aside0.mk H
                  clear H
                  have hcall := impl_TakeBack.calls k _ _ t246 a1 t249 t250 W21 (Go.Proofs.YtplfbjbbnjlnkaaM.S_C HO21_0.out) (Go.Proofs.YtplfbjbbnjlnkaaM.S_len HO21_0.out) hm
                  rw [Go.Proofs.YtplfbjbbnjlnkaaM.S_n HO21_0.out] at hcall
                  clear hm
                  go_wp2_with fail
                  refine hcall.mono ?_
                  rintro e W22 ⟨v251, rfl, ho0, hb⟩
                  clear hcall
                  have Z22 := Aside0.mk hb.size
                  have h_ := Kd.S_below HO3_0.out hb
                  clear HO3_0
                  have HO3_0 := Aside0.mk h_
                  clear h_
                  have h_ := Kd.S_below HO4_0.out hb
                  clear HO4_0
                  have HO4_0 := Aside0.mk h_
                  clear h_
                  have h_ := Kd.S_below HO13.out hb
                  clear HO13
                  have HO13 := Aside0.mk h_
                  clear h_
                  have h_ := Kd.S_below HO17.out hb
                  clear HO17
                  have HO17 := Aside0.mk h_
                  clear h_
                  have h_ := Kd.S_below HO10_0.out hb
                  clear HO10_0
                  have HO10_0 := Aside0.mk h_
                  clear h_
                  have h_ := Kd.S_below HO21_0.out hb
                  clear HO21_0
                  have HO21_0 := Aside0.mk h_
                  clear h_
                  obtain ⟨A22_0, n22_0, c22_0, rfl, hn_, hr_⟩ := Go.Proofs.YtplfbjbbnjlnkaaM.S_made ho0 HB.out.size
                  clear hn_ ho0
                  have HO22_0 := Aside0.mk hr_
                  clear hr_
                  have hB_ := below_step HB.out hb
                  clear HB hb
                  have HB := Aside0.mk hB_
                  clear hB_
                  have H := H'.out
                  clear H'
                  replace H := Option.bind_eq_some_iff.mp H
                  obtain ⟨t253, hm, H⟩ := H
                  try dsimp only at H
                  have H' := Aside0.mk H
                  clear H
                  have hcall := laws_eqGrantS.calls k _ _ t249 _ _ t224 t253 W22 (Go.Proofs.YtplfbjbbnjlnkaaM.S_C HO22_0.out) (Go.Proofs.YtplfbjbbnjlnkaaM.S_len HO22_0.out) (Go.Proofs.YtplfbjbbnjlnkaaM.S_C HO4_0.out) (Go.Proofs.YtplfbjbbnjlnkaaM.S_len HO4_0.out) hm
                  rw [Go.Proofs.YtplfbjbbnjlnkaaM.S_n HO22_0.out, Go.Proofs.YtplfbjbbnjlnkaaM.S_n HO4_0.out] at hcall
                  clear hm
                  go_wp2_with fail
                  refine hcall.mono ?_
                  rintro e W23 ⟨rfl, hb⟩
                  clear hcall
                  have Z23 := Aside0.mk hb.size
                  have h_ := Kd.S_below HO3_0.out hb
                  clear HO3_0
                  have HO3_0 := Aside0.mk h_
                  clear h_
                  have h_ := Kd.S_below HO4_0.out hb
                  clear HO4_0
                  have HO4_0 := Aside0.mk h_
                  clear h_
                  have h_ := Kd.S_below HO13.out hb
                  clear HO13
                  have HO13 := Aside0.mk h_
                  clear h_
                  have h_ := Kd.S_below HO17.out hb
                  clear HO17
                  have HO17 := Aside0.mk h_
                  clear h_
                  have h_ := Kd.S_below HO10_0.out hb
                  clear HO10_0
                  have HO10_0 := Aside0.mk h_
                  clear h_
                  have h_ := Kd.S_below HO21_0.out hb
                  clear HO21_0
                  have HO21_0 := Aside0.mk h_
                  clear h_
                  have h_ := Kd.S_below HO22_0.out hb
                  clear HO22_0
                  have HO22_0 := Aside0.mk h_
                  clear h_
                  have hB_ := below_step HB.out hb
                  clear HB hb
                  have HB := Aside0.mk hB_
                  clear hB_
                  have H := H'.out
                  clear H'
                  by_cases c24 : t253 = true
                  · rw [if_pos c24] at H
                    subst c24
                    by_cases c25 : (t250 != t225) = true
                    · rw [if_pos c25] at H
                      have c25_1 : (t250 != t225) = true := by revert c25; cases t250 <;> cases t225 <;> decide
                      have c25_2 : (!t250 == t225) = true := by revert c25; cases t250 <;> cases t225 <;> decide
                      clear c25
                      obtain rfl := Option.some.inj H
                      clear H
                      go_wp2
                      go_ret
                      exact ⟨rfl, HB.out⟩
                    · rw [if_neg c25] at H
                      have c25_1 : (t250 != t225) = false := by revert c25; cases t250 <;> cases t225 <;> decide
                      have c25_2 : (!t250 == t225) = false := by revert c25; cases t250 <;> cases t225 <;> decide
                      clear c25
                      replace H := Option.bind_eq_some_iff.mp H
                      obtain ⟨t254, hm, H⟩ := H
                      try dsimp only at H
                      have H' := Aside0.mk H
                      clear H
                      have hcall := laws_heldGrantS.calls k _ _ t244 1 t254 W23 (Go.Proofs.YtplfbjbbnjlnkaaM.S_C HO17.out) (Go.Proofs.YtplfbjbbnjlnkaaM.S_len HO17.out) hm
                      rw [Go.Proofs.YtplfbjbbnjlnkaaM.S_n HO17.out] at hcall
                      clear hm
                      go_wp2_with fail
                      refine hcall.mono ?_
                      rintro e W26 ⟨rfl, hd⟩
                      clear hcall
                      have hb : Below W23.heap.size W23 W26 := hd.below
                      clear hd
                      have Z26 := Aside0.mk hb.size
                      have h_ := Kd.S_below HO3_0.out hb
                      clear HO3_0
                      have HO3_0 := Aside0.mk h_
                      clear h_
                      have h_ := Kd.S_below HO4_0.out hb
                      clear HO4_0
                      have HO4_0 := Aside0.mk h_
                      clear h_
                      have h_ := Kd.S_below HO13.out hb
                      clear HO13
                      have HO13 := Aside0.mk h_
                      clear h_
                      have h_ := Kd.S_below HO17.out hb
                      clear HO17
                      have HO17 := Aside0.mk h_
                      clear h_
                      have h_ := Kd.S_below HO10_0.out hb
                      clear HO10_0
                      have HO10_0 := Aside0.mk h_
                      clear h_
                      have h_ := Kd.S_below HO21_0.out hb
                      clear HO21_0
                      have HO21_0 := Aside0.mk h_
                      clear h_
                      have h_ := Kd.S_below HO22_0.out hb
                      clear HO22_0
                      have HO22_0 := Aside0.mk h_
                      clear h_
                      have hB_ := below_step HB.out hb
                      clear HB hb
                      have HB := Aside0.mk hB_
                      clear hB_
                      have H := H'.out
                      clear H'
                      by_cases c27 : t254 < 0
                      · rw [if_pos c27] at H
                        have c27_0 : decide (t254 < 0) = true := decide_eq_true c27
                        clear c27
                        obtain rfl := Option.some.inj H
                        clear H
                        go_wp2
                        go_ret
                        exact ⟨rfl, HB.out⟩
                      · rw [if_neg c27] at H
                        have c27_0 : decide (t254 < 0) = false := decide_eq_false c27
                        clear c27
                        by_cases c28 : t254 = t243
                        · rw [if_pos c28] at H
                          have c28_1 : (t254 == t243) = true := beq_iff_eq.mpr c28
                          have c28_2 : (t254 != t243) = false := bne_eq_false_iff_eq.mpr c28
                          have c28_0 : decide (t254 = t243) = true := decide_eq_true c28
                          clear c28
                          obtain rfl := Option.some.inj H
                          clear H
                          go_wp2
                          go_ret
                          exact ⟨rfl, HB.out⟩
                        · rw [if_neg c28] at H
                          have c28_1 : (t254 == t243) = false := beq_eq_false_iff_ne.mpr c28
                          have c28_2 : (t254 != t243) = true := bne_iff_ne.mpr c28
                          have c28_0 : decide (t254 = t243) = false := decide_eq_false c28
                          clear c28
                          obtain rfl := Option.some.inj H
                          clear H
                          go_wp2
                          go_ret
                          exact ⟨rfl, HB.out⟩
                  · rw [if_neg c24] at H
                    replace c24 : t253 = false := by simpa using c24
                    subst c24
                    obtain rfl := Option.some.inj H
                    clear H
                    go_wp2
                    go_ret
                    exact ⟨rfl, HB.out⟩
                · rw [if_neg c20] at H
                  have c20_1 : (t245 == t243) = false := beq_eq_false_iff_ne.mpr c20
                  have c20_2 : (t245 != t243) = true := bne_iff_ne.mpr c20
                  have c20_0 : decide (t245 = t243) = false := decide_eq_false c20
                  clear c20
                  obtain rfl := Option.some.inj H
                  clear H
                  go_wp2
                  go_ret
                  exact ⟨rfl, HB.out⟩
            · rw [if_neg c16] at H
              replace c16 : t242 = false := by simpa using c16
              subst c16
              obtain rfl := Option.some.inj H
              clear H
              go_wp2
              go_ret
              exact ⟨rfl, HB.out⟩
        · rw [if_neg c12] at H
          replace c12 : t239 = false := by simpa using c12
          subst c12
          obtain rfl := Option.some.inj H
          clear H
          go_wp2
          go_ret
          exact ⟨rfl, HB.out⟩
    · rw [if_neg c8] at H
      replace c8 : t235 = false := by simpa using c8
      subst c8
      obtain rfl := Option.some.inj H
      clear H
      go_wp2
      go_ret
      exact ⟨rfl, HB.out⟩

section
open Go.Proofs.YtplfbjbbnjlnkaaO
def g48 (x : S48) : Prop := (Lit.int .i64 x.f0).wf = true ∧ (Lit.int .i64 x.f1).wf = true ∧ (Lit.int .i64 x.f2).wf = true ∧ (x.f3.length ≤ maxLen ∧ ∀ y_ ∈ x.f3, (Lit.int .i64 y_).wf = true) ∧ (Lit.int .i64 x.f4).wf = true ∧ (Lit.int .i64 x.f5).wf = true ∧ True
theorem opens48 (n : Nat) : Opens Try.prog 48 k48 g48 n :=
  opens_imp (opens_iso (fun x : S48 => (x.f0, x.f1, x.f2, x.f3, x.f4, x.f5, x.f6)) (fun x => (⟨x.1, x.2.1, x.2.2.1, x.2.2.2.1, x.2.2.2.2.1, x.2.2.2.2.2.1, x.2.2.2.2.2.2⟩ : S48)) (fun _ => rfl) (opens_struct Try.underlying48 (by kernel_rfl) fun m _ => (fields_cons rfl (by kernel_rfl) (opens_int Try.underlying3 m) (fields_cons rfl (by kernel_rfl) (opens_int Try.underlying3 m) (fields_cons rfl (by kernel_rfl) (opens_int Try.underlying3 m) (fields_cons rfl (by kernel_rfl) (opens_slice Try.underlying46 (by kernel_rfl) fun m _ => (opens_int Try.underlying3 m)) (fields_cons rfl (by kernel_rfl) (opens_int Try.underlying3 m) (fields_cons rfl (by kernel_rfl) (opens_int Try.underlying3 m) (fields_one rfl (by kernel_rfl) (opens_bool Try.underlying4 m)))))))))) (fun _ h => h)
end
/-- What is left to show of laws_FnExactTakeBack: over numbers and lists alone. -/
def laws_FnExactTakeBack.Pure : Prop := ∀ (l0 : List (S48)) (a1 : Int), l0.length ≤ maxLen → (∀ y_ ∈ l0, g48 y_) → (Lit.int .i64 a1).wf = true → ∃ k, laws_FnExactTakeBack.f k l0 a1 = some true

end Go.Proofs.Ytplfbjbbnjlnkaa.QFnExactTakeBack
