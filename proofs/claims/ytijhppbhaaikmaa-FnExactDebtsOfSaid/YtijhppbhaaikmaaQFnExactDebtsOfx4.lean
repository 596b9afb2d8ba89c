/- The machine side of FnExactDebtsOf: what each function that it reaches computes, and that the machine's call gives just that. -/
import Derived.Test.YtijhppbhaaikmaaQFnExactDebtsOfx0
import Derived.Test.YtijhppbhaaikmaaQFnExactDebtsOfx1
import Derived.Test.YtijhppbhaaikmaaQFnExactDebtsOfx2
import Derived.Test.YtijhppbhaaikmaaQFnExactDebtsOfx3
namespace Go.Proofs.Ytijhppbhaaikmaa.QFnExactDebtsOf
open Go.RowKit Go.Proofs.YtijhppbhaaikmaaW.PrintWords Go.Proofs.YtijhppbhaaikmaaW.PrintLast Go.Proofs.YtijhppbhaaikmaaW.PrintMore
attribute [local go_sem] max2_int min2_int max_two min_two max_three min_three max_four min_four   -- for this text's walks alone
set_option linter.unusedVariables false
set_option linter.unusedSimpArgs false

/-! ### laws_FnExactDebtsOf: function 14 -/
def laws_FnExactDebtsOf.f (k : Nat) (l0 : List (S121)) (a1 : Int) : Option (Bool) := (laws_szEmergencyS.f k l0 1048576).bind fun t156 => (if t156 < 0 then (some true) else ((laws_toEmergencyS.f k l0).bind fun t157 => ((spec_DebtsOf.f k t157 a1).bind fun t160 => ((laws_toEmergencyS.f k l0).bind fun t163 => ((impl_DebtsOf.f k t163 a1).bind fun t166 => ((laws_eqIntS.f k t166 t160).bind fun t169 => (if t169 = true then ((laws_toEmergencyS.f k l0).bind fun t170 => ((laws_eqEmergencyS.f k t163 t170).bind fun t173 => (if t173 = true then ((laws_markEmergencyS.f k t163 1).bind fun bt174 => (if bt174.1 < 0 then (some false) else ((laws_eqIntS.f k t166 t160).bind fun t176 => (if t176 = true then ((laws_markIntS.f k t166 1).bind fun bt177 => ((laws_heldIntS.f k bt177.2 1).bind fun t179 => (if t179 < 0 then (some false) else (if t179 = bt177.1 then ((laws_toEmergencyS.f k l0).bind fun t180 => ((impl_DebtsOf.f k t180 a1).bind fun t183 => ((laws_eqIntS.f k t183 t160).bind fun t186 => (if t186 = true then ((laws_heldIntS.f k bt177.2 1).bind fun t187 => (if t187 < 0 then (some false) else (if t187 = bt177.1 then (some true) else (some false)))) else (some false))))) else (some false))))) else (some false))))) else (some false)))) else (some false))))))))
theorem laws_FnExactDebtsOf.mono : ∀ a0 a1 k, LeO (laws_FnExactDebtsOf.f k a0 a1) (laws_FnExactDebtsOf.f (k + 1) a0 a1) := by
  intro a0 a1 k
  unfold laws_FnExactDebtsOf.f
  repeat' first
      | (with_reducible exact impl_DebtsOf.mono _ _ _)
      | (with_reducible exact laws_eqEmergencyS.mono _ _ _)
      | (with_reducible exact laws_eqIntS.mono _ _ _)
      | (with_reducible exact laws_heldIntS.mono _ _ _)
      | (with_reducible exact laws_markEmergencyS.mono _ _ _)
      | (with_reducible exact laws_markIntS.mono _ _ _)
      | (with_reducible exact laws_szEmergencyS.mono _ _ _)
      | (with_reducible exact laws_toEmergencyS.mono _ _)
      | (with_reducible exact spec_DebtsOf.mono _ _ _)
      | (with_reducible exact LeO.refl _)
      | (with_reducible exact LeO.none _)
      | (with_reducible refine LeO.ite ?_ ?_)
      | (with_reducible refine LeO.bind ?_ (fun _ => ?_))
      | exact impl_DebtsOf.mono _ _ _
      | exact laws_eqEmergencyS.mono _ _ _
      | exact laws_eqIntS.mono _ _ _
      | exact laws_heldIntS.mono _ _ _
      | exact laws_markEmergencyS.mono _ _ _
      | exact laws_markIntS.mono _ _ _
      | exact laws_szEmergencyS.mono _ _ _
      | exact laws_toEmergencyS.mono _ _
      | exact spec_DebtsOf.mono _ _ _
      | exact LeO.none _
      | refine LeO.ite ?_ ?_
      | refine LeO.bind ?_ (fun _ => ?_)
set_option maxHeartbeats 8000000 in
set_option maxRecDepth 100000 in
theorem laws_FnExactDebtsOf.calls (k : Nat) (A0 : Option Addr) (c0 : Nat) (l0 : List (S121)) (a1 : Int) (r : Bool) (w : World) (hr0 : Kd.C k121 w A0 l0.length l0) (hc0 : l0.length ≤ c0) (h : laws_FnExactDebtsOf.f k l0 a1 = some r) :
    Calls Try.prog 14 #[.slice A0 l0.length c0, .int .i64 a1] w fun e w' => e = .returned (.bool r) ∧ Below w.heap.size w w' := by
  have HR0 := Aside0.mk hr0
  have HC0 := Aside0.mk hc0
  clear hr0 hc0
  have HB := Aside0.mk (Below.refl w.heap.size w)
  have H := h
  clear h
  unfold laws_FnExactDebtsOf.f at H
  go_enter Try.func14, Try.ntmps14
  obtain ⟨t156, hm, H⟩ := Option.bind_eq_some_iff.mp H
  try dsimp only at H
  have H' := Aside0.mk H
  clear H
  have hcall := laws_szEmergencyS.calls k _ _ l0 1048576 t156 w (Kd.C_below HR0.out HB.out) HC0.out hm
  clear hm
  go_wp2_with fail
  refine hcall.mono ?_
  rintro e W1 ⟨rfl, hb⟩
  clear hcall
  have Z1 := Aside0.mk hb.size
  have hB_ := below_step HB.out hb
  clear HB hb
  have HB := Aside0.mk hB_
  clear hB_
  have H := H'.out
  clear H'
  by_cases c2 : t156 < 0
  · rw [if_pos c2] at H
    have c2_0 : decide (t156 < 0) = true := decide_eq_true c2
    clear c2
    obtain rfl := Option.some.inj H
    clear H
    go_wp2
    go_ret
    exact ⟨rfl, HB.out⟩
  · rw [if_neg c2] at H
    have c2_0 : decide (t156 < 0) = false := decide_eq_false c2
    clear c2
    obtain ⟨t157, hm, H⟩ := Option.bind_eq_some_iff.mp H
    try dsimp only at H
    have H' := Aside0.mk H
    clear H
    have hcall := laws_toEmergencyS.calls k _ _ l0 t157 W1 (Kd.C_below HR0.out HB.out) HC0.out hm
    clear hm
    go_wp2_with fail
    refine hcall.mono ?_
    rintro e W3 ⟨v158, rfl, ho0, hb⟩
    clear hcall
    have Z3 := Aside0.mk hb.size
    obtain ⟨A3_0, n3_0, c3_0, rfl, hn_, hr_⟩ := Go.Proofs.YtijhppbhaaikmaaM.S_made ho0 HB.out.size
    clear hn_ ho0
    have HO3_0 := Aside0.mk hr_
    clear hr_
    have hB_ := below_step HB.out hb
    clear HB hb
    have HB := Aside0.mk hB_
    clear hB_
    have H := H'.out
    clear H'
    obtain ⟨t160, hm, H⟩ := Option.bind_eq_some_iff.mp H
    try dsimp only at H
    have H' := Aside0.mk H
    clear H
    have hcall := spec_DebtsOf.calls k _ _ t157 a1 t160 W3 (Go.Proofs.YtijhppbhaaikmaaM.S_C HO3_0.out) (Go.Proofs.YtijhppbhaaikmaaM.S_len HO3_0.out) hm
    rw [Go.Proofs.YtijhppbhaaikmaaM.S_n HO3_0.out] at hcall
    clear hm
    go_wp2_with fail
    refine hcall.mono ?_
    rintro e W4 ⟨v161, rfl, ho0, hb⟩
    clear hcall
    have Z4 := Aside0.mk hb.size
    have h_ := Kd.S_below HO3_0.out hb
    clear HO3_0
    have HO3_0 := Aside0.mk h_
    clear h_
    obtain ⟨A4_0, n4_0, c4_0, rfl, hn_, hr_⟩ := Go.Proofs.YtijhppbhaaikmaaM.R_made ho0 HB.out.size
    clear hn_ ho0
    have HO4_0 := Aside0.mk hr_
    clear hr_
    have hB_ := below_step HB.out hb
    clear HB hb
    have HB := Aside0.mk hB_
    clear hB_
    have H := H'.out
    clear H'
    obtain ⟨t163, hm, H⟩ := Option.bind_eq_some_iff.mp H
    try dsimp only at H
    have H' := Aside0.mk H
    clear H
    have hcall := laws_toEmergencyS.calls k _ _ l0 t163 W4 (Kd.C_below HR0.out HB.out) HC0.out hm
    clear hm
    go_wp2_with fail
    refine hcall.mono ?_
    rintro e W5 ⟨v164, rfl, ho0, hb⟩
    clear hcall
    have Z5 := Aside0.mk hb.size
    have h_ := Kd.S_below HO3_0.out hb
    clear HO3_0
    have HO3_0 := Aside0.mk h_
    clear h_
    have h_ := Kd.R_below HO4_0.out hb
    clear HO4_0
    have HO4_0 := Aside0.mk h_
    clear h_
    obtain ⟨A5_0, n5_0, c5_0, rfl, hn_, hr_⟩ := Go.Proofs.YtijhppbhaaikmaaM.S_made ho0 HB.out.size
    clear hn_ ho0
    have HO5_0 := Aside0.mk hr_
    clear hr_
    have hB_ := below_step HB.out hb
    clear HB hb
    have HB := Aside0.mk hB_
    clear hB_
    have H := H'.out
    clear H'
    obtain ⟨t166, hm, H⟩ := Option.bind_eq_some_iff.mp H
    try dsimp only at H
    have H' := Aside0.mk H
    clear H
    have hcall := impl_DebtsOf.calls k _ _ t163 a1 t166 W5 (Go.Proofs.YtijhppbhaaikmaaM.S_C HO5_0.out) (Go.Proofs.YtijhppbhaaikmaaM.S_len HO5_0.out) hm
    rw [Go.Proofs.YtijhppbhaaikmaaM.S_n HO5_0.out] at hcall
    clear hm
    go_wp2_with fail
    refine hcall.mono ?_
    rintro e W6 ⟨v167, rfl, ho0, hb⟩
    clear hcall
    have Z6 := Aside0.mk hb.size
    have h_ := Kd.S_below HO3_0.out hb
    clear HO3_0
    have HO3_0 := Aside0.mk h_
    clear h_
    have h_ := Kd.R_below HO4_0.out hb
    clear HO4_0
    have HO4_0 := Aside0.mk h_
    clear h_
    have h_ := Kd.S_below HO5_0.out hb
    clear HO5_0
    have HO5_0 := Aside0.mk h_
    clear h_
    obtain ⟨A6_0, n6_0, c6_0, rfl, hn_, hr_⟩ := Go.Proofs.YtijhppbhaaikmaaM.R_made ho0 HB.out.size
    clear hn_ ho0
    have HO6_0 := Aside0.mk hr_
    clear hr_
    have hB_ := below_step HB.out hb
    clear HB hb
    have HB := Aside0.mk hB_
    clear hB_
    have H := H'.out
    clear H'
    obtain ⟨t169, hm, H⟩ := Option.bind_eq_some_iff.mp H
    try dsimp only at H
    have H' := Aside0.mk H
    clear H
    have hcall := laws_eqIntS.calls k _ _ t166 _ _ t160 t169 W6 (Go.Proofs.YtijhppbhaaikmaaM.R_C HO6_0.out) (Go.Proofs.YtijhppbhaaikmaaM.R_len HO6_0.out) (Go.Proofs.YtijhppbhaaikmaaM.R_C HO4_0.out) (Go.Proofs.YtijhppbhaaikmaaM.R_len HO4_0.out) hm
    rw [Go.Proofs.YtijhppbhaaikmaaM.R_n HO6_0.out, Go.Proofs.YtijhppbhaaikmaaM.R_n HO4_0.out] at hcall
    clear hm
    go_wp2_with fail
    refine hcall.mono ?_
    rintro e W7 ⟨rfl, hd⟩
    clear hcall
    have hb : Below W6.heap.size W6 W7 := hd.below
    clear hd
    have Z7 := Aside0.mk hb.size
    have h_ := Kd.S_below HO3_0.out hb
    clear HO3_0
    have HO3_0 := Aside0.mk h_
    clear h_
    have h_ := Kd.R_below HO4_0.out hb
    clear HO4_0
    have HO4_0 := Aside0.mk h_
    clear h_
    have h_ := Kd.S_below HO5_0.out hb
    clear HO5_0
    have HO5_0 := Aside0.mk h_
    clear h_
    have h_ := Kd.R_below HO6_0.out hb
    clear HO6_0
    have HO6_0 := Aside0.mk h_
    clear h_
    have hB_ := below_step HB.out hb
    clear HB hb
    have HB := Aside0.mk hB_
    clear hB_
    have H := H'.out
    clear H'
    by_cases c8 : t169 = true
    · rw [if_pos c8] at H
      subst c8
      obtain ⟨t170, hm, H⟩ := Option.bind_eq_some_iff.mp H
      try dsimp only at H
      have H' := Aside0.mk H
      clear H
      have hcall := laws_toEmergencyS.calls k _ _ l0 t170 W7 (Kd.C_below HR0.out HB.out) HC0.out hm
      clear hm
      go_wp2_with fail
      refine hcall.mono ?_
      rintro e W9 ⟨v171, rfl, ho0, hb⟩
      clear hcall
      have Z9 := Aside0.mk hb.size
      have h_ := Kd.S_below HO3_0.out hb
      clear HO3_0
      have HO3_0 := Aside0.mk h_
      clear h_
      have h_ := Kd.R_below HO4_0.out hb
      clear HO4_0
      have HO4_0 := Aside0.mk h_
      clear h_
      have h_ := Kd.S_below HO5_0.out hb
      clear HO5_0
      have HO5_0 := Aside0.mk h_
      clear h_
      have h_ := Kd.R_below HO6_0.out hb
      clear HO6_0
      have HO6_0 := Aside0.mk h_
      clear h_
      obtain ⟨A9_0, n9_0, c9_0, rfl, hn_, hr_⟩ := Go.Proofs.YtijhppbhaaikmaaM.S_made ho0 HB.out.size
      clear hn_ ho0
      have HO9_0 := Aside0.mk hr_
      clear hr_
      have hB_ := below_step HB.out hb
      clear HB hb
      have HB := Aside0.mk hB_
      clear hB_
      have H := H'.out
      clear H'
      obtain ⟨t173, hm, H⟩ := Option.bind_eq_some_iff.mp H
      try dsimp only at H
      have H' := Aside0.mk H
      clear H
      have hcall := laws_eqEmergencyS.calls k _ _ t163 _ _ t170 t173 W9 (Go.Proofs.YtijhppbhaaikmaaM.S_C HO5_0.out) (Go.Proofs.YtijhppbhaaikmaaM.S_len HO5_0.out) (Go.Proofs.YtijhppbhaaikmaaM.S_C HO9_0.out) (Go.Proofs.YtijhppbhaaikmaaM.S_len HO9_0.out) hm
      rw [Go.Proofs.YtijhppbhaaikmaaM.S_n HO5_0.out, Go.Proofs.YtijhppbhaaikmaaM.S_n HO9_0.out] at hcall
      clear hm
      go_wp2_with fail
      refine hcall.mono ?_
      rintro e W10 ⟨rfl, hb⟩
      clear hcall
      have Z10 := Aside0.mk hb.size
      have h_ := Kd.S_below HO3_0.out hb
      clear HO3_0
      have HO3_0 := Aside0.mk h_
      clear h_
      have h_ := Kd.R_below HO4_0.out hb
      clear HO4_0
      have HO4_0 := Aside0.mk h_
      clear h_
      have h_ := Kd.S_below HO5_0.out hb
      clear HO5_0
      have HO5_0 := Aside0.mk h_
      clear h_
      have h_ := Kd.R_below HO6_0.out hb
      clear HO6_0
      have HO6_0 := Aside0.mk h_
      clear h_
      have h_ := Kd.S_below HO9_0.out hb
      clear HO9_0
      have HO9_0 := Aside0.mk h_
      clear h_
      have hB_ := below_step HB.out hb
      clear HB hb
      have HB := Aside0.mk hB_
      clear hB_
      have H := H'.out
      clear H'
      by_cases c11 : t173 = true
      · rw [if_pos c11] at H
        subst c11
        obtain ⟨⟨t174, t175⟩, hm, H⟩ := Option.bind_eq_some_iff.mp H
        try dsimp only at H
        have H' := Aside0.mk H
        clear H
        have hcall := laws_markEmergencyS.calls k (fun k_ => W4.heap.size ≤ k_ ∧ k_ < W5.heap.size) A5_0 n5_0 c5_0 t163 1 t174 t175 w W10 HB.out HO5_0.out hm
        clear hm
        go_wp2_with fail
        refine hcall.mono ?_
        rintro e W12 ⟨rfl, ho, hb, hkp⟩
        clear hcall
        clear HB
        have HB := Aside0.mk hb
        have Z12 := Aside0.mk hkp.1
        have HO12 := Aside0.mk (ho)
        clear ho HO5_0
        have h_ := Go.Proofs.YtijhppbhaaikmaaM.S_else HO3_0.out hkp (by have := Z1.out; have := Z3.out; have := Z4.out; have := Z5.out; have := Z6.out; have := Z7.out; have := Z9.out; have := Z10.out; exact .inl (by omega))
        clear HO3_0
        have HO3_0 := Aside0.mk h_
        clear h_
        have h_ := Go.Proofs.YtijhppbhaaikmaaM.R_else HO4_0.out hkp (by have := Z1.out; have := Z3.out; have := Z4.out; have := Z5.out; have := Z6.out; have := Z7.out; have := Z9.out; have := Z10.out; exact .inl (by omega))
        clear HO4_0
        have HO4_0 := Aside0.mk h_
        clear h_
        have h_ := Go.Proofs.YtijhppbhaaikmaaM.R_else HO6_0.out hkp (by have := Z1.out; have := Z3.out; have := Z4.out; have := Z5.out; have := Z6.out; have := Z7.out; have := Z9.out; have := Z10.out; exact .inr (by omega))
        clear HO6_0
        have HO6_0 := Aside0.mk h_
        clear h_
        have h_ := Go.Proofs.YtijhppbhaaikmaaM.S_else HO9_0.out hkp (by have := Z1.out; have := Z3.out; have := Z4.out; have := Z5.out; have := Z6.out; have := Z7.out; have := Z9.out; have := Z10.out; exact .inr (by omega))
        clear HO9_0
        have HO9_0 := Aside0.mk h_
        clear h_
        clear hkp hb
        have H := H'.out
        clear H'
        by_cases c13 : t174 < 0
        · rw [if_pos c13] at H
          have c13_0 : decide (t174 < 0) = true := decide_eq_true c13
          clear c13
          obtain rfl := Option.some.inj H
          clear H
          go_wp2
          go_ret
          exact ⟨rfl, HB.out⟩
        · rw [if_neg c13] at H
          have c13_0 : decide (t174 < 0) = false := decide_eq_false c13
          clear c13
          obtain ⟨t176, hm, H⟩ := Option.bind_eq_some_iff.mp H
          try dsimp only at H
          have H' := Aside0.mk H
          clear H
          have hcall := laws_eqIntS.calls k _ _ t166 _ _ t160 t176 W12 (Go.Proofs.YtijhppbhaaikmaaM.R_C HO6_0.out) (Go.Proofs.YtijhppbhaaikmaaM.R_len HO6_0.out) (Go.Proofs.YtijhppbhaaikmaaM.R_C HO4_0.out) (Go.Proofs.YtijhppbhaaikmaaM.R_len HO4_0.out) hm
          rw [Go.Proofs.YtijhppbhaaikmaaM.R_n HO6_0.out, Go.Proofs.YtijhppbhaaikmaaM.R_n HO4_0.out] at hcall
          clear hm
          go_wp2_with fail
          refine hcall.mono ?_
          rintro e W14 ⟨rfl, hd⟩
          clear hcall
          have hb : Below W12.heap.size W12 W14 := hd.below
          clear hd
          have Z14 := Aside0.mk hb.size
          have h_ := Kd.S_below HO3_0.out hb
          clear HO3_0
          have HO3_0 := Aside0.mk h_
          clear h_
          have h_ := Kd.R_below HO4_0.out hb
          clear HO4_0
          have HO4_0 := Aside0.mk h_
          clear h_
          have h_ := Kd.S_below HO12.out hb
          clear HO12
          have HO12 := Aside0.mk h_
          clear h_
          have h_ := Kd.R_below HO6_0.out hb
          clear HO6_0
          have HO6_0 := Aside0.mk h_
          clear h_
          have h_ := Kd.S_below HO9_0.out hb
          clear HO9_0
          have HO9_0 := Aside0.mk h_
          clear h_
          have hB_ := below_step HB.out hb
          clear HB hb
          have HB := Aside0.mk hB_
          clear hB_
          have H := H'.out
          clear H'
          by_cases c15 : t176 = true
          · rw [if_pos c15] at H
            subst c15
            obtain ⟨⟨t177, t178⟩, hm, H⟩ := Option.bind_eq_some_iff.mp H
            try dsimp only at H
            have H' := Aside0.mk H
            clear H
            have hcall := laws_markIntS.calls k (fun k_ => W5.heap.size ≤ k_ ∧ k_ < W6.heap.size) (.slice A6_0 n6_0 c6_0) t166 1 t177 t178 w W14 HB.out HO6_0.out hm
            clear hm
            go_wp2_with fail
            refine hcall.mono ?_
            rintro e W16 ⟨rfl, ho, hb, hkp⟩
            clear hcall
            clear HB
            have HB := Aside0.mk hb
            have Z16 := Aside0.mk hkp.1
            have HO16 := Aside0.mk (Kd.R_reok rfl ho (fun k_ e_ => HO6_0.out.1 k_ e_))
            clear ho HO6_0
            have h_ := Go.Proofs.YtijhppbhaaikmaaM.S_else HO3_0.out hkp (by have := Z1.out; have := Z3.out; have := Z4.out; have := Z5.out; have := Z6.out; have := Z7.out; have := Z9.out; have := Z10.out; have := Z12.out; have := Z14.out; exact .inl (by omega))
            clear HO3_0
            have HO3_0 := Aside0.mk h_
            clear h_
            have h_ := Go.Proofs.YtijhppbhaaikmaaM.R_else HO4_0.out hkp (by have := Z1.out; have := Z3.out; have := Z4.out; have := Z5.out; have := Z6.out; have := Z7.out; have := Z9.out; have := Z10.out; have := Z12.out; have := Z14.out; exact .inl (by omega))
            clear HO4_0
            have HO4_0 := Aside0.mk h_
            clear h_
            have h_ := Go.Proofs.YtijhppbhaaikmaaM.S_else HO12.out hkp (by have := Z1.out; have := Z3.out; have := Z4.out; have := Z5.out; have := Z6.out; have := Z7.out; have := Z9.out; have := Z10.out; have := Z12.out; have := Z14.out; exact .inl (by omega))
            clear HO12
            have HO12 := Aside0.mk h_
            clear h_
            have h_ := Go.Proofs.YtijhppbhaaikmaaM.S_else HO9_0.out hkp (by have := Z1.out; have := Z3.out; have := Z4.out; have := Z5.out; have := Z6.out; have := Z7.out; have := Z9.out; have := Z10.out; have := Z12.out; have := Z14.out; exact .inr (by omega))
            clear HO9_0
            have HO9_0 := Aside0.mk h_
            clear h_
            clear hkp hb
            have H := H'.out
            clear H'
            obtain ⟨t179, hm, H⟩ := Option.bind_eq_some_iff.mp H
            try dsimp only at H
            have H' := Aside0.mk H
            clear H
            have hcall := laws_heldIntS.calls k _ _ t178 1 t179 W16 (Go.Proofs.YtijhppbhaaikmaaM.R_C HO16.out) (Go.Proofs.YtijhppbhaaikmaaM.R_len HO16.out) hm
            rw [Go.Proofs.YtijhppbhaaikmaaM.R_n HO16.out] at hcall
            clear hm
            go_wp2_with fail
            refine hcall.mono ?_
            rintro e W17 ⟨rfl, hd⟩
            clear hcall
            have hb : Below W16.heap.size W16 W17 := hd.below
            clear hd
            have Z17 := Aside0.mk hb.size
            have h_ := Kd.S_below HO3_0.out hb
            clear HO3_0
            have HO3_0 := Aside0.mk h_
            clear h_
            have h_ := Kd.R_below HO4_0.out hb
            clear HO4_0
            have HO4_0 := Aside0.mk h_
            clear h_
            have h_ := Kd.S_below HO12.out hb
            clear HO12
            have HO12 := Aside0.mk h_
            clear h_
            have h_ := Kd.R_below HO16.out hb
            clear HO16
            have HO16 := Aside0.mk h_
            clear h_
            have h_ := Kd.S_below HO9_0.out hb
            clear HO9_0
            have HO9_0 := Aside0.mk h_
            clear h_
            have hB_ := below_step HB.out hb
            clear HB hb
            have HB := Aside0.mk hB_
            clear hB_
            have H := H'.out
            clear H'
            by_cases c18 : t179 < 0
            · rw [if_pos c18] at H
              have c18_0 : decide (t179 < 0) = true := decide_eq_true c18
              clear c18
              obtain rfl := Option.some.inj H
              clear H
              go_wp2
              go_ret
              exact ⟨rfl, HB.out⟩
            · rw [if_neg c18] at H
              have c18_0 : decide (t179 < 0) = false := decide_eq_false c18
              clear c18
              by_cases c19 : t179 = t177
              · rw [if_pos c19] at H
                have c19_1 : (t179 == t177) = true := beq_iff_eq.mpr c19
                have c19_2 : (t179 != t177) = false := bne_eq_false_iff_eq.mpr c19
                have c19_0 : decide (t179 = t177) = true := decide_eq_true c19
                clear c19
                obtain ⟨t180, hm, H⟩ := Option.bind_eq_some_iff.mp H
                try dsimp only at H
                have H' := Aside0.mk H
                clear H
                have hcall := laws_toEmergencyS.calls k _ _ l0 t180 W17 (Kd.C_below HR0.out HB.out) HC0.out hm
                clear hm
                go_wp2_with fail
                refine hcall.mono ?_
                rintro e W20 ⟨v181, rfl, ho0, hb⟩
                clear hcall
                have Z20 := Aside0.mk hb.size
                have h_ := Kd.S_below HO3_0.out hb
                clear HO3_0
                have HO3_0 := Aside0.mk h_
                clear h_
                have h_ := Kd.R_below HO4_0.out hb
                clear HO4_0
                have HO4_0 := Aside0.mk h_
                clear h_
                have h_ := Kd.S_below HO12.out hb
                clear HO12
                have HO12 := Aside0.mk h_
                clear h_
                have h_ := Kd.R_below HO16.out hb
                clear HO16
                have HO16 := Aside0.mk h_
                clear h_
                have h_ := Kd.S_below HO9_0.out hb
                clear HO9_0
                have HO9_0 := Aside0.mk h_
                clear h_
                obtain ⟨A20_0, n20_0, c20_0, rfl, hn_, hr_⟩ := Go.Proofs.YtijhppbhaaikmaaM.S_made ho0 HB.out.size
                clear hn_ ho0
                have HO20_0 := Aside0.mk hr_
                clear hr_
                have hB_ := below_step HB.out hb
                clear HB hb
                have HB := Aside0.mk hB_
                clear hB_
                have H := H'.out
                clear H'
                obtain ⟨t183, hm, H⟩ := Option.bind_eq_some_iff.mp H
                try dsimp only at H
                have H' := Aside0.mk H
                clear H
                have hcall := impl_DebtsOf.calls k _ _ t180 a1 t183 W20 (Go.Proofs.YtijhppbhaaikmaaM.S_C HO20_0.out) (Go.Proofs.YtijhppbhaaikmaaM.S_len HO20_0.out) hm
                rw [Go.Proofs.YtijhppbhaaikmaaM.S_n HO20_0.out] at hcall
                clear hm
                go_wp2_with fail
                refine hcall.mono ?_
                rintro e W21 ⟨v184, rfl, ho0, hb⟩
                clear hcall
                have Z21 := Aside0.mk hb.size
                have h_ := Kd.S_below HO3_0.out hb
                clear HO3_0
                have HO3_0 := Aside0.mk h_
                clear h_
                have h_ := Kd.R_below HO4_0.out hb
                clear HO4_0
                have HO4_0 := Aside0.mk h_
                clear h_
                have h_ := Kd.S_below HO12.out hb
                clear HO12
                have HO12 := Aside0.mk h_
                clear h_
                have h_ := Kd.R_below HO16.out hb
                clear HO16
                have HO16 := Aside0.mk h_
                clear h_
                have h_ := Kd.S_below HO9_0.out hb
                clear HO9_0
                have HO9_0 := Aside0.mk h_
                clear h_
                have h_ := Kd.S_below HO20_0.out hb
                clear HO20_0
                have HO20_0 := Aside0.mk h_
                clear h_
                obtain ⟨A21_0, n21_0, c21_0, rfl, hn_, hr_⟩ := Go.Proofs.YtijhppbhaaikmaaM.R_made ho0 HB.out.size
                clear hn_ ho0
                have HO21_0 := Aside0.mk hr_
                clear hr_
                have hB_ := below_step HB.out hb
                clear HB hb
                have HB := Aside0.mk hB_
                clear hB_
                have H := H'.out
                clear H'
                obtain ⟨t186, hm, H⟩ := Option.bind_eq_some_iff.mp H
                try dsimp only at H
                have H' := Aside0.mk H
                clear H
                have hcall := laws_eqIntS.calls k _ _ t183 _ _ t160 t186 W21 (Go.Proofs.YtijhppbhaaikmaaM.R_C HO21_0.out) (Go.Proofs.YtijhppbhaaikmaaM.R_len HO21_0.out) (Go.Proofs.YtijhppbhaaikmaaM.R_C HO4_0.out) (Go.Proofs.YtijhppbhaaikmaaM.R_len HO4_0.out) hm
                rw [Go.Proofs.YtijhppbhaaikmaaM.R_n HO21_0.out, Go.Proofs.YtijhppbhaaikmaaM.R_n HO4_0.out] at hcall
                clear hm
                go_wp2_with fail
                refine hcall.mono ?_
                rintro e W22 ⟨rfl, hd⟩
                clear hcall
                have hb : Below W21.heap.size W21 W22 := hd.below
                clear hd
                have Z22 := Aside0.mk hb.size
                have h_ := Kd.S_below HO3_0.out hb
                clear HO3_0
                have HO3_0 := Aside0.mk h_
                clear h_
                have h_ := Kd.R_below HO4_0.out hb
                clear HO4_0
                have HO4_0 := Aside0.mk h_
                clear h_
                have h_ := Kd.S_below HO12.out hb
                clear HO12
                have HO12 := Aside0.mk h_
                clear h_
                have h_ := Kd.R_below HO16.out hb
                clear HO16
                have HO16 := Aside0.mk h_
                clear h_
                have h_ := Kd.S_below HO9_0.out hb
                clear HO9_0
                have HO9_0 := Aside0.mk h_
                clear h_
                have h_ := Kd.S_below HO20_0.out hb
                clear HO20_0
                have HO20_0 := Aside0.mk h_
                clear h_
                have h_ := Kd.R_below HO21_0.out hb
                clear HO21_0
                have HO21_0 := Aside0.mk h_
                clear h_
                have hB_ := below_step HB.out hb
                clear HB hb
                have HB := Aside0.mk hB_
                clear hB_
                have H := H'.out
                clear H'
                by_cases c23 : t186 = true
                · rw [if_pos c23] at H
                  subst c23
                  obtain ⟨t187, hm, H⟩ := Option.bind_eq_some_iff.mp H
                  try dsimp only at H
                  have H' := Aside0.mk H
                  clear H
                  have hcall := laws_heldIntS.calls k _ _ t178 1 t187 W22 (Go.Proofs.YtijhppbhaaikmaaM.R_C HO16.out) (Go.Proofs.YtijhppbhaaikmaaM.R_len HO16.out) hm
                  rw [Go.Proofs.YtijhppbhaaikmaaM.R_n HO16.out] at hcall
                  clear hm
                  go_wp2_with fail
                  refine hcall.mono ?_
                  rintro e W24 ⟨rfl, hd⟩
                  clear hcall
                  have hb : Below W22.heap.size W22 W24 := hd.below
                  clear hd
                  have Z24 := Aside0.mk hb.size
                  have h_ := Kd.S_below HO3_0.out hb
                  clear HO3_0
                  have HO3_0 := Aside0.mk h_
                  clear h_
                  have h_ := Kd.R_below HO4_0.out hb
                  clear HO4_0
                  have HO4_0 := Aside0.mk h_
                  clear h_
                  have h_ := Kd.S_below HO12.out hb
                  clear HO12
                  have HO12 := Aside0.mk h_
                  clear h_
                  have h_ := Kd.R_below HO16.out hb
                  clear HO16
                  have HO16 := Aside0.mk h_
                  clear h_
                  have h_ := Kd.S_below HO9_0.out hb
                  clear HO9_0
                  have HO9_0 := Aside0.mk h_
                  clear h_
                  have h_ := Kd.S_below HO20_0.out hb
                  clear HO20_0
                  have HO20_0 := Aside0.mk h_
                  clear h_
                  have h_ := Kd.R_below HO21_0.out hb
                  clear HO21_0
                  have HO21_0 := Aside0.mk h_
                  clear h_
                  have hB_ := below_step HB.out hb
                  clear HB hb
                  have HB := Aside0.mk hB_
                  clear hB_
                  have H := H'.out
                  clear H'
                  by_cases c25 : t187 < 0
                  · rw [if_pos c25] at H
                    have c25_0 : decide (t187 < 0) = true := decide_eq_true c25
                    clear c25
                    obtain rfl := Option.some.inj H
                    clear H
                    go_wp2
                    go_ret
                    exact ⟨rfl, HB.out⟩
                  · rw [if_neg c25] at H
                    have c25_0 : decide (t187 < 0) = false := decide_eq_false c25
                    clear c25
                    by_cases c26 : t187 = t177
                    · rw [if_pos c26] at H
                      have c26_1 : (t187 == t177) = true := beq_iff_eq.mpr c26
                      have c26_2 : (t187 != t177) = false := bne_eq_false_iff_eq.mpr c26
                      have c26_0 : decide (t187 = t177) = true := decide_eq_true c26
                      clear c26
                      obtain rfl := Option.some.inj H
                      clear H
                      go_wp2
                      go_ret
                      exact ⟨rfl, HB.out⟩
                    · rw [if_neg c26] at H
                      have c26_1 : (t187 == t177) = false := beq_eq_false_iff_ne.mpr c26
                      have c26_2 : (t187 != t177) = true := bne_iff_ne.mpr c26
                      have c26_0 : decide (t187 = t177) = false := decide_eq_false c26
                      clear c26
                      obtain rfl := Option.some.inj H
                      clear H
                      go_wp2
                      go_ret
                      exact ⟨rfl, HB.out⟩
                · rw [if_neg c23] at H
                  replace c23 : t186 = false := by simpa using c23
                  subst c23
                  obtain rfl := Option.some.inj H
                  clear H
                  go_wp2
                  go_ret
                  exact ⟨rfl, HB.out⟩
              · rw [if_neg c19] at H
                have c19_1 : (t179 == t177) = false := beq_eq_false_iff_ne.mpr c19
                have c19_2 : (t179 != t177) = true := bne_iff_ne.mpr c19
                have c19_0 : decide (t179 = t177) = false := decide_eq_false c19
                clear c19
                obtain rfl := Option.some.inj H
                clear H
                go_wp2
                go_ret
                exact ⟨rfl, HB.out⟩
          · rw [if_neg c15] at H
            replace c15 : t176 = false := by simpa using c15
            subst c15
            obtain rfl := Option.some.inj H
            clear H
            go_wp2
            go_ret
            exact ⟨rfl, HB.out⟩
      · rw [if_neg c11] at H
        replace c11 : t173 = false := by simpa using c11
        subst c11
        obtain rfl := Option.some.inj H
        clear H
        go_wp2
        go_ret
        exact ⟨rfl, HB.out⟩
    · rw [if_neg c8] at H
      replace c8 : t169 = false := by simpa using c8
      subst c8
      obtain rfl := Option.some.inj H
      clear H
      go_wp2
      go_ret
      exact ⟨rfl, HB.out⟩

section
open Go.Proofs.YtijhppbhaaikmaaO
def g121 (x : S121) : Prop := (Lit.int .i64 x.f0).wf = true ∧ (Lit.int .i64 x.f1).wf = true ∧ (Lit.int .i64 x.f2).wf = true ∧ (Lit.int .i64 x.f3).wf = true ∧ (x.f4.length ≤ maxLen ∧ ∀ y_ ∈ x.f4, (Lit.int .i64 y_).wf = true) ∧ True
theorem opens121 (n : Nat) : Opens Try.prog 121 k121 g121 n :=
  opens_imp (opens_iso (fun x : S121 => (x.f0, x.f1, x.f2, x.f3, x.f4, x.f5)) (fun x => (⟨x.1, x.2.1, x.2.2.1, x.2.2.2.1, x.2.2.2.2.1, x.2.2.2.2.2⟩ : S121)) (fun _ => rfl) (opens_struct Try.underlying121 (by kernel_rfl) fun m _ => (fields_cons rfl (by kernel_rfl) (opens_int Try.underlying3 m) (fields_cons rfl (by kernel_rfl) (opens_int Try.underlying3 m) (fields_cons rfl (by kernel_rfl) (opens_int Try.underlying3 m) (fields_cons rfl (by kernel_rfl) (opens_int Try.underlying3 m) (fields_cons rfl (by kernel_rfl) (opens_slice Try.underlying47 (by kernel_rfl) fun m _ => (opens_int Try.underlying3 m)) (fields_one rfl (by kernel_rfl) (opens_bool Try.underlying4 m))))))))) (fun _ h => h)
end
/-- What is left to show of laws_FnExactDebtsOf: over numbers and lists alone. -/
def laws_FnExactDebtsOf.Pure : Prop := ∀ (l0 : List (S121)) (a1 : Int), l0.length ≤ maxLen → (∀ y_ ∈ l0, g121 y_) → (Lit.int .i64 a1).wf = true → ∃ k, laws_FnExactDebtsOf.f k l0 a1 = some true

end Go.Proofs.Ytijhppbhaaikmaa.QFnExactDebtsOf
