/- The machine side of FnExactChainOf: what each function that it reaches computes, and that the machine's call gives just that. -/
import Derived.Test.YtoncnbcgpflhiaaQFnExactChainOfx0
import Derived.Test.YtoncnbcgpflhiaaQFnExactChainOfx1
import Derived.Test.YtoncnbcgpflhiaaQFnExactChainOfx2
import Derived.Test.YtoncnbcgpflhiaaQFnExactChainOfx4
import Derived.Test.YtoncnbcgpflhiaaQFnExactChainOfx5
namespace Go.Proofs.Ytoncnbcgpflhiaa.QFnExactChainOf
open Go.RowKit Go.Proofs.YtoncnbcgpflhiaaW.PrintWords Go.Proofs.YtoncnbcgpflhiaaW.PrintLast Go.Proofs.YtoncnbcgpflhiaaW.PrintMore
attribute [local go_sem] max2_int min2_int max_two min_two max_three min_three max_four min_four   -- for this text's walks alone
set_option linter.unusedVariables false
set_option linter.unusedSimpArgs false

/-! ### laws_FnExactChainOf: function 12 -/
def laws_FnExactChainOf.f (k : Nat) (l0 : List (S106)) (a1 : Int) : Option (Bool) := (laws_szGrantS.f k l0 1048576).bind fun t187 => (if t187 < 0 then (some true) else ((laws_toGrantS.f k l0).bind fun t188 => ((spec_ChainOf.f k t188 a1).bind fun t191 => ((laws_toGrantS.f k l0).bind fun t194 => ((impl_ChainOf.f k t194 a1).bind fun t197 => ((laws_eqIntS.f k t197 t191).bind fun t200 => (if t200 = true then ((laws_toGrantS.f k l0).bind fun t201 => ((laws_eqGrantS.f k t194 t201).bind fun t204 => (if t204 = true then ((laws_markGrantS.f k t194 1).bind fun bt205 => (if bt205.1 < 0 then (some false) else ((laws_eqIntS.f k t197 t191).bind fun t207 => (if t207 = true then ((laws_markIntS.f k t197 1).bind fun bt208 => ((laws_heldIntS.f k bt208.2 1).bind fun t210 => (if t210 < 0 then (some false) else (if t210 = bt208.1 then ((laws_toGrantS.f k l0).bind fun t211 => ((impl_ChainOf.f k t211 a1).bind fun t214 => ((laws_eqIntS.f k t214 t191).bind fun t217 => (if t217 = true then ((laws_heldIntS.f k bt208.2 1).bind fun t218 => (if t218 < 0 then (some false) else (if t218 = bt208.1 then (some true) else (some false)))) else (some false))))) else (some false))))) else (some false))))) else (some false)))) else (some false))))))))
theorem laws_FnExactChainOf.mono : ∀ a0 a1 k, LeO (laws_FnExactChainOf.f k a0 a1) (laws_FnExactChainOf.f (k + 1) a0 a1) := by
  intro a0 a1 k
  unfold laws_FnExactChainOf.f
  repeat' first
      | (with_reducible exact impl_ChainOf.mono _ _ _)
      | (with_reducible exact laws_eqGrantS.mono _ _ _)
      | (with_reducible exact laws_eqIntS.mono _ _ _)
      | (with_reducible exact laws_heldIntS.mono _ _ _)
      | (with_reducible exact laws_markGrantS.mono _ _ _)
      | (with_reducible exact laws_markIntS.mono _ _ _)
      | (with_reducible exact laws_szGrantS.mono _ _ _)
      | (with_reducible exact laws_toGrantS.mono _ _)
      | (with_reducible exact spec_ChainOf.mono _ _ _)
      | (with_reducible exact LeO.refl _)
      | (with_reducible exact LeO.none _)
      | (with_reducible refine LeO.ite ?_ ?_)
      | (with_reducible refine LeO.bind ?_ (fun _ => ?_))
      | exact impl_ChainOf.mono _ _ _
      | exact laws_eqGrantS.mono _ _ _
      | exact laws_eqIntS.mono _ _ _
      | exact laws_heldIntS.mono _ _ _
      | exact laws_markGrantS.mono _ _ _
      | exact laws_markIntS.mono _ _ _
      | exact laws_szGrantS.mono _ _ _
      | exact laws_toGrantS.mono _ _
      | exact spec_ChainOf.mono _ _ _
      | exact LeO.none _
      | refine LeO.ite ?_ ?_
      | refine LeO.bind ?_ (fun _ => ?_)
set_option maxHeartbeats 8000000 in
set_option maxRecDepth 100000 in
theorem laws_FnExactChainOf.calls (k : Nat) (A0 : Option Addr) (c0 : Nat) (l0 : List (S106)) (a1 : Int) (r : Bool) (w : World) (hr0 : Kd.C k106 w A0 l0.length l0) (hc0 : l0.length ≤ c0) (h : laws_FnExactChainOf.f k l0 a1 = some r) :
    Calls Try.prog 12 #[.slice A0 l0.length c0, .int .i64 a1] w fun e w' => e = .returned (.bool r) ∧ Below w.heap.size w w' := by
  have HR0 := Aside0.mk hr0
  have HC0 := Aside0.mk hc0
  clear hr0 hc0
  have HB := Aside0.mk (Below.refl w.heap.size w)
  have H := h
  clear h
  unfold laws_FnExactChainOf.f at H
  go_enter Try.func12, Try.ntmps12
  obtain ⟨t187, hm, H⟩ := Option.bind_eq_some_iff.mp H
  try dsimp only at H
  have H' := Aside0.mk H
  clear H
  have hcall := laws_szGrantS.calls k _ _ l0 1048576 t187 w (Kd.C_below HR0.out HB.out) HC0.out hm
  clear hm
  go_wp2_with fail
  refine hcall.mono ?_
  rintro e W1 ⟨rfl, hb⟩
  clear hcall
  have Z1 := Aside0.mk hb.size
  have hB_ := below_step HB.out hb
  clear HB hb
  have HB := Aside0.mk hB_
  clear hB_
  have H := H'.out
  clear H'
  by_cases c2 : t187 < 0
  · rw [if_pos c2] at H
    have c2_0 : decide (t187 < 0) = true := decide_eq_true c2
    clear c2
    obtain rfl := Option.some.inj H
    clear H
    go_wp2
    go_ret
    exact ⟨rfl, HB.out⟩
  · rw [if_neg c2] at H
    have c2_0 : decide (t187 < 0) = false := decide_eq_false c2
    clear c2
    obtain ⟨t188, hm, H⟩ := Option.bind_eq_some_iff.mp H
    try dsimp only at H
    have H' := Aside0.mk H
    clear H
    have hcall := laws_toGrantS.calls k _ _ l0 t188 W1 (Kd.C_below HR0.out HB.out) HC0.out hm
    clear hm
    go_wp2_with fail
    refine hcall.mono ?_
    rintro e W3 ⟨v189, rfl, ho0, hb⟩
    clear hcall
    have Z3 := Aside0.mk hb.size
    obtain ⟨A3_0, n3_0, c3_0, rfl, hn_, hr_⟩ := Go.Proofs.YtoncnbcgpflhiaaM.S_made ho0 HB.out.size
    clear hn_ ho0
    have HO3_0 := Aside0.mk hr_
    clear hr_
    have hB_ := below_step HB.out hb
    clear HB hb
    have HB := Aside0.mk hB_
    clear hB_
    have H := H'.out
    clear H'
    obtain ⟨t191, hm, H⟩ := Option.bind_eq_some_iff.mp H
    try dsimp only at H
    have H' := Aside0.mk H
    clear H
    have hcall := spec_ChainOf.calls k _ _ t188 a1 t191 W3 (Go.Proofs.YtoncnbcgpflhiaaM.S_C HO3_0.out) (Go.Proofs.YtoncnbcgpflhiaaM.S_len HO3_0.out) hm
    rw [Go.Proofs.YtoncnbcgpflhiaaM.S_n HO3_0.out] at hcall
    clear hm
    go_wp2_with fail
    refine hcall.mono ?_
    rintro e W4 ⟨v192, rfl, ho0, hb⟩
    clear hcall
    have Z4 := Aside0.mk hb.size
    have h_ := Kd.S_below HO3_0.out hb
    clear HO3_0
    have HO3_0 := Aside0.mk h_
    clear h_
    obtain ⟨A4_0, n4_0, c4_0, rfl, hn_, hr_⟩ := Go.Proofs.YtoncnbcgpflhiaaM.R_made ho0 HB.out.size
    clear hn_ ho0
    have HO4_0 := Aside0.mk hr_
    clear hr_
    have hB_ := below_step HB.out hb
    clear HB hb
    have HB := Aside0.mk hB_
    clear hB_
    have H := H'.out
    clear H'
    obtain ⟨t194, hm, H⟩ := Option.bind_eq_some_iff.mp H
    try dsimp only at H
    have H' := Aside0.mk H
    clear H
    have hcall := laws_toGrantS.calls k _ _ l0 t194 W4 (Kd.C_below HR0.out HB.out) HC0.out hm
    clear hm
    go_wp2_with fail
    refine hcall.mono ?_
    rintro e W5 ⟨v195, rfl, ho0, hb⟩
    clear hcall
    have Z5 := Aside0.mk hb.size
    have h_ := Kd.S_below HO3_0.out hb
    clear HO3_0
    have HO3_0 := Aside0.mk h_
    clear h_
    have h_ := Kd.R_below HO4_0.out hb
    clear HO4_0
    have HO4_0 := Aside0.mk h_
    clear h_
    obtain ⟨A5_0, n5_0, c5_0, rfl, hn_, hr_⟩ := Go.Proofs.YtoncnbcgpflhiaaM.S_made ho0 HB.out.size
    clear hn_ ho0
    have HO5_0 := Aside0.mk hr_
    clear hr_
    have hB_ := below_step HB.out hb
    clear HB hb
    have HB := Aside0.mk hB_
    clear hB_
    have H := H'.out
    clear H'
    obtain ⟨t197, hm, H⟩ := Option.bind_eq_some_iff.mp H
    try dsimp only at H
    have H' := Aside0.mk H
    clear H
    have hcall := impl_ChainOf.calls k _ _ t194 a1 t197 W5 (Go.Proofs.YtoncnbcgpflhiaaM.S_C HO5_0.out) (Go.Proofs.YtoncnbcgpflhiaaM.S_len HO5_0.out) hm
    rw [Go.Proofs.YtoncnbcgpflhiaaM.S_n HO5_0.out] at hcall
    clear hm
    go_wp2_with fail
    refine hcall.mono ?_
    rintro e W6 ⟨v198, rfl, ho0, hb⟩
    clear hcall
    have Z6 := Aside0.mk hb.size
    have h_ := Kd.S_below HO3_0.out hb
    clear HO3_0
    have HO3_0 := Aside0.mk h_
    clear h_
    have h_ := Kd.R_below HO4_0.out hb
    clear HO4_0
    have HO4_0 := Aside0.mk h_
    clear h_
    have h_ := Kd.S_below HO5_0.out hb
    clear HO5_0
    have HO5_0 := Aside0.mk h_
    clear h_
    obtain ⟨A6_0, n6_0, c6_0, rfl, hn_, hr_⟩ := Go.Proofs.YtoncnbcgpflhiaaM.R_made ho0 HB.out.size
    clear hn_ ho0
    have HO6_0 := Aside0.mk hr_
    clear hr_
    have hB_ := below_step HB.out hb
    clear HB hb
    have HB := Aside0.mk hB_
    clear hB_
    have H := H'.out
    clear H'
    obtain ⟨t200, hm, H⟩ := Option.bind_eq_some_iff.mp H
    try dsimp only at H
    have H' := Aside0.mk H
    clear H
    have hcall := laws_eqIntS.calls k _ _ t197 _ _ t191 t200 W6 (Go.Proofs.YtoncnbcgpflhiaaM.R_C HO6_0.out) (Go.Proofs.YtoncnbcgpflhiaaM.R_len HO6_0.out) (Go.Proofs.YtoncnbcgpflhiaaM.R_C HO4_0.out) (Go.Proofs.YtoncnbcgpflhiaaM.R_len HO4_0.out) hm
    rw [Go.Proofs.YtoncnbcgpflhiaaM.R_n HO6_0.out, Go.Proofs.YtoncnbcgpflhiaaM.R_n HO4_0.out] at hcall
    clear hm
    go_wp2_with fail
    refine hcall.mono ?_
    rintro e W7 ⟨rfl, hd⟩
    clear hcall
    have hb : Below W6.heap.size W6 W7 := hd.below
    clear hd
    have Z7 := Aside0.mk hb.size
    have h_ := Kd.S_below HO3_0.out hb
    clear HO3_0
    have HO3_0 := Aside0.mk h_
    clear h_
    have h_ := Kd.R_below HO4_0.out hb
    clear HO4_0
    have HO4_0 := Aside0.mk h_
    clear h_
    have h_ := Kd.S_below HO5_0.out hb
    clear HO5_0
    have HO5_0 := Aside0.mk h_
    clear h_
    have h_ := Kd.R_below HO6_0.out hb
    clear HO6_0
    have HO6_0 := Aside0.mk h_
    clear h_
    have hB_ := below_step HB.out hb
    clear HB hb
    have HB := Aside0.mk hB_
    clear hB_
    have H := H'.out
    clear H'
    by_cases c8 : t200 = true
    · rw [if_pos c8] at H
      subst c8
      obtain ⟨t201, hm, H⟩ := Option.bind_eq_some_iff.mp H
      try dsimp only at H
      have H' := Aside0.mk H
      clear H
      have hcall := laws_toGrantS.calls k _ _ l0 t201 W7 (Kd.C_below HR0.out HB.out) HC0.out hm
      clear hm
      go_wp2_with fail
      refine hcall.mono ?_
      rintro e W9 ⟨v202, rfl, ho0, hb⟩
      clear hcall
      have Z9 := Aside0.mk hb.size
      have h_ := Kd.S_below HO3_0.out hb
      clear HO3_0
      have HO3_0 := Aside0.mk h_
      clear h_
      have h_ := Kd.R_below HO4_0.out hb
      clear HO4_0
      have HO4_0 := Aside0.mk h_
      clear h_
      have h_ := Kd.S_below HO5_0.out hb
      clear HO5_0
      have HO5_0 := Aside0.mk h_
      clear h_
      have h_ := Kd.R_below HO6_0.out hb
      clear HO6_0
      have HO6_0 := Aside0.mk h_
      clear h_
      obtain ⟨A9_0, n9_0, c9_0, rfl, hn_, hr_⟩ := Go.Proofs.YtoncnbcgpflhiaaM.S_made ho0 HB.out.size
      clear hn_ ho0
      have HO9_0 := Aside0.mk hr_
      clear hr_
      have hB_ := below_step HB.out hb
      clear HB hb
      have HB := Aside0.mk hB_
      clear hB_
      have H := H'.out
      clear H'
      obtain ⟨t204, hm, H⟩ := Option.bind_eq_some_iff.mp H
      try dsimp only at H
      have H' := Aside0.mk H
      clear H
      have hcall := laws_eqGrantS.calls k _ _ t194 _ _ t201 t204 W9 (Go.Proofs.YtoncnbcgpflhiaaM.S_C HO5_0.out) (Go.Proofs.YtoncnbcgpflhiaaM.S_len HO5_0.out) (Go.Proofs.YtoncnbcgpflhiaaM.S_C HO9_0.out) (Go.Proofs.YtoncnbcgpflhiaaM.S_len HO9_0.out) hm
      rw [Go.Proofs.YtoncnbcgpflhiaaM.S_n HO5_0.out, Go.Proofs.YtoncnbcgpflhiaaM.S_n HO9_0.out] at hcall
      clear hm
      go_wp2_with fail
      refine hcall.mono ?_
      rintro e W10 ⟨rfl, hb⟩
      clear hcall
      have Z10 := Aside0.mk hb.size
      have h_ := Kd.S_below HO3_0.out hb
      clear HO3_0
      have HO3_0 := Aside0.mk h_
      clear h_
      have h_ := Kd.R_below HO4_0.out hb
      clear HO4_0
      have HO4_0 := Aside0.mk h_
      clear h_
      have h_ := Kd.S_below HO5_0.out hb
      clear HO5_0
      have HO5_0 := Aside0.mk h_
      clear h_
      have h_ := Kd.R_below HO6_0.out hb
      clear HO6_0
      have HO6_0 := Aside0.mk h_
      clear h_
      have h_ := Kd.S_below HO9_0.out hb
      clear HO9_0
      have HO9_0 := Aside0.mk h_
      clear h_
      have hB_ := below_step HB.out hb
      clear HB hb
      have HB := Aside0.mk hB_
      clear hB_
      have H := H'.out
      clear H'
      by_cases c11 : t204 = true
      · rw [if_pos c11] at H
        subst c11
        obtain ⟨⟨t205, t206⟩, hm, H⟩ := Option.bind_eq_some_iff.mp H
        try dsimp only at H
        have H' := Aside0.mk H
        clear H
        have hcall := laws_markGrantS.calls k (fun k_ => W4.heap.size ≤ k_ ∧ k_ < W5.heap.size) A5_0 n5_0 c5_0 t194 1 t205 t206 w W10 HB.out HO5_0.out hm
        clear hm
        go_wp2_with fail
        refine hcall.mono ?_
        rintro e W12 ⟨rfl, ho, hb, hkp⟩
        clear hcall
        clear HB
        have HB := Aside0.mk hb
        have Z12 := Aside0.mk hkp.1
        have HO12 := Aside0.mk (ho)
        clear ho HO5_0
        have h_ := Go.Proofs.YtoncnbcgpflhiaaM.S_else HO3_0.out hkp (by have := Z1.out; have := Z3.out; have := Z4.out; have := Z5.out; have := Z6.out; have := Z7.out; have := Z9.out; have := Z10.out; exact .inl (by omega))
        clear HO3_0
        have HO3_0 := Aside0.mk h_
        clear h_
        have h_ := Go.Proofs.YtoncnbcgpflhiaaM.R_else HO4_0.out hkp (by have := Z1.out; have := Z3.out; have := Z4.out; have := Z5.out; have := Z6.out; have := Z7.out; have := Z9.out; have := Z10.out; exact .inl (by omega))
        clear HO4_0
        have HO4_0 := Aside0.mk h_
        clear h_
        have h_ := Go.Proofs.YtoncnbcgpflhiaaM.R_else HO6_0.out hkp (by have := Z1.out; have := Z3.out; have := Z4.out; have := Z5.out; have := Z6.out; have := Z7.out; have := Z9.out; have := Z10.out; exact .inr (by omega))
        clear HO6_0
        have HO6_0 := Aside0.mk h_
        clear h_
        have h_ := Go.Proofs.YtoncnbcgpflhiaaM.S_else HO9_0.out hkp (by have := Z1.out; have := Z3.out; have := Z4.out; have := Z5.out; have := Z6.out; have := Z7.out; have := Z9.out; have := Z10.out; exact .inr (by omega))
        clear HO9_0
        have HO9_0 := Aside0.mk h_
        clear h_
        clear hkp hb
        have H := H'.out
        clear H'
        by_cases c13 : t205 < 0
        · rw [if_pos c13] at H
          have c13_0 : decide (t205 < 0) = true := decide_eq_true c13
          clear c13
          obtain rfl := Option.some.inj H
          clear H
          go_wp2
          go_ret
          exact ⟨rfl, HB.out⟩
        · rw [if_neg c13] at H
          have c13_0 : decide (t205 < 0) = false := decide_eq_false c13
          clear c13
          obtain ⟨t207, hm, H⟩ := Option.bind_eq_some_iff.mp H
          try dsimp only at H
          have H' := Aside0.mk H
          clear H
          have hcall := laws_eqIntS.calls k _ _ t197 _ _ t191 t207 W12 (Go.Proofs.YtoncnbcgpflhiaaM.R_C HO6_0.out) (Go.Proofs.YtoncnbcgpflhiaaM.R_len HO6_0.out) (Go.Proofs.YtoncnbcgpflhiaaM.R_C HO4_0.out) (Go.Proofs.YtoncnbcgpflhiaaM.R_len HO4_0.out) hm
          rw [Go.Proofs.YtoncnbcgpflhiaaM.R_n HO6_0.out, Go.Proofs.YtoncnbcgpflhiaaM.R_n HO4_0.out] at hcall
          clear hm
          go_wp2_with fail
          refine hcall.mono ?_
          rintro e W14 ⟨rfl, hd⟩
          clear hcall
          have hb : Below W12.heap.size W12 W14 := hd.below
          clear hd
          have Z14 := Aside0.mk hb.size
          have h_ := Kd.S_below HO3_0.out hb
          clear HO3_0
          have HO3_0 := Aside0.mk h_
          clear h_
          have h_ := Kd.R_below HO4_0.out hb
          clear HO4_0
          have HO4_0 := Aside0.mk h_
          clear h_
          have h_ := Kd.S_below HO12.out hb
          clear HO12
          have HO12 := Aside0.mk h_
          clear h_
          have h_ := Kd.R_below HO6_0.out hb
          clear HO6_0
          have HO6_0 := Aside0.mk h_
          clear h_
          have h_ := Kd.S_below HO9_0.out hb
          clear HO9_0
          have HO9_0 := Aside0.mk h_
          clear h_
          have hB_ := below_step HB.out hb
          clear HB hb
          have HB := Aside0.mk hB_
          clear hB_
          have H := H'.out
          clear H'
          by_cases c15 : t207 = true
          · rw [if_pos c15] at H
            subst c15
            obtain ⟨⟨t208, t209⟩, hm, H⟩ := Option.bind_eq_some_iff.mp H
            try dsimp only at H
            have H' := Aside0.mk H
            clear H
            have hcall := laws_markIntS.calls k (fun k_ => W5.heap.size ≤ k_ ∧ k_ < W6.heap.size) (.slice A6_0 n6_0 c6_0) t197 1 t208 t209 w W14 HB.out HO6_0.out hm
            clear hm
            go_wp2_with fail
            refine hcall.mono ?_
            rintro e W16 ⟨rfl, ho, hb, hkp⟩
            clear hcall
            clear HB
            have HB := Aside0.mk hb
            have Z16 := Aside0.mk hkp.1
            have HO16 := Aside0.mk (Kd.R_reok rfl ho (fun k_ e_ => HO6_0.out.1 k_ e_))
            clear ho HO6_0
            have h_ := Go.Proofs.YtoncnbcgpflhiaaM.S_else HO3_0.out hkp (by have := Z1.out; have := Z3.out; have := Z4.out; have := Z5.out; have := Z6.out; have := Z7.out; have := Z9.out; have := Z10.out; have := Z12.out; have := Z14.out; exact .inl (by omega))
            clear HO3_0
            have HO3_0 := Aside0.mk h_
            clear h_
            have h_ := Go.Proofs.YtoncnbcgpflhiaaM.R_else HO4_0.out hkp (by have := Z1.out; have := Z3.out; have := Z4.out; have := Z5.out; have := Z6.out; have := Z7.out; have := Z9.out; have := Z10.out; have := Z12.out; have := Z14.out; exact .inl (by omega))
            clear HO4_0
            have HO4_0 := Aside0.mk h_
            clear h_
            have h_ := Go.Proofs.YtoncnbcgpflhiaaM.S_else HO12.out hkp (by have := Z1.out; have := Z3.out; have := Z4.out; have := Z5.out; have := Z6.out; have := Z7.out; have := Z9.out; have := Z10.out; have := Z12.out; have := Z14.out; exact .inl (by omega))
            clear HO12
            have HO12 := Aside0.mk h_
            clear h_
            have h_ := Go.Proofs.YtoncnbcgpflhiaaM.S_else HO9_0.out hkp (by have := Z1.out; have := Z3.out; have := Z4.out; have := Z5.out; have := Z6.out; have := Z7.out; have := Z9.out; have := Z10.out; have := Z12.out; have := Z14.out; exact .inr (by omega))
            clear HO9_0
            have HO9_0 := Aside0.mk h_
            clear h_
            clear hkp hb
            have H := H'.out
            clear H'
            obtain ⟨t210, hm, H⟩ := Option.bind_eq_some_iff.mp H
            try dsimp only at H
            have H' := Aside0.mk H
            clear H
            have hcall := laws_heldIntS.calls k _ _ t209 1 t210 W16 (Go.Proofs.YtoncnbcgpflhiaaM.R_C HO16.out) (Go.Proofs.YtoncnbcgpflhiaaM.R_len HO16.out) hm
            rw [Go.Proofs.YtoncnbcgpflhiaaM.R_n HO16.out] at hcall
            clear hm
            go_wp2_with fail
            refine hcall.mono ?_
            rintro e W17 ⟨rfl, hd⟩
            clear hcall
            have hb : Below W16.heap.size W16 W17 := hd.below
            clear hd
            have Z17 := Aside0.mk hb.size
            have h_ := Kd.S_below HO3_0.out hb
            clear HO3_0
            have HO3_0 := Aside0.mk h_
            clear h_
            have h_ := Kd.R_below HO4_0.out hb
            clear HO4_0
            have HO4_0 := Aside0.mk h_
            clear h_
            have h_ := Kd.S_below HO12.out hb
            clear HO12
            have HO12 := Aside0.mk h_
            clear h_
            have h_ := Kd.R_below HO16.out hb
            clear HO16
            have HO16 := Aside0.mk h_
            clear h_
            have h_ := Kd.S_below HO9_0.out hb
            clear HO9_0
            have HO9_0 := Aside0.mk h_
            clear h_
            have hB_ := below_step HB.out hb
            clear HB hb
            have HB := Aside0.mk hB_
            clear hB_
            have H := H'.out
            clear H'
            by_cases c18 : t210 < 0
            · rw [if_pos c18] at H
              have c18_0 : decide (t210 < 0) = true := decide_eq_true c18
              clear c18
              obtain rfl := Option.some.inj H
              clear H
              go_wp2
              go_ret
              exact ⟨rfl, HB.out⟩
            · rw [if_neg c18] at H
              have c18_0 : decide (t210 < 0) = false := decide_eq_false c18
              clear c18
              by_cases c19 : t210 = t208
              · rw [if_pos c19] at H
                have c19_1 : (t210 == t208) = true := beq_iff_eq.mpr c19
                have c19_2 : (t210 != t208) = false := bne_eq_false_iff_eq.mpr c19
                have c19_0 : decide (t210 = t208) = true := decide_eq_true c19
                clear c19
                obtain ⟨t211, hm, H⟩ := Option.bind_eq_some_iff.mp H
                try dsimp only at H
                have H' := Aside0.mk H
                clear H
                have hcall := laws_toGrantS.calls k _ _ l0 t211 W17 (Kd.C_below HR0.out HB.out) HC0.out hm
                clear hm
                go_wp2_with fail
                refine hcall.mono ?_
                rintro e W20 ⟨v212, rfl, ho0, hb⟩
                clear hcall
                have Z20 := Aside0.mk hb.size
                have h_ := Kd.S_below HO3_0.out hb
                clear HO3_0
                have HO3_0 := Aside0.mk h_
                clear h_
                have h_ := Kd.R_below HO4_0.out hb
                clear HO4_0
                have HO4_0 := Aside0.mk h_
                clear h_
                have h_ := Kd.S_below HO12.out hb
                clear HO12
                have HO12 := Aside0.mk h_
                clear h_
                have h_ := Kd.R_below HO16.out hb
                clear HO16
                have HO16 := Aside0.mk h_
                clear h_
                have h_ := Kd.S_below HO9_0.out hb
                clear HO9_0
                have HO9_0 := Aside0.mk h_
                clear h_
                obtain ⟨A20_0, n20_0, c20_0, rfl, hn_, hr_⟩ := Go.Proofs.YtoncnbcgpflhiaaM.S_made ho0 HB.out.size
                clear hn_ ho0
                have HO20_0 := Aside0.mk hr_
                clear hr_
                have hB_ := below_step HB.out hb
                clear HB hb
                have HB := Aside0.mk hB_
                clear hB_
                have H := H'.out
                clear H'
                obtain ⟨t214, hm, H⟩ := Option.bind_eq_some_iff.mp H
                try dsimp only at H
                have H' := Aside0.mk H
                clear H
                have hcall := impl_ChainOf.calls k _ _ t211 a1 t214 W20 (Go.Proofs.YtoncnbcgpflhiaaM.S_C HO20_0.out) (Go.Proofs.YtoncnbcgpflhiaaM.S_len HO20_0.out) hm
                rw [Go.Proofs.YtoncnbcgpflhiaaM.S_n HO20_0.out] at hcall
                clear hm
                go_wp2_with fail
                refine hcall.mono ?_
                rintro e W21 ⟨v215, rfl, ho0, hb⟩
                clear hcall
                have Z21 := Aside0.mk hb.size
                have h_ := Kd.S_below HO3_0.out hb
                clear HO3_0
                have HO3_0 := Aside0.mk h_
                clear h_
                have h_ := Kd.R_below HO4_0.out hb
                clear HO4_0
                have HO4_0 := Aside0.mk h_
                clear h_
                have h_ := Kd.S_below HO12.out hb
                clear HO12
                have HO12 := Aside0.mk h_
                clear h_
                have h_ := Kd.R_below HO16.out hb
                clear HO16
                have HO16 := Aside0.mk h_
                clear h_
                have h_ := Kd.S_below HO9_0.out hb
                clear HO9_0
                have HO9_0 := Aside0.mk h_
                clear h_
                have h_ := Kd.S_below HO20_0.out hb
                clear HO20_0
                have HO20_0 := Aside0.mk h_
                clear h_
                obtain ⟨A21_0, n21_0, c21_0, rfl, hn_, hr_⟩ := Go.Proofs.YtoncnbcgpflhiaaM.R_made ho0 HB.out.size
                clear hn_ ho0
                have HO21_0 := Aside0.mk hr_
                clear hr_
                have hB_ := below_step HB.out hb
                clear HB hb
                have HB := Aside0.mk hB_
                clear hB_
                have H := H'.out
                clear H'
                obtain ⟨t217, hm, H⟩ := Option.bind_eq_some_iff.mp H
                try dsimp only at H
                have H' := Aside0.mk H
                clear H
                have hcall := laws_eqIntS.calls k _ _ t214 _ _ t191 t217 W21 (Go.Proofs.YtoncnbcgpflhiaaM.R_C HO21_0.out) (Go.Proofs.YtoncnbcgpflhiaaM.R_len HO21_0.out) (Go.Proofs.YtoncnbcgpflhiaaM.R_C HO4_0.out) (Go.Proofs.YtoncnbcgpflhiaaM.R_len HO4_0.out) hm
                rw [Go.Proofs.YtoncnbcgpflhiaaM.R_n HO21_0.out, Go.Proofs.YtoncnbcgpflhiaaM.R_n HO4_0.out] at hcall
                clear hm
                go_wp2_with fail
                refine hcall.mono ?_
                rintro e W22 ⟨rfl, hd⟩
                clear hcall
                have hb : Below W21.heap.size W21 W22 := hd.below
                clear hd
                have Z22 := Aside0.mk hb.size
                have h_ := Kd.S_below HO3_0.out hb
                clear HO3_0
                have HO3_0 := Aside0.mk h_
                clear h_
                have h_ := Kd.R_below HO4_0.out hb
                clear HO4_0
                have HO4_0 := Aside0.mk h_
                clear h_
                have h_ := Kd.S_below HO12.out hb
                clear HO12
                have HO12 := Aside0.mk h_
                clear h_
                have h_ := Kd.R_below HO16.out hb
                clear HO16
                have HO16 := Aside0.mk h_
                clear h_
                have h_ := Kd.S_below HO9_0.out hb
                clear HO9_0
                have HO9_0 := Aside0.mk h_
                clear h_
                have h_ := Kd.S_below HO20_0.out hb
                clear HO20_0
                have HO20_0 := Aside0.mk h_
                clear h_
                have h_ := Kd.R_below HO21_0.out hb
                clear HO21_0
                have HO21_0 := Aside0.mk h_
                clear h_
                have hB_ := below_step HB.out hb
                clear HB hb
                have HB := Aside0.mk hB_
                clear hB_
                have H := H'.out
                clear H'
                by_cases c23 : t217 = true
                · rw [if_pos c23] at H
                  subst c23
                  obtain ⟨t218, hm, H⟩ := Option.bind_eq_some_iff.mp H
                  try dsimp only at H
                  have H' := Aside0.mk H
                  clear H
                  have hcall := laws_heldIntS.calls k _ _ t209 1 t218 W22 (Go.Proofs.YtoncnbcgpflhiaaM.R_C HO16.out) (Go.Proofs.YtoncnbcgpflhiaaM.R_len HO16.out) hm
                  rw [Go.Proofs.YtoncnbcgpflhiaaM.R_n HO16.out] at hcall
                  clear hm
                  go_wp2_with fail
                  refine hcall.mono ?_
                  rintro e W24 ⟨rfl, hd⟩
                  clear hcall
                  have hb : Below W22.heap.size W22 W24 := hd.below
                  clear hd
                  have Z24 := Aside0.mk hb.size
                  have h_ := Kd.S_below HO3_0.out hb
                  clear HO3_0
                  have HO3_0 := Aside0.mk h_
                  clear h_
                  have h_ := Kd.R_below HO4_0.out hb
                  clear HO4_0
                  have HO4_0 := Aside0.mk h_
                  clear h_
                  have h_ := Kd.S_below HO12.out hb
                  clear HO12
                  have HO12 := Aside0.mk h_
                  clear h_
                  have h_ := Kd.R_below HO16.out hb
                  clear HO16
                  have HO16 := Aside0.mk h_
                  clear h_
                  have h_ := Kd.S_below HO9_0.out hb
                  clear HO9_0
                  have HO9_0 := Aside0.mk h_
                  clear h_
                  have h_ := Kd.S_below HO20_0.out hb
                  clear HO20_0
                  have HO20_0 := Aside0.mk h_
                  clear h_
                  have h_ := Kd.R_below HO21_0.out hb
                  clear HO21_0
                  have HO21_0 := Aside0.mk h_
                  clear h_
                  have hB_ := below_step HB.out hb
                  clear HB hb
                  have HB := Aside0.mk hB_
                  clear hB_
                  have H := H'.out
                  clear H'
                  by_cases c25 : t218 < 0
                  · rw [if_pos c25] at H
                    have c25_0 : decide (t218 < 0) = true := decide_eq_true c25
                    clear c25
                    obtain rfl := Option.some.inj H
                    clear H
                    go_wp2
                    go_ret
                    exact ⟨rfl, HB.out⟩
                  · rw [if_neg c25] at H
                    have c25_0 : decide (t218 < 0) = false := decide_eq_false c25
                    clear c25
                    by_cases c26 : t218 = t208
                    · rw [if_pos c26] at H
                      have c26_1 : (t218 == t208) = true := beq_iff_eq.mpr c26
                      have c26_2 : (t218 != t208) = false := bne_eq_false_iff_eq.mpr c26
                      have c26_0 : decide (t218 = t208) = true := decide_eq_true c26
                      clear c26
                      obtain rfl := Option.some.inj H
                      clear H
                      go_wp2
                      go_ret
                      exact ⟨rfl, HB.out⟩
                    · rw [if_neg c26] at H
                      have c26_1 : (t218 == t208) = false := beq_eq_false_iff_ne.mpr c26
                      have c26_2 : (t218 != t208) = true := bne_iff_ne.mpr c26
                      have c26_0 : decide (t218 = t208) = false := decide_eq_false c26
                      clear c26
                      obtain rfl := Option.some.inj H
                      clear H
                      go_wp2
                      go_ret
                      exact ⟨rfl, HB.out⟩
                · rw [if_neg c23] at H
                  replace c23 : t217 = false := by simpa using c23
                  subst c23
                  obtain rfl := Option.some.inj H
                  clear H
                  go_wp2
                  go_ret
                  exact ⟨rfl, HB.out⟩
              · rw [if_neg c19] at H
                have c19_1 : (t210 == t208) = false := beq_eq_false_iff_ne.mpr c19
                have c19_2 : (t210 != t208) = true := bne_iff_ne.mpr c19
                have c19_0 : decide (t210 = t208) = false := decide_eq_false c19
                clear c19
                obtain rfl := Option.some.inj H
                clear H
                go_wp2
                go_ret
                exact ⟨rfl, HB.out⟩
          · rw [if_neg c15] at H
            replace c15 : t207 = false := by simpa using c15
            subst c15
            obtain rfl := Option.some.inj H
            clear H
            go_wp2
            go_ret
            exact ⟨rfl, HB.out⟩
      · rw [if_neg c11] at H
        replace c11 : t204 = false := by simpa using c11
        subst c11
        obtain rfl := Option.some.inj H
        clear H
        go_wp2
        go_ret
        exact ⟨rfl, HB.out⟩
    · rw [if_neg c8] at H
      replace c8 : t200 = false := by simpa using c8
      subst c8
      obtain rfl := Option.some.inj H
      clear H
      go_wp2
      go_ret
      exact ⟨rfl, HB.out⟩

section
open Go.Proofs.YtoncnbcgpflhiaaO
def g106 (x : S106) : Prop := (Lit.int .i64 x.f0).wf = true ∧ (Lit.int .i64 x.f1).wf = true ∧ (Lit.int .i64 x.f2).wf = true ∧ (x.f3.length ≤ maxLen ∧ ∀ y_ ∈ x.f3, (Lit.int .i64 y_).wf = true) ∧ (Lit.int .i64 x.f4).wf = true ∧ (Lit.int .i64 x.f5).wf = true ∧ True
theorem opens106 (n : Nat) : Opens Try.prog 106 k106 g106 n :=
  opens_imp (opens_iso (fun x : S106 => (x.f0, x.f1, x.f2, x.f3, x.f4, x.f5, x.f6)) (fun x => (⟨x.1, x.2.1, x.2.2.1, x.2.2.2.1, x.2.2.2.2.1, x.2.2.2.2.2.1, x.2.2.2.2.2.2⟩ : S106)) (fun _ => rfl) (opens_struct Try.underlying106 (by kernel_rfl) fun m _ => (fields_cons rfl (by kernel_rfl) (opens_int Try.underlying3 m) (fields_cons rfl (by kernel_rfl) (opens_int Try.underlying3 m) (fields_cons rfl (by kernel_rfl) (opens_int Try.underlying3 m) (fields_cons rfl (by kernel_rfl) (opens_slice Try.underlying77 (by kernel_rfl) fun m _ => (opens_int Try.underlying3 m)) (fields_cons rfl (by kernel_rfl) (opens_int Try.underlying3 m) (fields_cons rfl (by kernel_rfl) (opens_int Try.underlying3 m) (fields_one rfl (by kernel_rfl) (opens_bool Try.underlying4 m)))))))))) (fun _ h => h)
end
/-- What is left to show of laws_FnExactChainOf: over numbers and lists alone. -/
def laws_FnExactChainOf.Pure : Prop := ∀ (l0 : List (S106)) (a1 : Int), l0.length ≤ maxLen → (∀ y_ ∈ l0, g106 y_) → (Lit.int .i64 a1).wf = true → ∃ k, laws_FnExactChainOf.f k l0 a1 = some true

end Go.Proofs.Ytoncnbcgpflhiaa.QFnExactChainOf
