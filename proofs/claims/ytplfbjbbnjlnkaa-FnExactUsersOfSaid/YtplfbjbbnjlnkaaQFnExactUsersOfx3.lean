/- The machine side of FnExactUsersOf: what each function that it reaches computes, and that the machine's call gives just that. -/
import Derived.Test.YtplfbjbbnjlnkaaQFnExactUsersOfx0
import Derived.Test.YtplfbjbbnjlnkaaQFnExactUsersOfx1
import Derived.Test.YtplfbjbbnjlnkaaQFnExactUsersOfx2
namespace Go.Proofs.Ytplfbjbbnjlnkaa.QFnExactUsersOf
open Go.RowKit Go.Proofs.YtplfbjbbnjlnkaaW.PrintWords Go.Proofs.YtplfbjbbnjlnkaaW.PrintLast Go.Proofs.YtplfbjbbnjlnkaaW.PrintMore
attribute [local go_sem] max2_int min2_int max_two min_two max_three min_three max_four min_four   -- for this text's walks alone
set_option linter.unusedVariables false
set_option linter.unusedSimpArgs false

/-! ### laws_FnExactUsersOf: function 13 -/
def laws_FnExactUsersOf.f (k : Nat) (l0 : List (S133)) (a1 : Int) (a2 : Int) : Option (Bool) := (laws_szUseS.f l0 1048576).bind fun t145 => (if t145 < 0 then (some true) else ((laws_toUseS.f k l0).bind fun t146 => ((spec_UsersOf.f k t146 a1 a2).bind fun t149 => ((laws_toUseS.f k l0).bind fun t152 => ((impl_UsersOf.f k t152 a1 a2).bind fun t155 => ((laws_eqIntS.f k t155 t149).bind fun t158 => (if t158 = true then ((laws_toUseS.f k l0).bind fun t159 => ((laws_eqUseS.f k t152 t159).bind fun t162 => (if t162 = true then ((laws_markUseS.f k t152 1).bind fun bt163 => (if bt163.1 < 0 then (some false) else ((laws_eqIntS.f k t155 t149).bind fun t165 => (if t165 = true then ((laws_markIntS.f k t155 1).bind fun bt166 => ((laws_heldIntS.f k bt166.2 1).bind fun t168 => (if t168 < 0 then (some false) else (if t168 = bt166.1 then ((laws_toUseS.f k l0).bind fun t169 => ((impl_UsersOf.f k t169 a1 a2).bind fun t172 => ((laws_eqIntS.f k t172 t149).bind fun t175 => (if t175 = true then ((laws_heldIntS.f k bt166.2 1).bind fun t176 => (if t176 < 0 then (some false) else (if t176 = bt166.1 then (some true) else (some false)))) else (some false))))) else (some false))))) else (some false))))) else (some false)))) else (some false))))))))
set_option maxHeartbeats 8000000 in
set_option maxRecDepth 100000 in
theorem laws_FnExactUsersOf.calls (k : Nat) (A0 : Option Addr) (c0 : Nat) (l0 : List (S133)) (a1 : Int) (a2 : Int) (r : Bool) (w : World) (hr0 : Kd.C k133 w A0 l0.length l0) (hc0 : l0.length ≤ c0) (h : laws_FnExactUsersOf.f k l0 a1 a2 = some r) :
    Calls Try.prog 13 #[.slice A0 l0.length c0, .int .i64 a1, .int .i64 a2] w fun e w' => e = .returned (.bool r) ∧ Below w.heap.size w w' := by
  have HR0 := Aside0.mk hr0
  have HC0 := Aside0.mk hc0
  clear hr0 hc0
  have HB := Aside0.mk (Below.refl w.heap.size w)
  have H := h
  clear h
  unfold laws_FnExactUsersOf.f at H
  go_enter Try.func13, Try.ntmps13
  replace H := Option.bind_eq_some_iff.mp H
  obtain ⟨t145, hm, H⟩ := H
  try dsimp only at H
  have H' := Aside0.mk H
  clear H
  have hcall := laws_szUseS.calls _ _ l0 1048576 t145 w (Kd.C_below HR0.out HB.out) HC0.out hm
  clear hm
  go_wp2_with fail
  refine hcall.mono ?_
  rintro e W1 ⟨rfl, hd⟩
  clear hcall
  have hb : Below w.heap.size w W1 := hd.below
  clear hd
  have Z1 := Aside0.mk hb.size
  have hB_ := below_step HB.out hb
  clear HB hb
  have HB := Aside0.mk hB_
  clear hB_
  have H := H'.out
  clear H'
  by_cases c2 : t145 < 0
  · rw [if_pos c2] at H
    have c2_0 : decide (t145 < 0) = true := decide_eq_true c2
    clear c2
    obtain rfl := Option.some.inj H
    clear H
    go_wp2
    go_ret
    exact ⟨rfl, HB.out⟩
  · rw [if_neg c2] at H
    have c2_0 : decide (t145 < 0) = false := decide_eq_false c2
    clear c2
    replace H := Option.bind_eq_some_iff.mp H
    obtain ⟨t146, hm, H⟩ := H
    try dsimp only at H
    have H' := Aside0.mk H
    clear H
    have hcall := laws_toUseS.calls k _ _ l0 t146 W1 (Kd.C_below HR0.out HB.out) HC0.out hm
    clear hm
    go_wp2_with fail
    refine hcall.mono ?_
    rintro e W3 ⟨v147, rfl, ho0, hb⟩
    clear hcall
    have Z3 := Aside0.mk hb.size
    obtain ⟨A3_0, n3_0, c3_0, rfl, hn_, hr_⟩ := Go.Proofs.YtplfbjbbnjlnkaaM.R_made ho0 HB.out.size
    clear hn_ ho0
    have HO3_0 := Aside0.mk hr_
    clear hr_
    have hB_ := below_step HB.out hb
    clear HB hb
    have HB := Aside0.mk hB_
    clear hB_
    have H := H'.out
    clear H'
    replace H := Option.bind_eq_some_iff.mp H
    obtain ⟨t149, hm, H⟩ := H
    try dsimp only at H
    have H' := Aside0.mk H
    clear H
    have hcall := spec_UsersOf.calls k _ _ t146 a1 a2 t149 W3 (Go.Proofs.YtplfbjbbnjlnkaaM.R_C HO3_0.out) (Go.Proofs.YtplfbjbbnjlnkaaM.R_len HO3_0.out) hm
    rw [Go.Proofs.YtplfbjbbnjlnkaaM.R_n HO3_0.out] at hcall
    clear hm
    go_wp2_with fail
    refine hcall.mono ?_
    rintro e W4 ⟨v150, rfl, ho0, hb⟩
    clear hcall
    have Z4 := Aside0.mk hb.size
    have h_ := Kd.R_below HO3_0.out hb
    clear HO3_0
    have HO3_0 := Aside0.mk h_
    clear h_
    obtain ⟨A4_0, n4_0, c4_0, rfl, hn_, hr_⟩ := Go.Proofs.YtplfbjbbnjlnkaaM.R_made ho0 HB.out.size
    clear hn_ ho0
    have HO4_0 := Aside0.mk hr_
    clear hr_
    have hB_ := below_step HB.out hb
    clear HB hb
    have HB := Aside0.mk hB_
    clear hB_
    have H := H'.out
    clear H'
    replace H := Option.bind_eq_some_iff.mp H
    obtain ⟨t152, hm, H⟩ := H
    try dsimp only at H
    have H' := Aside0.mk H
    clear H
    have hcall := laws_toUseS.calls k _ _ l0 t152 W4 (Kd.C_below HR0.out HB.out) HC0.out hm
    clear hm
    go_wp2_with fail
    refine hcall.mono ?_
    rintro e W5 ⟨v153, rfl, ho0, hb⟩
    clear hcall
    have Z5 := Aside0.mk hb.size
    have h_ := Kd.R_below HO3_0.out hb
    clear HO3_0
    have HO3_0 := Aside0.mk h_
    clear h_
    have h_ := Kd.R_below HO4_0.out hb
    clear HO4_0
    have HO4_0 := Aside0.mk h_
    clear h_
    obtain ⟨A5_0, n5_0, c5_0, rfl, hn_, hr_⟩ := Go.Proofs.YtplfbjbbnjlnkaaM.R_made ho0 HB.out.size
    clear hn_ ho0
    have HO5_0 := Aside0.mk hr_
    clear hr_
    have hB_ := below_step HB.out hb
    clear HB hb
    have HB := Aside0.mk hB_
    clear hB_
    have H := H'.out
    clear H'
    replace H := Option.bind_eq_some_iff.mp H
    obtain ⟨t155, hm, H⟩ := H
    try dsimp only at H
    have H' := Aside0.mk H
    clear H
    have hcall := impl_UsersOf.calls k _ _ t152 a1 a2 t155 W5 (Go.Proofs.YtplfbjbbnjlnkaaM.R_C HO5_0.out) (Go.Proofs.YtplfbjbbnjlnkaaM.R_len HO5_0.out) hm
    rw [Go.Proofs.YtplfbjbbnjlnkaaM.R_n HO5_0.out] at hcall
    clear hm
    go_wp2_with fail
    refine hcall.mono ?_
    rintro e W6 ⟨v156, rfl, ho0, hb⟩
    clear hcall
    have Z6 := Aside0.mk hb.size
    have h_ := Kd.R_below HO3_0.out hb
    clear HO3_0
    have HO3_0 := Aside0.mk h_
    clear h_
    have h_ := Kd.R_below HO4_0.out hb
    clear HO4_0
    have HO4_0 := Aside0.mk h_
    clear h_
    have h_ := Kd.R_below HO5_0.out hb
    clear HO5_0
    have HO5_0 := Aside0.mk h_
    clear h_
    obtain ⟨A6_0, n6_0, c6_0, rfl, hn_, hr_⟩ := Go.Proofs.YtplfbjbbnjlnkaaM.R_made ho0 HB.out.size
    clear hn_ ho0
    have HO6_0 := Aside0.mk hr_
    clear hr_
    have hB_ := below_step HB.out hb
    clear HB hb
    have HB := Aside0.mk hB_
    clear hB_
    have H := H'.out
    clear H'
    replace H := Option.bind_eq_some_iff.mp H
    obtain ⟨t158, hm, H⟩ := H
    try dsimp only at H
    have H' := Aside0.mk H
    clear H
    have hcall := laws_eqIntS.calls k _ _ t155 _ _ t149 t158 W6 (Go.Proofs.YtplfbjbbnjlnkaaM.R_C HO6_0.out) (Go.Proofs.YtplfbjbbnjlnkaaM.R_len HO6_0.out) (Go.Proofs.YtplfbjbbnjlnkaaM.R_C HO4_0.out) (Go.Proofs.YtplfbjbbnjlnkaaM.R_len HO4_0.out) hm
    rw [Go.Proofs.YtplfbjbbnjlnkaaM.R_n HO6_0.out, Go.Proofs.YtplfbjbbnjlnkaaM.R_n HO4_0.out] at hcall
    clear hm
    go_wp2_with fail
    refine hcall.mono ?_
    rintro e W7 ⟨rfl, hd⟩
    clear hcall
    have hb : Below W6.heap.size W6 W7 := hd.below
    clear hd
    have Z7 := Aside0.mk hb.size
    have h_ := Kd.R_below HO3_0.out hb
    clear HO3_0
    have HO3_0 := Aside0.mk h_
    clear h_
    have h_ := Kd.R_below HO4_0.out hb
    clear HO4_0
    have HO4_0 := Aside0.mk h_
    clear h_
    have h_ := Kd.R_below HO5_0.out hb
    clear HO5_0
    have HO5_0 := Aside0.mk h_
    clear h_
    have h_ := Kd.R_below HO6_0.out hb
    clear HO6_0
    have HO6_0 := Aside0.mk h_
    clear h_
    have hB_ := below_step HB.out hb
    clear HB hb
    have HB := Aside0.mk hB_
    clear hB_
    have H := H'.out
    clear H'
    by_cases c8 : t158 = true
    · rw [if_pos c8] at H
      subst c8
      replace H := Option.bind_eq_some_iff.mp H
      obtain ⟨t159, hm, H⟩ := H
      try dsimp only at H
      have H' := Aside0.mk H
      clear H
      have hcall := laws_toUseS.calls k _ _ l0 t159 W7 (Kd.C_below HR0.out HB.out) HC0.out hm
      clear hm
      go_wp2_with fail
      refine hcall.mono ?_
      rintro e W9 ⟨v160, rfl, ho0, hb⟩
      clear hcall
      have Z9 := Aside0.mk hb.size
      have h_ := Kd.R_below HO3_0.out hb
      clear HO3_0
      have HO3_0 := Aside0.mk h_
      clear h_
      have h_ := Kd.R_below HO4_0.out hb
      clear HO4_0
      have HO4_0 := Aside0.mk h_
      clear h_
      have h_ := Kd.R_below HO5_0.out hb
      clear HO5_0
      have HO5_0 := Aside0.mk h_
      clear h_
      have h_ := Kd.R_below HO6_0.out hb
      clear HO6_0
      have HO6_0 := Aside0.mk h_
      clear h_
      obtain ⟨A9_0, n9_0, c9_0, rfl, hn_, hr_⟩ := Go.Proofs.YtplfbjbbnjlnkaaM.R_made ho0 HB.out.size
      clear hn_ ho0
      have HO9_0 := Aside0.mk hr_
      clear hr_
      have hB_ := below_step HB.out hb
      clear HB hb
      have HB := Aside0.mk hB_
      clear hB_
      have H := H'.out
      clear H'
      replace H := Option.bind_eq_some_iff.mp H
      obtain ⟨t162, hm, H⟩ := H
      try dsimp only at H
      have H' := Aside0.mk H
      clear H
      have hcall := laws_eqUseS.calls k _ _ t152 _ _ t159 t162 W9 (Go.Proofs.YtplfbjbbnjlnkaaM.R_C HO5_0.out) (Go.Proofs.YtplfbjbbnjlnkaaM.R_len HO5_0.out) (Go.Proofs.YtplfbjbbnjlnkaaM.R_C HO9_0.out) (Go.Proofs.YtplfbjbbnjlnkaaM.R_len HO9_0.out) hm
      rw [Go.Proofs.YtplfbjbbnjlnkaaM.R_n HO5_0.out, Go.Proofs.YtplfbjbbnjlnkaaM.R_n HO9_0.out] at hcall
      clear hm
      go_wp2_with fail
      refine hcall.mono ?_
      rintro e W10 ⟨rfl, hb⟩
      clear hcall
      have Z10 := Aside0.mk hb.size
      have h_ := Kd.R_below HO3_0.out hb
      clear HO3_0
      have HO3_0 := Aside0.mk h_
      clear h_
      have h_ := Kd.R_below HO4_0.out hb
      clear HO4_0
      have HO4_0 := Aside0.mk h_
      clear h_
      have h_ := Kd.R_below HO5_0.out hb
      clear HO5_0
      have HO5_0 := Aside0.mk h_
      clear h_
      have h_ := Kd.R_below HO6_0.out hb
      clear HO6_0
      have HO6_0 := Aside0.mk h_
      clear h_
      have h_ := Kd.R_below HO9_0.out hb
      clear HO9_0
      have HO9_0 := Aside0.mk h_
      clear h_
      have hB_ := below_step HB.out hb
      clear HB hb
      have HB := Aside0.mk hB_
      clear hB_
      have H := H'.out
      clear H'
      by_cases c11 : t162 = true
      · rw [if_pos c11] at H
        subst c11
        replace H := Option.bind_eq_some_iff.mp H
        obtain ⟨⟨t163, t164⟩, hm, H⟩ := H
        try dsimp only at H
        have H' := Aside0.mk H
        clear H
        have hcall := laws_markUseS.calls k (fun k_ => W4.heap.size ≤ k_ ∧ k_ < W5.heap.size) (.slice A5_0 n5_0 c5_0) t152 1 t163 t164 w W10 HB.out HO5_0.out hm
        clear hm
        go_wp2_with fail
        refine hcall.mono ?_
        rintro e W12 ⟨rfl, ho, hb, hkp⟩
        clear hcall
        clear HB
        have HB := Aside0.mk hb
        have Z12 := Aside0.mk hkp.1
        have HO12 := Aside0.mk (Kd.R_reok rfl ho (fun k_ e_ => HO5_0.out.1 k_ e_))
        clear ho HO5_0
        have h_ := Go.Proofs.YtplfbjbbnjlnkaaM.R_else HO3_0.out hkp (by have := Z1.out; have := Z3.out; have := Z4.out; have := Z5.out; have := Z6.out; have := Z7.out; have := Z9.out; have := Z10.out; omega)
        clear HO3_0
        have HO3_0 := Aside0.mk h_
        clear h_
        have h_ := Go.Proofs.YtplfbjbbnjlnkaaM.R_else HO4_0.out hkp (by have := Z1.out; have := Z3.out; have := Z4.out; have := Z5.out; have := Z6.out; have := Z7.out; have := Z9.out; have := Z10.out; omega)
        clear HO4_0
        have HO4_0 := Aside0.mk h_
        clear h_
        have h_ := Go.Proofs.YtplfbjbbnjlnkaaM.R_else HO6_0.out hkp (by have := Z1.out; have := Z3.out; have := Z4.out; have := Z5.out; have := Z6.out; have := Z7.out; have := Z9.out; have := Z10.out; omega)
        clear HO6_0
        have HO6_0 := Aside0.mk h_
        clear h_
        have h_ := Go.Proofs.YtplfbjbbnjlnkaaM.R_else HO9_0.out hkp (by have := Z1.out; have := Z3.out; have := Z4.out; have := Z5.out; have := Z6.out; have := Z7.out; have := Z9.out; have := Z10.out; omega)
        clear HO9_0
        have HO9_0 := Aside0.mk h_
        clear h_
        clear hkp hb
        have H := H'.out
        clear H'
        by_cases c13 : t163 < 0
        · rw [if_pos c13] at H
          have c13_0 : decide (t163 < 0) = true := decide_eq_true c13
          clear c13
          obtain rfl := Option.some.inj H
          clear H
          go_wp2
          go_ret
          exact ⟨rfl, HB.out⟩
        · rw [if_neg c13] at H
          have c13_0 : decide (t163 < 0) = false := decide_eq_false c13
          clear c13
          replace H := Option.bind_eq_some_iff.mp H
          obtain ⟨t165, hm, H⟩ := H
          try dsimp only at H
          have H' := Aside0.mk H
          clear H
          have hcall := laws_eqIntS.calls k _ _ t155 _ _ t149 t165 W12 (Go.Proofs.YtplfbjbbnjlnkaaM.R_C HO6_0.out) (Go.Proofs.YtplfbjbbnjlnkaaM.R_len HO6_0.out) (Go.Proofs.YtplfbjbbnjlnkaaM.R_C HO4_0.out) (Go.Proofs.YtplfbjbbnjlnkaaM.R_len HO4_0.out) hm
          rw [Go.Proofs.YtplfbjbbnjlnkaaM.R_n HO6_0.out, Go.Proofs.YtplfbjbbnjlnkaaM.R_n HO4_0.out] at hcall
          clear hm
          go_wp2_with fail
          refine hcall.mono ?_
          rintro e W14 ⟨rfl, hd⟩
          clear hcall
          have hb : Below W12.heap.size W12 W14 := hd.below
          clear hd
          have Z14 := Aside0.mk hb.size
          have h_ := Kd.R_below HO3_0.out hb
          clear HO3_0
          have HO3_0 := Aside0.mk h_
          clear h_
          have h_ := Kd.R_below HO4_0.out hb
          clear HO4_0
          have HO4_0 := Aside0.mk h_
          clear h_
          have h_ := Kd.R_below HO12.out hb
          clear HO12
          have HO12 := Aside0.mk h_
          clear h_
          have h_ := Kd.R_below HO6_0.out hb
          clear HO6_0
          have HO6_0 := Aside0.mk h_
          clear h_
          have h_ := Kd.R_below HO9_0.out hb
          clear HO9_0
          have HO9_0 := Aside0.mk h_
          clear h_
          have hB_ := below_step HB.out hb
          clear HB hb
          have HB := Aside0.mk hB_
          clear hB_
          have H := H'.out
          clear H'
          by_cases c15 : t165 = true
          · rw [if_pos c15] at H
            subst c15
            replace H := Option.bind_eq_some_iff.mp H
            obtain ⟨⟨t166, t167⟩, hm, H⟩ := H
            try dsimp only at H
            have H' := Aside0.mk H
            clear H
            have hcall := laws_markIntS.calls k (fun k_ => W5.heap.size ≤ k_ ∧ k_ < W6.heap.size) (.slice A6_0 n6_0 c6_0) t155 1 t166 t167 w W14 HB.out HO6_0.out hm
            clear hm
            go_wp2_with fail
            refine hcall.mono ?_
            rintro e W16 ⟨rfl, ho, hb, hkp⟩
            clear hcall
            clear HB
            have HB := Aside0.mk hb
            have Z16 := Aside0.mk hkp.1
            have HO16 := Aside0.mk (Kd.R_reok rfl ho (fun k_ e_ => HO6_0.out.1 k_ e_))
            clear ho HO6_0
            have h_ := Go.Proofs.YtplfbjbbnjlnkaaM.R_else HO3_0.out hkp (by have := Z1.out; have := Z3.out; have := Z4.out; have := Z5.out; have := Z6.out; have := Z7.out; have := Z9.out; have := Z10.out; have := Z12.out; have := Z14.out; omega)
            clear HO3_0
            have HO3_0 := Aside0.mk h_
            clear h_
            have h_ := Go.Proofs.YtplfbjbbnjlnkaaM.R_else HO4_0.out hkp (by have := Z1.out; have := Z3.out; have := Z4.out; have := Z5.out; have := Z6.out; have := Z7.out; have := Z9.out; have := Z10.out; have := Z12.out; have := Z14.out; omega)
            clear HO4_0
            have HO4_0 := Aside0.mk h_
            clear h_
            have h_ := Go.Proofs.YtplfbjbbnjlnkaaM.R_else HO12.out hkp (by have := Z1.out; have := Z3.out; have := Z4.out; have := Z5.out; have := Z6.out; have := Z7.out; have := Z9.out; have := Z10.out; have := Z12.out; have := Z14.out; omega)
            clear HO12
            have HO12 := Aside0.mk h_
            clear h_
            have h_ := Go.Proofs.YtplfbjbbnjlnkaaM.R_else HO9_0.out hkp (by have := Z1.out; have := Z3.out; have := Z4.out; have := Z5.out; have := Z6.out; have := Z7.out; have := Z9.out; have := Z10.out; have := Z12.out; have := Z14.out; omega)
            clear HO9_0
            have HO9_0 := Aside0.mk h_
            clear h_
            clear hkp hb
            have H := H'.out
            clear H'
            replace H := Option.bind_eq_some_iff.mp H
            obtain ⟨t168, hm, H⟩ := H
            try dsimp only at H
            have H' := Aside0.mk H
            clear H
            have hcall := laws_heldIntS.calls k _ _ t167 1 t168 W16 (Go.Proofs.YtplfbjbbnjlnkaaM.R_C HO16.out) (Go.Proofs.YtplfbjbbnjlnkaaM.R_len HO16.out) hm
            rw [Go.Proofs.YtplfbjbbnjlnkaaM.R_n HO16.out] at hcall
            clear hm
            go_wp2_with fail
            refine hcall.mono ?_
            rintro e W17 ⟨rfl, hd⟩
            clear hcall
            have hb : Below W16.heap.size W16 W17 := hd.below
            clear hd
            have Z17 := Aside0.mk hb.size
            have h_ := Kd.R_below HO3_0.out hb
            clear HO3_0
            have HO3_0 := Aside0.mk h_
            clear h_
            have h_ := Kd.R_below HO4_0.out hb
            clear HO4_0
            have HO4_0 := Aside0.mk h_
            clear h_
            have h_ := Kd.R_below HO12.out hb
            clear HO12
            have HO12 := Aside0.mk h_
            clear h_
            have h_ := Kd.R_below HO16.out hb
            clear HO16
            have HO16 := Aside0.mk h_
            clear h_
            have h_ := Kd.R_below HO9_0.out hb
            clear HO9_0
            have HO9_0 := Aside0.mk h_
            clear h_
            have hB_ := below_step HB.out hb
            clear HB hb
            have HB := Aside0.mk hB_
            clear hB_
            have H := H'.out
            clear H'
            by_cases c18 : t168 < 0
            · rw [if_pos c18] at H
              have c18_0 : decide (t168 < 0) = true := decide_eq_true c18
              clear c18
              obtain rfl := Option.some.inj H
              clear H
              go_wp2
              go_ret
              exact ⟨rfl, HB.out⟩
            · rw [if_neg c18] at H
              have c18_0 : decide (t168 < 0) = false := decide_eq_false c18
              clear c18
              by_cases c19 : t168 = t166
              · rw [if_pos c19] at H
                have c19_1 : (t168 == t166) = true := beq_iff_eq.mpr c19
                have c19_2 : (t168 != t166) = false := bne_eq_false_iff_eq.mpr c19
                have c19_0 : decide (t168 = t166) = true := decide_eq_true c19
                clear c19
                replace H := Option.bind_eq_some_iff.mp H
                obtain ⟨t169, hm, H⟩ := H
                try dsimp only at H
                have H' := Aside0.mk H
                clear H
                have hcall := laws_toUseS.calls k _ _ l0 t169 W17 (Kd.C_below HR0.out HB.out) HC0.out hm
                clear hm
                go_wp2_with fail
                refine hcall.mono ?_
                rintro e W20 ⟨v170, rfl, ho0, hb⟩
                clear hcall
                have Z20 := Aside0.mk hb.size
                have h_ := Kd.R_below HO3_0.out hb
                clear HO3_0
                have HO3_0 := Aside0.mk h_
                clear h_
                have h_ := Kd.R_below HO4_0.out hb
                clear HO4_0
                have HO4_0 := Aside0.mk h_
                clear h_
                have h_ := Kd.R_below HO12.out hb
                clear HO12
                have HO12 := Aside0.mk h_
                clear h_
                have h_ := Kd.R_below HO16.out hb
                clear HO16
                have HO16 := Aside0.mk h_
                clear h_
                have h_ := Kd.R_below HO9_0.out hb
                clear HO9_0
                have HO9_0 := Aside0.mk h_
                clear h_
                obtain ⟨A20_0, n20_0, c20_0, rfl, hn_, hr_⟩ := Go.Proofs.YtplfbjbbnjlnkaaM.R_made ho0 HB.out.size
                clear hn_ ho0
                have HO20_0 := Aside0.mk hr_
                clear hr_
                have hB_ := below_step HB.out hb
                clear HB hb
                have HB := Aside0.mk hB_
                clear hB_
                have H := H'.out
                clear H'
                replace H := Option.bind_eq_some_iff.mp H
                obtain ⟨t172, hm, H⟩ := H
                try dsimp only at H
                have H' := Aside0.mk H
                clear H
                have hcall := impl_UsersOf.calls k _ _ t169 a1 a2 t172 W20 (Go.Proofs.YtplfbjbbnjlnkaaM.R_C HO20_0.out) (Go.Proofs.YtplfbjbbnjlnkaaM.R_len HO20_0.out) hm
                rw [Go.Proofs.YtplfbjbbnjlnkaaM.R_n HO20_0.out] at hcall
                clear hm
                go_wp2_with fail
                refine hcall.mono ?_
                rintro e W21 ⟨v173, rfl, ho0, hb⟩
                clear hcall
                have Z21 := Aside0.mk hb.size
                have h_ := Kd.R_below HO3_0.out hb
                clear HO3_0
                have HO3_0 := Aside0.mk h_
                clear h_
                have h_ := Kd.R_below HO4_0.out hb
                clear HO4_0
                have HO4_0 := Aside0.mk h_
                clear h_
                have h_ := Kd.R_below HO12.out hb
                clear HO12
                have HO12 := Aside0.mk h_
                clear h_
                have h_ := Kd.R_below HO16.out hb
                clear HO16
                have HO16 := Aside0.mk h_
                clear h_
                have h_ := Kd.R_below HO9_0.out hb
                clear HO9_0
                have HO9_0 := Aside0.mk h_
                clear h_
                have h_ := Kd.R_below HO20_0.out hb
                clear HO20_0
                have HO20_0 := Aside0.mk h_
                clear h_
                obtain ⟨A21_0, n21_0, c21_0, rfl, hn_, hr_⟩ := Go.Proofs.YtplfbjbbnjlnkaaM.R_made ho0 HB.out.size
                clear hn_ ho0
                have HO21_0 := Aside0.mk hr_
                clear hr_
                have hB_ := below_step HB.out hb
                clear HB hb
                have HB := Aside0.mk hB_
                clear hB_
                have H := H'.out
                clear H'
                replace H := Option.bind_eq_some_iff.mp H
                obtain ⟨t175, hm, H⟩ := H
                try dsimp only at H
                have H' := Aside0.mk H
                clear H
                have hcall := laws_eqIntS.calls k _ _ t172 _ _ t149 t175 W21 (Go.Proofs.YtplfbjbbnjlnkaaM.R_C HO21_0.out) (Go.Proofs.YtplfbjbbnjlnkaaM.R_len HO21_0.out) (Go.Proofs.YtplfbjbbnjlnkaaM.R_C HO4_0.out) (Go.Proofs.YtplfbjbbnjlnkaaM.R_len HO4_0.out) hm
                rw [Go.Proofs.YtplfbjbbnjlnkaaM.R_n HO21_0.out, Go.Proofs.YtplfbjbbnjlnkaaM.R_n HO4_0.out] at hcall
                clear hm
                go_wp2_with fail
                refine hcall.mono ?_
                rintro e W22 ⟨rfl, hd⟩
                clear hcall
                have hb : Below W21.heap.size W21 W22 := hd.below
                clear hd
                have Z22 := Aside0.mk hb.size
                have h_ := Kd.R_below HO3_0.out hb
                clear HO3_0
                have HO3_0 := Aside0.mk h_
                clear h_
                have h_ := Kd.R_below HO4_0.out hb
                clear HO4_0
                have HO4_0 := Aside0.mk h_
                clear h_
                have h_ := Kd.R_below HO12.out hb
                clear HO12
                have HO12 := Aside0.mk h_
                clear h_
                have h_ := Kd.R_below HO16.out hb
                clear HO16
                have HO16 := Aside0.mk h_
                clear h_
                have h_ := Kd.R_below HO9_0.out hb
                clear HO9_0
                have HO9_0 := Aside0.mk h_
                clear h_
                have h_ := Kd.R_below HO20_0.out hb
                clear HO20_0
                have HO20_0 := Aside0.mk h_
                clear h_
                have h_ := Kd.R_below HO21_0.out hb
                clear HO21_0
                have HO21_0 := Aside0.mk h_
                clear h_
                have hB_ := below_step HB.out hb
                clear HB hb
                have HB := Aside0.mk hB_
                clear hB_
                have H := H'.out
                clear H'
                by_cases c23 : t175 = true
                · rw [if_pos c23] at H
                  subst c23
                  replace H := Option.bind_eq_some_iff.mp H
                  obtain ⟨t176, hm, H⟩ := H
                  try dsimp only at H
                  have H' := Aside0.mk H
                  clear H
                  have hcall := laws_heldIntS.calls k _ _ t167 1 t176 W22 (Go.Proofs.YtplfbjbbnjlnkaaM.R_C HO16.out) (Go.Proofs.YtplfbjbbnjlnkaaM.R_len HO16.out) hm
                  rw [Go.Proofs.YtplfbjbbnjlnkaaM.R_n HO16.out] at hcall
                  clear hm
                  go_wp2_with fail
                  refine hcall.mono ?_
                  rintro e W24 ⟨rfl, hd⟩
                  clear hcall
                  have hb : Below W22.heap.size W22 W24 := hd.below
                  clear hd
                  have Z24 := Aside0.mk hb.size
                  have h_ := Kd.R_below HO3_0.out hb
                  clear HO3_0
                  have HO3_0 := Aside0.mk h_
                  clear h_
                  have h_ := Kd.R_below HO4_0.out hb
                  clear HO4_0
                  have HO4_0 := Aside0.mk h_
                  clear h_
                  have h_ := Kd.R_below HO12.out hb
                  clear HO12
                  have HO12 := Aside0.mk h_
                  clear h_
                  have h_ := Kd.R_below HO16.out hb
                  clear HO16
                  have HO16 := Aside0.mk h_
                  clear h_
                  have h_ := Kd.R_below HO9_0.out hb
                  clear HO9_0
                  have HO9_0 := Aside0.mk h_
                  clear h_
                  have h_ := Kd.R_below HO20_0.out hb
                  clear HO20_0
                  have HO20_0 := Aside0.mk h_
                  clear h_
                  have h_ := Kd.R_below HO21_0.out hb
                  clear HO21_0
                  have HO21_0 := Aside0.mk h_
                  clear h_
                  have hB_ := below_step HB.out hb
                  clear HB hb
                  have HB := Aside0.mk hB_
                  clear hB_
                  have H := H'.out
                  clear H'
                  by_cases c25 : t176 < 0
                  · rw [if_pos c25] at H
                    have c25_0 : decide (t176 < 0) = true := decide_eq_true c25
                    clear c25
                    obtain rfl := Option.some.inj H
                    clear H
                    go_wp2
                    go_ret
                    exact ⟨rfl, HB.out⟩
                  · rw [if_neg c25] at H
                    have c25_0 : decide (t176 < 0) = false := decide_eq_false c25
                    clear c25
                    by_cases c26 : t176 = t166
                    · rw [if_pos c26] at H
                      have c26_1 : (t176 == t166) = true := beq_iff_eq.mpr c26
                      have c26_2 : (t176 != t166) = false := bne_eq_false_iff_eq.mpr c26
                      have c26_0 : decide (t176 = t166) = true := decide_eq_true c26
                      clear c26
                      obtain rfl := Option.some.inj H
                      clear H
                      go_wp2
                      go_ret
                      exact ⟨rfl, HB.out⟩
                    · rw [if_neg c26] at H
                      have c26_1 : (t176 == t166) = false := beq_eq_false_iff_ne.mpr c26
                      have c26_2 : (t176 != t166) = true := bne_iff_ne.mpr c26
                      have c26_0 : decide (t176 = t166) = false := decide_eq_false c26
                      clear c26
                      obtain rfl := Option.some.inj H
                      clear H
                      go_wp2
                      go_ret
                      exact ⟨rfl, HB.out⟩
                · rw [if_neg c23] at H
                  replace c23 : t175 = false := by simpa using c23
                  subst c23
                  obtain rfl := Option.some.inj H
                  clear H
                  go_wp2
                  go_ret
                  exact ⟨rfl, HB.out⟩
              · rw [if_neg c19] at H
                have c19_1 : (t168 == t166) = false := beq_eq_false_iff_ne.mpr c19
                have c19_2 : (t168 != t166) = true := bne_iff_ne.mpr c19
                have c19_0 : decide (t168 = t166) = false := decide_eq_false c19
                clear c19
                obtain rfl := Option.some.inj H
                clear H
                go_wp2
                go_ret
                exact ⟨rfl, HB.out⟩
          · rw [if_neg c15] at H
            replace c15 : t165 = false := by simpa using c15
            subst c15
            obtain rfl := Option.some.inj H
            clear H
            go_wp2
            go_ret
            exact ⟨rfl, HB.out⟩
      · rw [if_neg c11] at H
        replace c11 : t162 = false := by simpa using c11
        subst c11
        obtain rfl := Option.some.inj H
        clear H
        go_wp2
        go_ret
        exact ⟨rfl, HB.out⟩
    · rw [if_neg c8] at H
      replace c8 : t158 = false := by simpa using c8
      subst c8
      obtain rfl := Option.some.inj H
      clear H
      go_wp2
      go_ret
      exact ⟨rfl, HB.out⟩

section
open Go.Proofs.YtplfbjbbnjlnkaaO
def g133 (x : S133) : Prop := (Lit.int .i64 x.f0).wf = true ∧ (Lit.int .i64 x.f1).wf = true ∧ (Lit.int .i64 x.f2).wf = true ∧ (Lit.int .i64 x.f3).wf = true
theorem opens133 (n : Nat) : Opens Try.prog 133 k133 g133 n :=
  opens_imp (opens_iso (fun x : S133 => (x.f0, x.f1, x.f2, x.f3)) (fun x => (⟨x.1, x.2.1, x.2.2.1, x.2.2.2⟩ : S133)) (fun _ => rfl) (opens_struct Try.underlying133 (by kernel_rfl) fun m _ => (fields_cons rfl (by kernel_rfl) (opens_int Try.underlying3 m) (fields_cons rfl (by kernel_rfl) (opens_int Try.underlying3 m) (fields_cons rfl (by kernel_rfl) (opens_int Try.underlying3 m) (fields_one rfl (by kernel_rfl) (opens_int Try.underlying3 m))))))) (fun _ h => h)
end
/-- What is left to show of laws_FnExactUsersOf: over numbers and lists alone. -/
def laws_FnExactUsersOf.Pure : Prop := ∀ (l0 : List (S133)) (a1 : Int) (a2 : Int), l0.length ≤ maxLen → (∀ y_ ∈ l0, g133 y_) → (Lit.int .i64 a1).wf = true → (Lit.int .i64 a2).wf = true → ∃ k, laws_FnExactUsersOf.f k l0 a1 a2 = some true

end Go.Proofs.Ytplfbjbbnjlnkaa.QFnExactUsersOf
