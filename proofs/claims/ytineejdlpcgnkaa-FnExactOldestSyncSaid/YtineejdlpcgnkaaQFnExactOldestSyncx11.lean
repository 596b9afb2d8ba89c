/- The machine side of FnExactOldestSync: what each function that it reaches computes, and that the machine's call gives just that. -/
import Derived.Test.YtineejdlpcgnkaaQFnExactOldestSyncx0
import Derived.Test.YtineejdlpcgnkaaQFnExactOldestSyncx2
import Derived.Test.YtineejdlpcgnkaaQFnExactOldestSyncx4
import Derived.Test.YtineejdlpcgnkaaQFnExactOldestSyncx10
namespace Go.Proofs.Ytineejdlpcgnkaa.QFnExactOldestSync
open Go.RowKit Go.Proofs.YtineejdlpcgnkaaW.PrintWords Go.Proofs.YtineejdlpcgnkaaW.PrintLast Go.Proofs.YtineejdlpcgnkaaW.PrintMore
attribute [local go_sem] max2_int min2_int max_two min_two max_three min_three max_four min_four   -- for this text's walks alone
set_option linter.unusedVariables false
set_option linter.unusedSimpArgs false

/-! ### laws_FnExactOldestSync: function 4 -/
def laws_FnExactOldestSync.f (k : Nat) (l0 : List (S32)) : Option (Bool) := (laws_szPointS.f k l0 1048576).bind fun t339 => (if t339 < 0 then (some true) else ((laws_toPointS.f k l0).bind fun t340 => ((spec_OldestSync.f k t340).bind fun t343 => ((laws_toPointS.f k l0).bind fun t344 => ((impl_OldestSync.f k t344).bind fun t347 => (if t347 = t343 then ((laws_toPointS.f k l0).bind fun t348 => ((laws_eqPointS.f k t344 t348).bind fun t351 => (if t351 = true then (some true) else (some false)))) else (some false)))))))
theorem laws_FnExactOldestSync.mono : ∀ a0 k, LeO (laws_FnExactOldestSync.f k a0) (laws_FnExactOldestSync.f (k + 1) a0) := by
  intro a0 k
  unfold laws_FnExactOldestSync.f
  repeat' first
      | (with_reducible exact impl_OldestSync.mono _ _)
      | (with_reducible exact laws_eqPointS.mono _ _ _)
      | (with_reducible exact laws_szPointS.mono _ _ _)
      | (with_reducible exact laws_toPointS.mono _ _)
      | (with_reducible exact spec_OldestSync.mono _ _)
      | (with_reducible exact LeO.refl _)
      | (with_reducible exact LeO.none _)
      | (with_reducible refine LeO.ite ?_ ?_)
      | (with_reducible refine LeO.bind ?_ (fun _ => ?_))
      | exact impl_OldestSync.mono _ _
      | exact laws_eqPointS.mono _ _ _
      | exact laws_szPointS.mono _ _ _
      | exact laws_toPointS.mono _ _
      | exact spec_OldestSync.mono _ _
      | exact LeO.none _
      | refine LeO.ite ?_ ?_
      | refine LeO.bind ?_ (fun _ => ?_)
set_option maxHeartbeats 8000000 in
set_option maxRecDepth 100000 in
theorem laws_FnExactOldestSync.calls (k : Nat) (A0 : Option Addr) (c0 : Nat) (l0 : List (S32)) (r : Bool) (w : World) (hr0 : Kd.C k32 w A0 l0.length l0) (hc0 : l0.length ≤ c0) (h : laws_FnExactOldestSync.f k l0 = some r) :
    Calls Try.prog 4 #[.slice A0 l0.length c0] w fun e w' => e = .returned (.bool r) ∧ Below w.heap.size w w' := by
  have HR0 := Aside0.mk hr0
  have HC0 := Aside0.mk hc0
  clear hr0 hc0
  have HB := Aside0.mk (Below.refl w.heap.size w)
  have H := h
  clear h
  unfold laws_FnExactOldestSync.f at H
  go_enter Try.func4, Try.ntmps4
  obtain ⟨t339, hm, H⟩ := Option.bind_eq_some_iff.mp H
  try dsimp only at H
  have H' := Aside0.mk H
  clear H
  have hcall := laws_szPointS.calls k _ _ l0 1048576 t339 w (Kd.C_below HR0.out HB.out) HC0.out hm
  clear hm
  go_wp2_with fail
  refine hcall.mono ?_
  rintro e W1 ⟨rfl, hb⟩
  clear hcall
  have Z1 := Aside0.mk hb.size
  have hB_ := below_step HB.out hb
  clear HB hb
  have HB := Aside0.mk hB_
  clear hB_
  have H := H'.out
  clear H'
  by_cases c2 : t339 < 0
  · rw [if_pos c2] at H
    have c2_0 : decide (t339 < 0) = true := decide_eq_true c2
    clear c2
    obtain rfl := Option.some.inj H
    clear H
    go_wp2
    go_ret
    exact ⟨rfl, HB.out⟩
  · rw [if_neg c2] at H
    have c2_0 : decide (t339 < 0) = false := decide_eq_false c2
    clear c2
    obtain ⟨t340, hm, H⟩ := Option.bind_eq_some_iff.mp H
    try dsimp only at H
    have H' := Aside0.mk H
    clear H
    have hcall := laws_toPointS.calls k _ _ l0 t340 W1 (Kd.C_below HR0.out HB.out) HC0.out hm
    clear hm
    go_wp2_with fail
    refine hcall.mono ?_
    rintro e W3 ⟨v341, rfl, ho0, hb⟩
    clear hcall
    have Z3 := Aside0.mk hb.size
    obtain ⟨A3_0, n3_0, c3_0, rfl, hn_, hr_⟩ := Go.Proofs.YtineejdlpcgnkaaM.R_made ho0 HB.out.size
    clear hn_ ho0
    have HO3_0 := Aside0.mk hr_
    clear hr_
    have hB_ := below_step HB.out hb
    clear HB hb
    have HB := Aside0.mk hB_
    clear hB_
    have H := H'.out
    clear H'
    obtain ⟨t343, hm, H⟩ := Option.bind_eq_some_iff.mp H
    try dsimp only at H
    have H' := Aside0.mk H
    clear H
    have hcall := spec_OldestSync.calls k _ _ t340 t343 W3 (Go.Proofs.YtineejdlpcgnkaaM.R_C HO3_0.out) (Go.Proofs.YtineejdlpcgnkaaM.R_len HO3_0.out) hm
    rw [Go.Proofs.YtineejdlpcgnkaaM.R_n HO3_0.out] at hcall
    clear hm
    go_wp2_with fail
    refine hcall.mono ?_
    rintro e W4 ⟨rfl, hd⟩
    clear hcall
    have hb : Below W3.heap.size W3 W4 := hd.below
    clear hd
    have Z4 := Aside0.mk hb.size
    have h_ := Kd.R_below HO3_0.out hb
    clear HO3_0
    have HO3_0 := Aside0.mk h_
    clear h_
    have hB_ := below_step HB.out hb
    clear HB hb
    have HB := Aside0.mk hB_
    clear hB_
    have H := H'.out
    clear H'
    obtain ⟨t344, hm, H⟩ := Option.bind_eq_some_iff.mp H
    try dsimp only at H
    have H' := Aside0.mk H
    clear H
    have hcall := laws_toPointS.calls k _ _ l0 t344 W4 (Kd.C_below HR0.out HB.out) HC0.out hm
    clear hm
    go_wp2_with fail
    refine hcall.mono ?_
    rintro e W5 ⟨v345, rfl, ho0, hb⟩
    clear hcall
    have Z5 := Aside0.mk hb.size
    have h_ := Kd.R_below HO3_0.out hb
    clear HO3_0
    have HO3_0 := Aside0.mk h_
    clear h_
    obtain ⟨A5_0, n5_0, c5_0, rfl, hn_, hr_⟩ := Go.Proofs.YtineejdlpcgnkaaM.R_made ho0 HB.out.size
    clear hn_ ho0
    have HO5_0 := Aside0.mk hr_
    clear hr_
    have hB_ := below_step HB.out hb
    clear HB hb
    have HB := Aside0.mk hB_
    clear hB_
    have H := H'.out
    clear H'
    obtain ⟨t347, hm, H⟩ := Option.bind_eq_some_iff.mp H
    try dsimp only at H
    have H' := Aside0.mk H
    clear H
    have hcall := impl_OldestSync.calls k _ _ t344 t347 W5 (Go.Proofs.YtineejdlpcgnkaaM.R_C HO5_0.out) (Go.Proofs.YtineejdlpcgnkaaM.R_len HO5_0.out) hm
    rw [Go.Proofs.YtineejdlpcgnkaaM.R_n HO5_0.out] at hcall
    clear hm
    go_wp2_with fail
    refine hcall.mono ?_
    rintro e W6 ⟨rfl, hb⟩
    clear hcall
    have Z6 := Aside0.mk hb.size
    have h_ := Kd.R_below HO3_0.out hb
    clear HO3_0
    have HO3_0 := Aside0.mk h_
    clear h_
    have h_ := Kd.R_below HO5_0.out hb
    clear HO5_0
    have HO5_0 := Aside0.mk h_
    clear h_
    have hB_ := below_step HB.out hb
    clear HB hb
    have HB := Aside0.mk hB_
    clear hB_
    have H := H'.out
    clear H'
    by_cases c7 : t347 = t343
    · rw [if_pos c7] at H
      have c7_1 : (t347 == t343) = true := beq_iff_eq.mpr c7
      have c7_2 : (t347 != t343) = false := bne_eq_false_iff_eq.mpr c7
      have c7_0 : decide (t347 = t343) = true := decide_eq_true c7
      clear c7
      obtain ⟨t348, hm, H⟩ := Option.bind_eq_some_iff.mp H
      try dsimp only at H
      have H' := Aside0.mk H
      clear H
      have hcall := laws_toPointS.calls k _ _ l0 t348 W6 (Kd.C_below HR0.out HB.out) HC0.out hm
      clear hm
      go_wp2_with fail
      refine hcall.mono ?_
      rintro e W8 ⟨v349, rfl, ho0, hb⟩
      clear hcall
      have Z8 := Aside0.mk hb.size
      have h_ := Kd.R_below HO3_0.out hb
      clear HO3_0
      have HO3_0 := Aside0.mk h_
      clear h_
      have h_ := Kd.R_below HO5_0.out hb
      clear HO5_0
      have HO5_0 := Aside0.mk h_
      clear h_
      obtain ⟨A8_0, n8_0, c8_0, rfl, hn_, hr_⟩ := Go.Proofs.YtineejdlpcgnkaaM.R_made ho0 HB.out.size
      clear hn_ ho0
      have HO8_0 := Aside0.mk hr_
      clear hr_
      have hB_ := below_step HB.out hb
      clear HB hb
      have HB := Aside0.mk hB_
      clear hB_
      have H := H'.out
      clear H'
      obtain ⟨t351, hm, H⟩ := Option.bind_eq_some_iff.mp H
      try dsimp only at H
      have H' := Aside0.mk H
      clear H
      have hcall := laws_eqPointS.calls k _ _ t344 _ _ t348 t351 W8 (Go.Proofs.YtineejdlpcgnkaaM.R_C HO5_0.out) (Go.Proofs.YtineejdlpcgnkaaM.R_len HO5_0.out) (Go.Proofs.YtineejdlpcgnkaaM.R_C HO8_0.out) (Go.Proofs.YtineejdlpcgnkaaM.R_len HO8_0.out) hm
      rw [Go.Proofs.YtineejdlpcgnkaaM.R_n HO5_0.out, Go.Proofs.YtineejdlpcgnkaaM.R_n HO8_0.out] at hcall
      clear hm
      go_wp2_with fail
      refine hcall.mono ?_
      rintro e W9 ⟨rfl, hb⟩
      clear hcall
      have Z9 := Aside0.mk hb.size
      have h_ := Kd.R_below HO3_0.out hb
      clear HO3_0
      have HO3_0 := Aside0.mk h_
      clear h_
      have h_ := Kd.R_below HO5_0.out hb
      clear HO5_0
      have HO5_0 := Aside0.mk h_
      clear h_
      have h_ := Kd.R_below HO8_0.out hb
      clear HO8_0
      have HO8_0 := Aside0.mk h_
      clear h_
      have hB_ := below_step HB.out hb
      clear HB hb
      have HB := Aside0.mk hB_
      clear hB_
      have H := H'.out
      clear H'
      by_cases c10 : t351 = true
      · rw [if_pos c10] at H
        subst c10
        obtain rfl := Option.some.inj H
        clear H
        go_wp2
        go_ret
        exact ⟨rfl, HB.out⟩
      · rw [if_neg c10] at H
        replace c10 : t351 = false := by simpa using c10
        subst c10
        obtain rfl := Option.some.inj H
        clear H
        go_wp2
        go_ret
        exact ⟨rfl, HB.out⟩
    · rw [if_neg c7] at H
      have c7_1 : (t347 == t343) = false := beq_eq_false_iff_ne.mpr c7
      have c7_2 : (t347 != t343) = true := bne_iff_ne.mpr c7
      have c7_0 : decide (t347 = t343) = false := decide_eq_false c7
      clear c7
      obtain rfl := Option.some.inj H
      clear H
      go_wp2
      go_ret
      exact ⟨rfl, HB.out⟩

section
open Go.Proofs.YtineejdlpcgnkaaO
def g164 (x : S164) : Prop := (Lit.int .i64 x.f0).wf = true ∧ (Lit.int .i64 x.f1).wf = true
theorem opens164 (n : Nat) : Opens Try.prog 164 k164 g164 n :=
  opens_imp (opens_iso (fun x : S164 => (x.f0, x.f1)) (fun x => (⟨x.1, x.2⟩ : S164)) (fun _ => rfl) (opens_struct Try.underlying164 (by kernel_rfl) fun m _ => (fields_cons rfl (by kernel_rfl) (opens_int Try.underlying3 m) (fields_one rfl (by kernel_rfl) (opens_int Try.underlying3 m))))) (fun _ h => h)
def GF183 (G : S183 → Prop) (x : S183) : Prop := (Lit.int .i64 x.f0).wf = true ∧ (Lit.int .i64 x.f1).wf = true ∧ (Lit.int .i64 x.f2).wf = true ∧ (x.f3.length ≤ maxLen ∧ ∀ y_ ∈ x.f3, G y_)
def g183 (x : S183) : Prop := ∃ k, Nat.rec (motive := fun _ => S183 → Prop) (fun _ => False) (fun _ G => GF183 G) k x
theorem gmono183 {G G' : S183 → Prop} (h : ∀ x, G x → G' x) (x : S183) (hx : GF183 G x) : GF183 G' x := by
  unfold GF183 at hx ⊢
  obtain ⟨h0, h1, h2, h3⟩ := hx
  exact ⟨h0, h1, h2, ⟨h3.1, fun y hy => h y (h3.2 y hy)⟩⟩
theorem opens183 (n : Nat) : Opens Try.prog 183 k183 g183 n :=
  opens_fix F183 4 [183] sz183 (Kd.upto_E sub183) GF183 (fun n d G hsz h => opens_imp (opens_iso (fun x : S183 => (x.f0, x.f1, x.f2, x.f3)) (fun x => (⟨x.1, x.2.1, x.2.2.1, x.2.2.2⟩ : S183)) (fun _ => rfl) (opens_struct Try.underlying183 (by first | (rw [show (Kd.pair _ _).sz = _ from rfl]; kernel_rfl) | kernel_rfl) fun m hm => have hd : Try.prog.cellsOf 183 = d.sz := (by rw [hsz]; kernel_rfl); (fields_cons rfl (by kernel_rfl) (opens_int Try.underlying3 m) (fields_cons rfl (by kernel_rfl) (opens_int Try.underlying3 m) (fields_cons rfl (by kernel_rfl) (opens_int Try.underlying3 m) (fields_one rfl (by kernel_rfl) (opens_slice Try.underlying181 hd fun m' hm' => h m' (Nat.lt_trans hm' hm)))))))) (fun _ h => h)) (fun e h => mono183.K _ _ e h) (fun h => gmono183 h) n
def g185 (x : S185) : Prop := (Lit.int .i64 x.f0).wf = true ∧ (Lit.int .i64 x.f1).wf = true ∧ (Lit.int .i64 x.f2).wf = true ∧ g183 x.f3
theorem opens185 (n : Nat) : Opens Try.prog 185 k185 g185 n :=
  opens_imp (opens_iso (fun x : S185 => (x.f0, x.f1, x.f2, x.f3)) (fun x => (⟨x.1, x.2.1, x.2.2.1, x.2.2.2⟩ : S185)) (fun _ => rfl) (opens_struct Try.underlying185 (by kernel_rfl) fun m _ => (fields_cons rfl (by kernel_rfl) (opens_int Try.underlying3 m) (fields_cons rfl (by kernel_rfl) (opens_int Try.underlying3 m) (fields_cons rfl (by kernel_rfl) (opens_int Try.underlying3 m) (fields_one rfl (by kernel_rfl) (opens183 m))))))) (fun _ h => h)
def g25 (x : S25) : Prop := (Lit.int .i64 x.f0).wf = true ∧ (x.f1.length ≤ maxLen ∧ ∀ y_ ∈ x.f1, g185 y_)
theorem opens25 (n : Nat) : Opens Try.prog 25 k25 g25 n :=
  opens_imp (opens_iso (fun x : S25 => (x.f0, x.f1)) (fun x => (⟨x.1, x.2⟩ : S25)) (fun _ => rfl) (opens_struct Try.underlying25 (by kernel_rfl) fun m _ => (fields_cons rfl (by kernel_rfl) (opens_int Try.underlying3 m) (fields_one rfl (by kernel_rfl) (opens_slice Try.underlying23 (by kernel_rfl) fun m _ => (opens185 m)))))) (fun _ h => h)
def g27 (x : S27) : Prop := (Lit.int .i64 x.f0).wf = true ∧ (Lit.int .i64 x.f1).wf = true ∧ (x.f2.length ≤ maxLen ∧ ∀ y_ ∈ x.f2, g164 y_) ∧ g25 x.f3
theorem opens27 (n : Nat) : Opens Try.prog 27 k27 g27 n :=
  opens_imp (opens_iso (fun x : S27 => (x.f0, x.f1, x.f2, x.f3)) (fun x => (⟨x.1, x.2.1, x.2.2.1, x.2.2.2⟩ : S27)) (fun _ => rfl) (opens_struct Try.underlying27 (by kernel_rfl) fun m _ => (fields_cons rfl (by kernel_rfl) (opens_int Try.underlying3 m) (fields_cons rfl (by kernel_rfl) (opens_int Try.underlying3 m) (fields_cons rfl (by kernel_rfl) (opens_slice Try.underlying22 (by kernel_rfl) fun m _ => (opens164 m)) (fields_one rfl (by kernel_rfl) (opens25 m))))))) (fun _ h => h)
def g134 (x : S134) : Prop := (Lit.int .i64 x.f0).wf = true ∧ (Lit.int .i64 x.f1).wf = true ∧ (Lit.int .i64 x.f2).wf = true ∧ (Lit.int .i64 x.f3).wf = true ∧ (Lit.int .i64 x.f4).wf = true ∧ (Lit.int .i64 x.f5).wf = true
theorem opens134 (n : Nat) : Opens Try.prog 134 k134 g134 n :=
  opens_imp (opens_iso (fun x : S134 => (x.f0, x.f1, x.f2, x.f3, x.f4, x.f5)) (fun x => (⟨x.1, x.2.1, x.2.2.1, x.2.2.2.1, x.2.2.2.2.1, x.2.2.2.2.2⟩ : S134)) (fun _ => rfl) (opens_struct Try.underlying134 (by kernel_rfl) fun m _ => (fields_cons rfl (by kernel_rfl) (opens_int Try.underlying3 m) (fields_cons rfl (by kernel_rfl) (opens_int Try.underlying3 m) (fields_cons rfl (by kernel_rfl) (opens_int Try.underlying3 m) (fields_cons rfl (by kernel_rfl) (opens_int Try.underlying3 m) (fields_cons rfl (by kernel_rfl) (opens_int Try.underlying3 m) (fields_one rfl (by kernel_rfl) (opens_int Try.underlying3 m))))))))) (fun _ h => h)
def g136 (x : S136) : Prop := (Lit.int .i64 x.f0).wf = true ∧ (Lit.int .i64 x.f1).wf = true
theorem opens136 (n : Nat) : Opens Try.prog 136 k136 g136 n :=
  opens_imp (opens_iso (fun x : S136 => (x.f0, x.f1)) (fun x => (⟨x.1, x.2⟩ : S136)) (fun _ => rfl) (opens_struct Try.underlying136 (by kernel_rfl) fun m _ => (fields_cons rfl (by kernel_rfl) (opens_int Try.underlying3 m) (fields_one rfl (by kernel_rfl) (opens_int Try.underlying3 m))))) (fun _ h => h)
def g138 (x : S138) : Prop := (Lit.int .i64 x.f0).wf = true ∧ (Lit.int .i64 x.f1).wf = true ∧ (Lit.int .i64 x.f2).wf = true ∧ (Lit.int .i64 x.f3).wf = true ∧ (Lit.int .i64 x.f4).wf = true ∧ (Lit.int .i64 x.f5).wf = true
theorem opens138 (n : Nat) : Opens Try.prog 138 k138 g138 n :=
  opens_imp (opens_iso (fun x : S138 => (x.f0, x.f1, x.f2, x.f3, x.f4, x.f5)) (fun x => (⟨x.1, x.2.1, x.2.2.1, x.2.2.2.1, x.2.2.2.2.1, x.2.2.2.2.2⟩ : S138)) (fun _ => rfl) (opens_struct Try.underlying138 (by kernel_rfl) fun m _ => (fields_cons rfl (by kernel_rfl) (opens_int Try.underlying3 m) (fields_cons rfl (by kernel_rfl) (opens_int Try.underlying3 m) (fields_cons rfl (by kernel_rfl) (opens_int Try.underlying3 m) (fields_cons rfl (by kernel_rfl) (opens_int Try.underlying3 m) (fields_cons rfl (by kernel_rfl) (opens_int Try.underlying3 m) (fields_one rfl (by kernel_rfl) (opens_int Try.underlying3 m))))))))) (fun _ h => h)
def g140 (x : S140) : Prop := g138 x.f0 ∧ (Lit.int .i64 x.f1).wf = true ∧ (Lit.int .i64 x.f2).wf = true
theorem opens140 (n : Nat) : Opens Try.prog 140 k140 g140 n :=
  opens_imp (opens_iso (fun x : S140 => (x.f0, x.f1, x.f2)) (fun x => (⟨x.1, x.2.1, x.2.2⟩ : S140)) (fun _ => rfl) (opens_struct Try.underlying140 (by kernel_rfl) fun m _ => (fields_cons rfl (by kernel_rfl) (opens138 m) (fields_cons rfl (by kernel_rfl) (opens_int Try.underlying3 m) (fields_one rfl (by kernel_rfl) (opens_int Try.underlying3 m)))))) (fun _ h => h)
def g32 (x : S32) : Prop := (Lit.int .i64 x.f0).wf = true ∧ g27 x.f1 ∧ (x.f2.length ≤ maxLen ∧ ∀ y_ ∈ x.f2, g134 y_) ∧ (x.f3.length ≤ maxLen ∧ ∀ y_ ∈ x.f3, g136 y_) ∧ (Lit.int .i64 x.f4).wf = true ∧ (x.f5.length ≤ maxLen ∧ ∀ y_ ∈ x.f5, g140 y_)
theorem opens32 (n : Nat) : Opens Try.prog 32 k32 g32 n :=
  opens_imp (opens_iso (fun x : S32 => (x.f0, x.f1, x.f2, x.f3, x.f4, x.f5)) (fun x => (⟨x.1, x.2.1, x.2.2.1, x.2.2.2.1, x.2.2.2.2.1, x.2.2.2.2.2⟩ : S32)) (fun _ => rfl) (opens_struct Try.underlying32 (by kernel_rfl) fun m _ => (fields_cons rfl (by kernel_rfl) (opens_int Try.underlying3 m) (fields_cons rfl (by kernel_rfl) (opens27 m) (fields_cons rfl (by kernel_rfl) (opens_slice Try.underlying28 (by kernel_rfl) fun m _ => (opens134 m)) (fields_cons rfl (by kernel_rfl) (opens_slice Try.underlying29 (by kernel_rfl) fun m _ => (opens136 m)) (fields_cons rfl (by kernel_rfl) (opens_int Try.underlying3 m) (fields_one rfl (by kernel_rfl) (opens_slice Try.underlying30 (by kernel_rfl) fun m _ => (opens140 m)))))))))) (fun _ h => h)
end
/-- What is left to show of laws_FnExactOldestSync: over numbers and lists alone. -/
def laws_FnExactOldestSync.Pure : Prop := ∀ (l0 : List (S32)), l0.length ≤ maxLen → (∀ y_ ∈ l0, g32 y_) → ∃ k, laws_FnExactOldestSync.f k l0 = some true

end Go.Proofs.Ytineejdlpcgnkaa.QFnExactOldestSync
