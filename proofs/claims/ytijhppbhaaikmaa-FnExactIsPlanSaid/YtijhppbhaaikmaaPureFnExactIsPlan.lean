/- The law FnExactIsPlan answers true for all arguments, over numbers and lists alone: what each function computes, and that program and reference compute the same. No condition. -/
import Derived.Test.YtijhppbhaaikmaaQFnExactIsPlanx2
import Derived.Test.YtijhppbhaaikmaaL
namespace Go.Proofs.Ytijhppbhaaikmaa.Pure
open Go.RowKit Go.Proofs.Ytijhppbhaaikmaa.QFnExactIsPlan Go.Proofs.YtijhppbhaaikmaaL Go.Proofs.YtijhppbhaaikmaaW.PrintWords Go.Proofs.YtijhppbhaaikmaaW.PrintLast
set_option linter.unusedVariables false
set_option linter.unusedSimpArgs false

def cv49 (x : S49) : S52 := ⟨x.f0, x.f1, x.f2⟩
def n49 (x : S49) : Nat := x.f0.length + x.f1.length
def n52 (x : S52) : Nat := x.f0.length + x.f1.length
theorem rd_at_T49 {l : List S49} {i : Nat} {x : S49} (h : l[i]? = some x) : rd_T49 l (i : Int) = x := getD_nat l _ i x h
theorem rd_at_T52 {l : List S52} {i : Nat} {x : S52} (h : l[i]? = some x) : rd_T52 l (i : Int) = x := getD_nat l _ i x h

theorem laws_szIntS_le (l : List Int) (hl : l.length ≤ maxLen) (a : Int) (h0 : 0 ≤ a) (ha : a ≤ 1048576) : ∃ r, laws_szIntS.f l a = some r ∧ r ≤ 1048576 ∧ (0 ≤ r → r + (l.length : Nat) ≤ a) := by
  unfold laws_szIntS.f
  unfold maxLen at hl
  rw [wr (by omega) (by omega)]
  split
  · exact ⟨_, rfl, by omega, by omega⟩
  · exact ⟨_, rfl, by omega, by omega⟩

theorem laws_szPlan_le (x : S49) (hg : g49 x) (a : Int) (h0 : 0 ≤ a) (ha : a ≤ 1048576) : ∃ r, laws_szPlan.f x.f0 x.f1 x.f2 a = some r ∧ r ≤ 1048576 ∧ (0 ≤ r → r + (n49 x : Nat) ≤ a) := by
  unfold g49 at hg
  unfold n49 laws_szPlan.f
  obtain ⟨r0, e0, b0, s0⟩ := laws_szIntS_le x.f0 (by have := hg; simp_all) a (by omega) (by omega)
  rw [e0]; simp only [Option.bind_some]
  by_cases c0 : r0 < 0
  · rw [if_pos c0]; exact ⟨_, rfl, by omega, by omega⟩
  rw [if_neg c0]
  have s0' := s0 (by omega)
  obtain ⟨r1, e1, b1, s1⟩ := laws_szIntS_le x.f1 (by have := hg; simp_all) r0 (by omega) (by omega)
  rw [e1]; simp only [Option.bind_some]
  by_cases c1 : r1 < 0
  · rw [if_pos c1]; exact ⟨_, rfl, by omega, by omega⟩
  rw [if_neg c1]
  have s1' := s1 (by omega)
  exact ⟨_, rfl, by omega, by omega⟩

theorem spec_l1In_eq (a b c : Int) : spec_l1In.f a b c = some (inB a b c) := by
  unfold spec_l1In.f
  rw [ite_dand]; rfl

theorem spec_IsName_eq (a : Int) : spec_IsName.f a = some (nameB a) := by
  unfold spec_IsName.f
  rw [spec_l1In_eq]; rfl

theorem spec_HasKind_eq (a b : Int) : spec_HasKind.f a b = some (kindB a b) := by
  unfold spec_HasKind.f kindB
  rw [spec_IsName_eq, Option.bind_some]
  cases h : nameB a with
  | true => simp only [if_true, name_div h, Bool.true_and]
  | false => rfl

def namesP (l : List Int) (kd : Int) (i : Nat) : Bool := kindB (rd l (i : Int)) kd && (decide (i = 0) || decide (rd l ((i - 1 : Nat) : Int) < rd l (i : Int)))
theorem spec_l33Names_ev (l : List Int) (kd : Int) (h : l.length ≤ 9223372036854775807) : Ev (fun k => spec_l33Names.f k l kd) (allN l.length (namesP l kd) && true) := by
  unfold spec_l33Names.f
  refine ev_all l.length (namesP l kd) true (fun k i => spec_l33Names.l0 k l kd i) ?_ ?_
  · refine Ev.succ ?_
    simp only [spec_l33Names.l0, Int.lt_irrefl, if_false]
    exact Ev.now _
  · intro i hi
    have h1 : ((i : Int) < (l.length : Int)) = True := eq_true (by omega)
    have h2 : (0 ≤ (i : Int)) = True := eq_true (by omega)
    constructor
    · intro hp r hr
      simp only [namesP, Bool.and_eq_true, Bool.or_eq_true, decide_eq_true_eq] at hp
      refine Ev.succ ?_
      simp only [spec_l33Names.l0, h1, h2, if_true, spec_HasKind_eq, Option.bind_some, hp.1, wr1 hi h]
      by_cases c : i = 0
      · exact Ev.neg (by omega) hr
      · simp only [if_pos (show (i : Int) > 0 by omega), wrm (show 0 < i by omega) (by omega), if_pos (show 0 ≤ ((i - 1 : Nat) : Int) by omega), if_pos (show ((i - 1 : Nat) : Int) < (l.length : Int) by omega)]
        exact Ev.neg (by have := hp.2; omega) hr
    · intro hp
      refine Ev.succ ?_
      simp only [spec_l33Names.l0, h1, h2, if_true, spec_HasKind_eq, Option.bind_some, wr1 hi h]
      cases c0 : kindB (rd l (i : Int)) kd with
      | false => exact Ev.now _
      | true =>
        simp only [namesP, c0, Bool.true_and, Bool.or_eq_false_iff, decide_eq_false_iff_not] at hp
        simp only [if_true, if_pos (show (i : Int) > 0 by omega), wrm (show 0 < i by omega) (by omega), if_pos (show 0 ≤ ((i - 1 : Nat) : Int) by omega), if_pos (show ((i - 1 : Nat) : Int) < (l.length : Int) by omega)]
        exact Ev.pos (by omega) (Ev.now _)

theorem spec_IsPlan_ev (l m : List Int) (s : Int) (h : l.length ≤ 9223372036854775807) (h' : m.length ≤ 9223372036854775807) : Ev (fun k => spec_IsPlan.f k l m s) ((allN l.length (namesP l 1) && true) && ((allN m.length (namesP m 4) && true) && inB s 0 10)) := by
  unfold spec_IsPlan.f
  refine Ev.bind (spec_l33Names_ev l 1 h) ?_
  cases (allN l.length (namesP l 1) && true) with
  | false => exact Ev.now _
  | true =>
    simp only [if_true, Bool.true_and]
    refine Ev.bind (spec_l33Names_ev m 4 h') ?_
    cases (allN m.length (namesP m 4) && true) with
    | false => exact Ev.now _
    | true => simp only [if_true, spec_l1In_eq, Option.bind_some, Bool.true_and]; exact Ev.now _

theorem laws_toIntS_ev (l : List Int) (h : l.length ≤ 1048576) : Ev (fun k => laws_toIntS.f k l) l := by
  unfold laws_toIntS.f
  have e : l = l.map id := by simp
  conv => rhs; rw [e]
  refine Ev.pos (by omega) (Ev.pos (by omega) ?_)
  refine ev_fill l id (fun k out i => laws_toIntS.l0 k l out i) ?_ ?_ _ (by simp)
  · intro out ho
    refine Ev.succ ?_
    simp only [laws_toIntS.l0, Int.lt_irrefl, if_false]
    exact Ev.now _
  · intro i x out r hx ho hr
    have hi := lt_of_get hx
    have h1 : ((i : Int) < (l.length : Int)) = True := eq_true (by omega)
    have h2 : (0 ≤ (i : Int)) = True := eq_true (by omega)
    have h3 : ((i : Int) < (out.length : Int)) = True := eq_true (by omega)
    refine Ev.succ ?_
    simp only [laws_toIntS.l0, h1, h2, h3, if_true, rd_nat l i x hx, wr1 hi (by omega), Int.toNat_natCast]
    exact hr

theorem laws_toPlan_ev (x : S49) (h : n49 x ≤ 1048576) : Ev (fun k => laws_toPlan.f k x.f0 x.f1 x.f2) ((cv49 x).f0, (cv49 x).f1, (cv49 x).f2) := by
  unfold n49 at h
  unfold laws_toPlan.f
  repeat (first | exact Ev.now _ | (refine Ev.bind (laws_toIntS_ev _ (by omega)) ?_; try simp only []))

theorem impl_InRange_eq (a b c : Int) : impl_InRange.f a b c = some (inB a b c) := by
  unfold impl_InRange.f
  rw [ite_dand]; rfl

/-- Strictly ascending, and all in a range. -/
def ascP (l : List Int) (a b : Int) (i : Nat) : Bool := inB (rd l (i : Int)) a b && (decide (i = 0) || decide (rd l ((i - 1 : Nat) : Int) < rd l (i : Int)))
theorem impl_isAscending_ev (l : List Int) (a b : Int) (h : l.length ≤ 9223372036854775807) : Ev (fun k => impl_isAscending.f k l a b) (allN l.length (ascP l a b) && true) := by
  unfold impl_isAscending.f
  refine ev_all l.length (ascP l a b) true (fun k i => impl_isAscending.l0 k l a b l (l.length : Int) i) ?_ ?_
  · refine Ev.succ ?_
    simp only [impl_isAscending.l0, Int.lt_irrefl, if_false]
    exact Ev.now _
  · intro i hi
    have h1 : ((i : Int) < (l.length : Int)) = True := eq_true (by omega)
    have h2 : (0 ≤ (i : Int)) = True := eq_true (by omega)
    constructor
    · intro hp r hr
      simp only [ascP, Bool.and_eq_true, Bool.or_eq_true, decide_eq_true_eq] at hp
      refine Ev.succ ?_
      simp only [impl_isAscending.l0, h1, h2, if_true, impl_InRange_eq, Option.bind_some, hp.1, wr1 hi h]
      by_cases c : i = 0
      · exact Ev.neg (by omega) hr
      · simp only [if_pos (show (i : Int) > 0 by omega), wrm (show 0 < i by omega) (by omega), if_pos (show 0 ≤ ((i - 1 : Nat) : Int) by omega), if_pos (show ((i - 1 : Nat) : Int) < (l.length : Int) by omega)]
        exact Ev.neg (by have := hp.2; omega) hr
    · intro hp
      refine Ev.succ ?_
      simp only [impl_isAscending.l0, h1, h2, if_true, impl_InRange_eq, Option.bind_some, wr1 hi h]
      cases c0 : inB (rd l (i : Int)) a b with
      | false => exact Ev.now _
      | true =>
        simp only [ascP, c0, Bool.true_and, Bool.or_eq_false_iff, decide_eq_false_iff_not] at hp
        simp only [if_true, if_pos (show (i : Int) > 0 by omega), wrm (show 0 < i by omega) (by omega), if_pos (show 0 ≤ ((i - 1 : Nat) : Int) by omega), if_pos (show ((i - 1 : Nat) : Int) < (l.length : Int) by omega)]
        exact Ev.pos (by omega) (Ev.now _)

theorem namesP_asc1 (l : List Int) : ascP l 10 19 = namesP l 1 := by
  funext i
  unfold ascP namesP
  congr 1
  rw [Bool.eq_iff_iff]
  simp only [kindB, nameB, inB, Bool.and_eq_true, decide_eq_true_eq, beq_iff_eq]
  omega
theorem namesP_asc4 (l : List Int) : ascP l 40 49 = namesP l 4 := by
  funext i
  unfold ascP namesP
  congr 1
  rw [Bool.eq_iff_iff]
  simp only [kindB, nameB, inB, Bool.and_eq_true, decide_eq_true_eq, beq_iff_eq]
  omega
theorem impl_IsPlan_ev (l m : List Int) (s : Int) (h : l.length ≤ 9223372036854775807) (h' : m.length ≤ 9223372036854775807) : Ev (fun k => impl_IsPlan.f k l m s) ((allN l.length (namesP l 1) && true) && ((allN m.length (namesP m 4) && true) && inB s 0 10)) := by
  unfold impl_IsPlan.f
  rw [← namesP_asc1, ← namesP_asc4]
  refine Ev.bind (impl_isAscending_ev l 10 19 h) ?_
  cases (allN l.length (ascP l 10 19) && true) with
  | false => exact Ev.now _
  | true =>
    simp only [if_true, Bool.true_and]
    refine Ev.bind (impl_isAscending_ev m 40 49 h') ?_
    cases (allN m.length (ascP m 40 49) && true) with
    | false => exact Ev.now _
    | true => simp only [if_true, impl_InRange_eq, Option.bind_some, Bool.true_and]; exact Ev.now _

theorem laws_eqIntS_refl (l : List Int) (h : l.length ≤ 1048576) : Ev (fun k => laws_eqIntS.f k l l) true := by
  unfold laws_eqIntS.f
  refine Ev.pos rfl ?_
  refine ev_walk l (fun k i => laws_eqIntS.l0 k l l i) true ?_ ?_
  · refine Ev.succ ?_
    simp only [laws_eqIntS.l0, Int.lt_irrefl, if_false]
    exact Ev.now _
  · intro i x hx hr
    have hi := lt_of_get hx
    have h1 : ((i : Int) < (l.length : Int)) = True := eq_true (by omega)
    have h2 : (0 ≤ (i : Int)) = True := eq_true (by omega)
    refine Ev.succ ?_
    simp only [laws_eqIntS.l0, h1, h2, if_true, rd_nat l i x hx, wr1 hi (by omega)]
    exact hr

theorem laws_eqPlan_refl (x : S52) (h : n52 x ≤ 1048576) : Ev (fun k => laws_eqPlan.f k x.f0 x.f1 x.f2 x.f0 x.f1 x.f2) true := by
  unfold n52 at h
  unfold laws_eqPlan.f
  simp only [if_true, bne_self_eq_false, Bool.false_eq_true, if_false]
  repeat (first | exact Ev.now _ | (refine Ev.bind (laws_eqIntS_refl _ (by omega)) ?_; simp only [if_true, bne_self_eq_false, Bool.false_eq_true, if_false]))

theorem FnExactIsPlan : laws_FnExactIsPlan.Pure := by
  intro x hg
  refine Ev.rounds ?_
  unfold laws_FnExactIsPlan.f
  obtain ⟨r, e, _, hr⟩ := laws_szPlan_le x hg 1048576 (by omega) (by omega)
  simp only [e, Option.bind_some]
  by_cases c : r < 0
  · simp only [if_pos c]; exact Ev.now _
  simp only [if_neg c]
  have hb := hr (by omega)
  have hn : n49 x = x.f0.length + x.f1.length := rfl
  refine Ev.bind (laws_toPlan_ev x (by omega)) ?_
  refine Ev.bind (spec_IsPlan_ev _ _ _ (by show x.f0.length ≤ _; omega) (by show x.f1.length ≤ _; omega)) ?_
  refine Ev.bind (laws_toPlan_ev x (by omega)) ?_
  refine Ev.bind (impl_IsPlan_ev _ _ _ (by show x.f0.length ≤ _; omega) (by show x.f1.length ≤ _; omega)) ?_
  simp only [bne_self_eq_false, Bool.false_eq_true, if_false]
  refine Ev.bind (laws_toPlan_ev x (by omega)) ?_
  refine Ev.bind (laws_eqPlan_refl (cv49 x) (by show x.f0.length + x.f1.length ≤ _; omega)) ?_
  exact Ev.now _

end Go.Proofs.Ytijhppbhaaikmaa.Pure
