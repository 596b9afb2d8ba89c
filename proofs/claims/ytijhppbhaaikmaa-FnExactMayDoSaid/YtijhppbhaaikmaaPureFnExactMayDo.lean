/- The law FnExactMayDo answers true for all arguments, over numbers and lists alone: what each function computes, and that program and reference compute the same. No condition. -/
import Derived.Test.YtijhppbhaaikmaaQFnExactMayDox4
import Derived.Test.YtijhppbhaaikmaaL
namespace Go.Proofs.Ytijhppbhaaikmaa.Pure
open Go.RowKit Go.Proofs.Ytijhppbhaaikmaa.QFnExactMayDo Go.Proofs.YtijhppbhaaikmaaL Go.Proofs.YtijhppbhaaikmaaW.PrintWords Go.Proofs.YtijhppbhaaikmaaW.PrintLast
set_option linter.unusedVariables false
set_option linter.unusedSimpArgs false

def cv103 (x : S103) : S101 := ⟨x.f0, x.f1, x.f2⟩
def cv25 (x : S25) : S27 := ⟨x.f0, x.f1, x.f2, x.f3⟩
theorem rd_at_T103 {l : List S103} {i : Nat} {x : S103} (h : l[i]? = some x) : rd_T103 l (i : Int) = x := getD_nat l _ i x h
theorem rd_at_T101 {l : List S101} {i : Nat} {x : S101} (h : l[i]? = some x) : rd_T101 l (i : Int) = x := getD_nat l _ i x h
theorem rd_at_T25 {l : List S25} {i : Nat} {x : S25} (h : l[i]? = some x) : rd_T25 l (i : Int) = x := getD_nat l _ i x h
theorem rd_at_T27 {l : List S27} {i : Nat} {x : S27} (h : l[i]? = some x) : rd_T27 l (i : Int) = x := getD_nat l _ i x h

theorem laws_szApartS_le (l : List (S103)) (hl : l.length ≤ maxLen) (a : Int) (h0 : 0 ≤ a) (ha : a ≤ 1048576) : ∃ r, laws_szApartS.f l a = some r ∧ r ≤ 1048576 ∧ (0 ≤ r → r + (l.length : Nat) ≤ a) := by
  unfold laws_szApartS.f
  unfold maxLen at hl
  rw [wr (by omega) (by omega)]
  split
  · exact ⟨_, rfl, by omega, by omega⟩
  · exact ⟨_, rfl, by omega, by omega⟩

theorem laws_toApart_eq (x : S103) : laws_toApart.f x.f0 x.f1 x.f2 = some ((cv103 x).f0, (cv103 x).f1, (cv103 x).f2) := by
  unfold laws_toApart.f
  first | rfl | (simp only [Option.bind_some]; rfl)

theorem laws_toApartS_ev (l : List (S103)) (h : l.length ≤ 1048576) : Ev (fun k => laws_toApartS.f k l) (l.map cv103) := by
  unfold laws_toApartS.f
  refine Ev.pos (by omega) (Ev.pos (by omega) ?_)
  refine ev_fill l cv103 (fun k out i => laws_toApartS.l0 k l out i) ?_ ?_ _ (by simp)
  · intro out ho
    refine Ev.succ ?_
    simp only [laws_toApartS.l0, Int.lt_irrefl, if_false]
    exact Ev.now _
  · intro i x out r hx ho hr
    have hi := lt_of_get hx
    have h1 : ((i : Int) < (l.length : Int)) = True := eq_true (by omega)
    have h2 : (0 ≤ (i : Int)) = True := eq_true (by omega)
    have h3 : ((i : Int) < (out.length : Int)) = True := eq_true (by omega)
    refine Ev.succ ?_
    simp only [laws_toApartS.l0, h1, h2, h3, if_true, rd_at_T103 hx, wr1 hi (by omega), Int.toNat_natCast, laws_toApart_eq x, Option.bind_some]
    exact hr

theorem laws_eqApart_refl (x : S101) : laws_eqApart.f x.f0 x.f1 x.f2 x.f0 x.f1 x.f2 = some true := by
  unfold laws_eqApart.f
  simp

theorem laws_eqApartS_refl (l : List (S101)) (h : l.length ≤ 1048576) : Ev (fun k => laws_eqApartS.f k l l) true := by
  unfold laws_eqApartS.f
  refine Ev.pos rfl ?_
  refine ev_walk l (fun k i => laws_eqApartS.l0 k l l i) true ?_ ?_
  · refine Ev.succ ?_
    simp only [laws_eqApartS.l0, Int.lt_irrefl, if_false]
    exact Ev.now _
  · intro i x hx hr
    have hi := lt_of_get hx
    have h1 : ((i : Int) < (l.length : Int)) = True := eq_true (by omega)
    have h2 : (0 ≤ (i : Int)) = True := eq_true (by omega)
    refine Ev.succ ?_
    simp only [laws_eqApartS.l0, h1, h2, if_true, rd_at_T101 hx, wr1 hi (by omega), laws_eqApart_refl x, Option.bind_some]
    exact hr

theorem laws_szUseS_le (l : List (S25)) (hl : l.length ≤ maxLen) (a : Int) (h0 : 0 ≤ a) (ha : a ≤ 1048576) : ∃ r, laws_szUseS.f l a = some r ∧ r ≤ 1048576 ∧ (0 ≤ r → r + (l.length : Nat) ≤ a) := by
  unfold laws_szUseS.f
  unfold maxLen at hl
  rw [wr (by omega) (by omega)]
  split
  · exact ⟨_, rfl, by omega, by omega⟩
  · exact ⟨_, rfl, by omega, by omega⟩

def apP (l : List S101) (a b o : Int) (i : Nat) : Bool := (a == (rd_T101 l (i : Int)).f0 && (b == (rd_T101 l (i : Int)).f1 && (o == (rd_T101 l (i : Int)).f2)))
def apartB (l : List S101) (a b o : Int) : Bool := anyN l.length (apP l a b o) || anyN l.length (apP l b a o)
theorem anyN_or (n : Nat) (p q : Nat → Bool) : anyN n (fun i => p i || q i) = (anyN n p || anyN n q) := by
  unfold anyN
  rw [Bool.eq_iff_iff]
  simp only [List.any_eq_true, Bool.or_eq_true]
  constructor
  · rintro ⟨i, hi, h | h⟩
    · exact .inl ⟨i, hi, h⟩
    · exact .inr ⟨i, hi, h⟩
  · rintro (⟨i, hi, h⟩ | ⟨i, hi, h⟩)
    · exact ⟨i, hi, .inl h⟩
    · exact ⟨i, hi, .inr h⟩
theorem spec_AreApart_ev (l : List S101) (a b o : Int) (h : l.length ≤ 1048576) : Ev (fun k => spec_AreApart.f k l a b o) (apartB l a b o) := by
  unfold spec_AreApart.f apartB
  rw [← anyN_or, ← findB_any]
  refine ev_find l.length _ _ _ (fun k i => spec_AreApart.l0 k l a b o i) ?_ ?_
  · refine Ev.succ ?_
    simp only [spec_AreApart.l0, Int.lt_irrefl, if_false]
    exact Ev.now _
  · intro i hi
    have h1 : ((i : Int) < (l.length : Int)) = True := eq_true (by omega)
    have h2 : (0 ≤ (i : Int)) = True := eq_true (by omega)
    have h3 := wr1 hi (show l.length ≤ 9223372036854775807 by omega)
    constructor
    · intro hp r hr
      simp only [apP, Bool.or_eq_false_iff, Bool.and_eq_false_iff, beq_eq_false_iff_ne, ne_eq] at hp
      refine Ev.succ ?_
      simp only [spec_AreApart.l0, h1, h2, if_true, h3]
      repeat' refine Ev.ite (fun c => ?_) (fun c => ?_)
      all_goals first | exact hr | (exfalso; omega)
    · intro hp
      simp only [apP, Bool.or_eq_true, Bool.and_eq_true, beq_iff_eq] at hp
      refine Ev.succ ?_
      simp only [spec_AreApart.l0, h1, h2, if_true, h3]
      repeat' refine Ev.ite (fun c => ?_) (fun c => ?_)
      all_goals first | exact Ev.now _ | (exfalso; omega)

def mayP (l : List S101) (p a o : Int) (x : S27) : Bool := x.f0 == p && (x.f2 == o && apartB l x.f1 a o)
theorem spec_MayDo_ev (l : List S101) (u : List S27) (p a o : Int) (h : l.length ≤ 1048576) (hu : u.length ≤ 1048576) : Ev (fun k => spec_MayDo.f k l u p a o) (!u.any (mayP l p a o)) := by
  unfold spec_MayDo.f
  rw [← idxV_any]
  refine ev_idx u (mayP l p a o) (fun i => !decide (i ≥ 0)) (fun k i => spec_MayDo.l0 k l u p a o i) ?_ ?_
  · refine Ev.succ ?_
    simp only [spec_MayDo.l0, Int.lt_irrefl, if_false]
    exact Ev.now _
  · intro i x hx
    have hi := lt_of_get hx
    have h1 : ((i : Int) < (u.length : Int)) = True := eq_true (by omega)
    have h2 : (0 ≤ (i : Int)) = True := eq_true (by omega)
    have h3 : decide ((i : Int) ≥ 0) = true := decide_eq_true (by omega)
    refine ⟨fun hp r hr => ?_, fun hp => ?_⟩
    · refine Ev.succ ?_
      simp only [spec_MayDo.l0, h1, h2, if_true, rd_at_T27 hx, wr1 hi (by omega)]
      refine Ev.ite (fun c1 => Ev.ite (fun c2 => ?_) (fun _ => hr)) (fun _ => hr)
      have hq : apartB l x.f1 a o = false := by
        simp only [mayP, c1, c2, beq_self_eq_true, Bool.true_and] at hp
        exact hp
      refine Ev.bind (spec_AreApart_ev l x.f1 a o h) ?_
      simp only [hq, Bool.false_eq_true, if_false]
      exact hr
    · simp only [mayP, Bool.and_eq_true, beq_iff_eq] at hp
      refine Ev.succ ?_
      simp only [spec_MayDo.l0, h1, h2, if_true, rd_at_T27 hx, if_pos hp.1, if_pos hp.2.1, h3]
      refine Ev.bind (spec_AreApart_ev l x.f1 a o h) ?_
      simp only [hp.2.2, if_true]
      exact Ev.now _

theorem laws_toUse_eq (x : S25) : laws_toUse.f x.f0 x.f1 x.f2 x.f3 = some ((cv25 x).f0, (cv25 x).f1, (cv25 x).f2, (cv25 x).f3) := by
  unfold laws_toUse.f
  first | rfl | (simp only [Option.bind_some]; rfl)

theorem laws_toUseS_ev (l : List (S25)) (h : l.length ≤ 1048576) : Ev (fun k => laws_toUseS.f k l) (l.map cv25) := by
  unfold laws_toUseS.f
  refine Ev.pos (by omega) (Ev.pos (by omega) ?_)
  refine ev_fill l cv25 (fun k out i => laws_toUseS.l0 k l out i) ?_ ?_ _ (by simp)
  · intro out ho
    refine Ev.succ ?_
    simp only [laws_toUseS.l0, Int.lt_irrefl, if_false]
    exact Ev.now _
  · intro i x out r hx ho hr
    have hi := lt_of_get hx
    have h1 : ((i : Int) < (l.length : Int)) = True := eq_true (by omega)
    have h2 : (0 ≤ (i : Int)) = True := eq_true (by omega)
    have h3 : ((i : Int) < (out.length : Int)) = True := eq_true (by omega)
    refine Ev.succ ?_
    simp only [laws_toUseS.l0, h1, h2, h3, if_true, rd_at_T25 hx, wr1 hi (by omega), Int.toNat_natCast, laws_toUse_eq x, Option.bind_some]
    exact hr

theorem slicesIndex_Apart_ev (l : List S101) (a b o : Int) (h : l.length ≤ 1048576) : Ev (fun k => impl_Apart_99.f k l a b o) (findB l.length (apP l a b o) (fun i => (i : Int)) (-1)) := by
  unfold impl_Apart_99.f
  refine ev_find l.length (apP l a b o) _ _ (fun k i => impl_Apart_99.l0 k l (l.length : Int) i a b o) ?_ ?_
  · refine Ev.succ ?_
    simp only [impl_Apart_99.l0, Int.lt_irrefl, if_false]
    exact Ev.now _
  · intro i hi
    have h1 : ((i : Int) < (l.length : Int)) = True := eq_true (by omega)
    have h2 : (0 ≤ (i : Int)) = True := eq_true (by omega)
    have h3 := wr1 hi (show l.length ≤ 9223372036854775807 by omega)
    constructor
    · intro hp r hr
      unfold apP at hp
      refine Ev.succ ?_
      simp only [impl_Apart_99.l0, h1, h2, if_true, h3, hp, Bool.false_eq_true, if_false]
      exact hr
    · intro hp
      unfold apP at hp
      refine Ev.succ ?_
      simp only [impl_Apart_99.l0, h1, h2, if_true, h3, hp]
      exact Ev.now _

theorem slicesContains_Apart_ev (l : List S101) (a b o : Int) (h : l.length ≤ 1048576) : Ev (fun k => impl_Apart_77.f k l a b o) (anyN l.length (apP l a b o)) := by
  unfold impl_Apart_77.f
  rw [← findB_ge]
  exact Ev.bind (slicesIndex_Apart_ev l a b o h) (Ev.now _)

theorem impl_AreApart_ev (l : List S101) (a b o : Int) (h : l.length ≤ 1048576) : Ev (fun k => impl_AreApart.f k l a b o) (apartB l a b o) := by
  unfold impl_AreApart.f apartB
  refine Ev.bind (slicesContains_Apart_ev l a b o h) ?_
  cases anyN l.length (apP l a b o) with
  | true => exact Ev.now _
  | false =>
    simp only [Bool.false_eq_true, if_false, Bool.false_or]
    exact Ev.bind (slicesContains_Apart_ev l b a o h) (Ev.now _)

theorem impl_MayDo_ev (l : List S101) (u : List S27) (p a o : Int) (h : l.length ≤ 1048576) : Ev (fun k => impl_MayDo.f k l u p a o) (!u.any (mayP l p a o)) := by
  unfold impl_MayDo.f
  rw [← idxV_any]
  refine Ev.bind (ev_idxO (fun k => cl91.p k l p a o) (mayP l p a o) u 0 (fun x _ => ?_)) (Ev.now _)
  unfold cl91.p mayP
  by_cases c1 : x.f0 = p
  · by_cases c2 : x.f2 = o
    · simp only [if_pos c1, if_pos c2, c1, c2, beq_self_eq_true, Bool.true_and]
      exact impl_AreApart_ev l x.f1 a o h
    · simp only [if_pos c1, if_neg c2, c1, beq_self_eq_true, Bool.true_and, beq_eq_false_iff_ne.mpr c2, Bool.false_and]
      exact Ev.now _
  · simp only [if_neg c1, beq_eq_false_iff_ne.mpr c1, Bool.false_and]
    exact Ev.now _

theorem laws_eqUse_refl (x : S27) : laws_eqUse.f x.f0 x.f1 x.f2 x.f3 x.f0 x.f1 x.f2 x.f3 = some true := by
  unfold laws_eqUse.f
  simp

theorem laws_eqUseS_refl (l : List (S27)) (h : l.length ≤ 1048576) : Ev (fun k => laws_eqUseS.f k l l) true := by
  unfold laws_eqUseS.f
  refine Ev.pos rfl ?_
  refine ev_walk l (fun k i => laws_eqUseS.l0 k l l i) true ?_ ?_
  · refine Ev.succ ?_
    simp only [laws_eqUseS.l0, Int.lt_irrefl, if_false]
    exact Ev.now _
  · intro i x hx hr
    have hi := lt_of_get hx
    have h1 : ((i : Int) < (l.length : Int)) = True := eq_true (by omega)
    have h2 : (0 ≤ (i : Int)) = True := eq_true (by omega)
    refine Ev.succ ?_
    simp only [laws_eqUseS.l0, h1, h2, if_true, rd_at_T27 hx, wr1 hi (by omega), laws_eqUse_refl x, Option.bind_some]
    exact hr

theorem FnExactMayDo : laws_FnExactMayDo.Pure := by
  intro l l' p a o h1 h2 h1' h2' _ _ _
  refine Ev.rounds ?_
  unfold laws_FnExactMayDo.f
  obtain ⟨r, e, hr1, hr⟩ := laws_szApartS_le l h1 1048576 (by omega) (by omega)
  simp only [e, Option.bind_some]
  by_cases c : r < 0
  · simp only [if_pos c]; exact Ev.now _
  simp only [if_neg c]
  have hb := hr (by omega)
  have hm : (l.map cv103).length ≤ 1048576 := by rw [List.length_map]; omega
  obtain ⟨r', e', hr1', hr'⟩ := laws_szUseS_le l' h1' r (by omega) (by omega)
  simp only [e', Option.bind_some]
  by_cases c' : r' < 0
  · simp only [if_pos c']; exact Ev.now _
  simp only [if_neg c']
  have hb' := hr' (by omega)
  have hm' : (l'.map cv25).length ≤ 1048576 := by rw [List.length_map]; omega
  repeat (first
    | exact Ev.now _
    | ((first | refine Ev.bind (laws_toApartS_ev l (by omega)) ?_ | refine Ev.bind (laws_toUseS_ev l' (by omega)) ?_ | refine Ev.bind (spec_MayDo_ev _ _ _ _ _ hm hm') ?_ | refine Ev.bind (impl_MayDo_ev _ _ _ _ _ hm) ?_ | refine Ev.bind (laws_eqApartS_refl _ hm) ?_ | refine Ev.bind (laws_eqUseS_refl _ hm') ?_); try simp only [if_true, if_false, bne_self_eq_false, Bool.false_eq_true]))

end Go.Proofs.Ytijhppbhaaikmaa.Pure
