/- The law FnExactIsSeparate answers true for all arguments, over numbers and lists alone: what each function computes, and that program and reference compute the same. No condition. -/
import Derived.Test.YtoncnbcgpflhiaaQFnExactIsSeparatex6
import Derived.Test.YtoncnbcgpflhiaaL
namespace Go.Proofs.Ytoncnbcgpflhiaa.Pure
open Go.RowKit Go.Proofs.Ytoncnbcgpflhiaa.QFnExactIsSeparate Go.Proofs.YtoncnbcgpflhiaaL Go.Proofs.YtoncnbcgpflhiaaW.PrintWords Go.Proofs.YtoncnbcgpflhiaaW.PrintLast
set_option linter.unusedVariables false
set_option linter.unusedSimpArgs false

def cv126 (x : S126) : S124 := ⟨x.f0, x.f1, x.f2⟩
def cv96 (x : S96) : S99 := ⟨x.f0, x.f1, x.f2, x.f3⟩
theorem rd_at_T126 {l : List S126} {i : Nat} {x : S126} (h : l[i]? = some x) : rd_T126 l (i : Int) = x := getD_nat l _ i x h
theorem rd_at_T96 {l : List S96} {i : Nat} {x : S96} (h : l[i]? = some x) : rd_T96 l (i : Int) = x := getD_nat l _ i x h
theorem rd_at_T124 {l : List S124} {i : Nat} {x : S124} (h : l[i]? = some x) : rd_T124 l (i : Int) = x := getD_nat l _ i x h
theorem rd_at_T99 {l : List S99} {i : Nat} {x : S99} (h : l[i]? = some x) : rd_T99 l (i : Int) = x := getD_nat l _ i x h

theorem laws_szApartS_le (l : List (S126)) (hl : l.length ≤ maxLen) (a : Int) (h0 : 0 ≤ a) (ha : a ≤ 1048576) : ∃ r, laws_szApartS.f l a = some r ∧ r ≤ 1048576 ∧ (0 ≤ r → r + (l.length : Nat) ≤ a) := by
  unfold laws_szApartS.f
  unfold maxLen at hl
  rw [wr (by omega) (by omega)]
  split
  · exact ⟨_, rfl, by omega, by omega⟩
  · exact ⟨_, rfl, by omega, by omega⟩

theorem laws_szUseS_le (l : List (S96)) (hl : l.length ≤ maxLen) (a : Int) (h0 : 0 ≤ a) (ha : a ≤ 1048576) : ∃ r, laws_szUseS.f l a = some r ∧ r ≤ 1048576 ∧ (0 ≤ r → r + (l.length : Nat) ≤ a) := by
  unfold laws_szUseS.f
  unfold maxLen at hl
  rw [wr (by omega) (by omega)]
  split
  · exact ⟨_, rfl, by omega, by omega⟩
  · exact ⟨_, rfl, by omega, by omega⟩

def apP (l : List S124) (a b o : Int) (i : Nat) : Bool := (a == (rd_T124 l (i : Int)).f0 && (b == (rd_T124 l (i : Int)).f1 && (o == (rd_T124 l (i : Int)).f2)))
def apartB (l : List S124) (a b o : Int) : Bool := anyN l.length (apP l a b o) || anyN l.length (apP l b a o)
theorem anyN_or (n : Nat) (p q : Nat → Bool) : anyN n (fun i => p i || q i) = (anyN n p || anyN n q) := by
  unfold anyN
  rw [Bool.eq_iff_iff]
  simp only [List.any_eq_true, Bool.or_eq_true]
  constructor
  · rintro ⟨i, hi, h | h⟩
    · exact .inl ⟨i, hi, h⟩
    · exact .inr ⟨i, hi, h⟩
  · rintro (⟨i, hi, h⟩ | ⟨i, hi, h⟩)
    · exact ⟨i, hi, .inl h⟩
    · exact ⟨i, hi, .inr h⟩
theorem spec_AreApart_ev (l : List S124) (a b o : Int) (h : l.length ≤ 1048576) : Ev (fun k => spec_AreApart.f k l a b o) (apartB l a b o) := by
  unfold spec_AreApart.f apartB
  rw [← anyN_or, ← findB_any]
  refine ev_find l.length _ _ _ (fun k i => spec_AreApart.l0 k l a b o i) ?_ ?_
  · refine Ev.succ ?_
    simp only [spec_AreApart.l0, Int.lt_irrefl, if_false]
    exact Ev.now _
  · intro i hi
    have h1 : ((i : Int) < (l.length : Int)) = True := eq_true (by omega)
    have h2 : (0 ≤ (i : Int)) = True := eq_true (by omega)
    have h3 := wr1 hi (show l.length ≤ 9223372036854775807 by omega)
    constructor
    · intro hp r hr
      simp only [apP, Bool.or_eq_false_iff, Bool.and_eq_false_iff, beq_eq_false_iff_ne, ne_eq] at hp
      refine Ev.succ ?_
      simp only [spec_AreApart.l0, h1, h2, if_true, h3]
      repeat' refine Ev.ite (fun c => ?_) (fun c => ?_)
      all_goals first | exact hr | (exfalso; omega)
    · intro hp
      simp only [apP, Bool.or_eq_true, Bool.and_eq_true, beq_iff_eq] at hp
      refine Ev.succ ?_
      simp only [spec_AreApart.l0, h1, h2, if_true, h3]
      repeat' refine Ev.ite (fun c => ?_) (fun c => ?_)
      all_goals first | exact Ev.now _ | (exfalso; omega)

def mayP (l : List S124) (p a o : Int) (x : S99) : Bool := x.f0 == p && (x.f2 == o && apartB l x.f1 a o)
def sepB (l : List S124) (u : List S99) : Bool := allN u.length (fun i => !(u.take i).any (mayP l (rd_T99 u (i : Int)).f0 (rd_T99 u (i : Int)).f1 (rd_T99 u (i : Int)).f2))
theorem apartB_comm (l : List S124) (a b o : Int) : apartB l a b o = apartB l b a o := by unfold apartB; rw [Bool.or_comm]
theorem take_any (l : List S124) (u : List S99) (p a o : Int) (i : Nat) (hi : i ≤ u.length) : (u.take i).any (mayP l p a o) = anyN i (fun k => mayP l p a o (rd_T99 u (k : Int))) := by
  rw [← anyN_take u z99 (mayP l p a o) i hi]
  simp [rd_T99]
theorem spec_IsSeparate_ev (l : List S124) (u : List S99) (h : l.length ≤ 1048576) (hu : u.length ≤ 1048576) : Ev (fun k => spec_IsSeparate.f k l u) (sepB l u) := by
  unfold spec_IsSeparate.f sepB
  rw [← Bool.and_true (allN _ _)]
  refine ev_all u.length _ true (fun k i => spec_IsSeparate.l0 k l u i) ?_ ?_
  · refine Ev.succ ?_
    simp only [spec_IsSeparate.l0, Int.lt_irrefl, if_false]
    exact Ev.now _
  · intro i hi
    have h1 : ((i : Int) < (u.length : Int)) = True := eq_true (by omega)
    have h2 : (0 ≤ (i : Int)) = True := eq_true (by omega)
    have h3 := wr1 hi (show u.length ≤ 9223372036854775807 by omega)
    obtain ⟨x, hx⟩ := getAt hi
    have hrd : rd_T99 u (i : Int) = x := rd_at_T99 hx
    simp only [hrd, take_any l u x.f0 x.f1 x.f2 i (by omega), ← allN_not]
    have step : ∀ j, j < i → ((!mayP l x.f0 x.f1 x.f2 (rd_T99 u (j : Int))) = true → ∀ r, Ev (fun k => spec_IsSeparate.l1 k l u (i : Int) ((j + 1 : Nat) : Int)) r → Ev (fun k => spec_IsSeparate.l1 k l u (i : Int) (j : Int)) r) ∧ ((!mayP l x.f0 x.f1 x.f2 (rd_T99 u (j : Int))) = false → Ev (fun k => spec_IsSeparate.l1 k l u (i : Int) (j : Int)) false) := by
      intro j hj
      have j1 : ((j : Int) < (i : Int)) = True := eq_true (by omega)
      have j2 : (0 ≤ (j : Int)) = True := eq_true (by omega)
      have j3 := wr1 hj (show i ≤ 9223372036854775807 by omega)
      have j4 : ((j : Int) < (u.length : Int)) = True := eq_true (by omega)
      generalize hy : rd_T99 u (j : Int) = y
      constructor
      · intro hp r hr
        refine Ev.succ ?_
        simp only [spec_IsSeparate.l1, j1, j2, j4, h1, h2, if_true, hrd, hy, j3]
        refine Ev.ite (fun c1 => Ev.ite (fun c2 => ?_) (fun _ => hr)) (fun _ => hr)
        refine Ev.bind (spec_AreApart_ev l x.f1 y.f1 x.f2 h) ?_
        have e : apartB l x.f1 y.f1 x.f2 = false := by
          rw [apartB_comm]
          simpa [mayP, c1, c2] using hp
        simp only [e, Bool.false_eq_true, if_false]
        exact hr
      · intro hp
        simp only [mayP, Bool.not_eq_false', Bool.and_eq_true, beq_iff_eq] at hp
        refine Ev.succ ?_
        simp only [spec_IsSeparate.l1, j1, j2, j4, h1, h2, if_true, hrd, hy]
        refine Ev.pos hp.1.symm (Ev.pos hp.2.1.symm ?_)
        refine Ev.bind (spec_AreApart_ev l x.f1 y.f1 x.f2 h) ?_
        rw [apartB_comm]
        simp only [hp.2.2, if_true]
        exact Ev.now _
    constructor
    · intro hp r hr
      refine Ev.succ ?_
      simp only [spec_IsSeparate.l0, h1, if_true]
      refine ev_allT i _ (fun k j => spec_IsSeparate.l1 k l u (i : Int) j) r hp ?_ (fun j hj hpj hr' => (step j hj).1 hpj r hr')
      refine Ev.succ ?_
      simp only [spec_IsSeparate.l1, Int.lt_irrefl, if_false, h3]
      exact hr
    · intro hp
      refine Ev.succ ?_
      simp only [spec_IsSeparate.l0, h1, if_true]
      exact ev_allF i _ (fun k j => spec_IsSeparate.l1 k l u (i : Int) j) false hp (fun j hj => ⟨fun hpj hr' => (step j hj).1 hpj _ hr', (step j hj).2⟩)

theorem laws_toApart_eq (x : S126) : laws_toApart.f x.f0 x.f1 x.f2 = some ((cv126 x).f0, (cv126 x).f1, (cv126 x).f2) := by
  unfold laws_toApart.f
  first | rfl | (simp only [Option.bind_some]; rfl)

theorem laws_toApartS_ev (l : List (S126)) (h : l.length ≤ 1048576) : Ev (fun k => laws_toApartS.f k l) (l.map cv126) := by
  unfold laws_toApartS.f
  refine Ev.pos (by omega) (Ev.pos (by omega) ?_)
  refine ev_fill l cv126 (fun k out i => laws_toApartS.l0 k l out i) ?_ ?_ _ (by simp)
  · intro out ho
    refine Ev.succ ?_
    simp only [laws_toApartS.l0, Int.lt_irrefl, if_false]
    exact Ev.now _
  · intro i x out r hx ho hr
    have hi := lt_of_get hx
    have h1 : ((i : Int) < (l.length : Int)) = True := eq_true (by omega)
    have h2 : (0 ≤ (i : Int)) = True := eq_true (by omega)
    have h3 : ((i : Int) < (out.length : Int)) = True := eq_true (by omega)
    refine Ev.succ ?_
    simp only [laws_toApartS.l0, h1, h2, h3, if_true, rd_at_T126 hx, wr1 hi (by omega), Int.toNat_natCast, laws_toApart_eq x, Option.bind_some]
    exact hr

theorem laws_toUse_eq (x : S96) : laws_toUse.f x.f0 x.f1 x.f2 x.f3 = some ((cv96 x).f0, (cv96 x).f1, (cv96 x).f2, (cv96 x).f3) := by
  unfold laws_toUse.f
  first | rfl | (simp only [Option.bind_some]; rfl)

theorem laws_toUseS_ev (l : List (S96)) (h : l.length ≤ 1048576) : Ev (fun k => laws_toUseS.f k l) (l.map cv96) := by
  unfold laws_toUseS.f
  refine Ev.pos (by omega) (Ev.pos (by omega) ?_)
  refine ev_fill l cv96 (fun k out i => laws_toUseS.l0 k l out i) ?_ ?_ _ (by simp)
  · intro out ho
    refine Ev.succ ?_
    simp only [laws_toUseS.l0, Int.lt_irrefl, if_false]
    exact Ev.now _
  · intro i x out r hx ho hr
    have hi := lt_of_get hx
    have h1 : ((i : Int) < (l.length : Int)) = True := eq_true (by omega)
    have h2 : (0 ≤ (i : Int)) = True := eq_true (by omega)
    have h3 : ((i : Int) < (out.length : Int)) = True := eq_true (by omega)
    refine Ev.succ ?_
    simp only [laws_toUseS.l0, h1, h2, h3, if_true, rd_at_T96 hx, wr1 hi (by omega), Int.toNat_natCast, laws_toUse_eq x, Option.bind_some]
    exact hr

theorem slicesIndex_Apart_ev (l : List S124) (a b o : Int) (h : l.length ≤ 1048576) : Ev (fun k => impl_Apart_149.f k l a b o) (findB l.length (apP l a b o) (fun i => (i : Int)) (-1)) := by
  unfold impl_Apart_149.f
  refine ev_find l.length (apP l a b o) _ _ (fun k i => impl_Apart_149.l0 k l (l.length : Int) i a b o) ?_ ?_
  · refine Ev.succ ?_
    simp only [impl_Apart_149.l0, Int.lt_irrefl, if_false]
    exact Ev.now _
  · intro i hi
    have h1 : ((i : Int) < (l.length : Int)) = True := eq_true (by omega)
    have h2 : (0 ≤ (i : Int)) = True := eq_true (by omega)
    have h3 := wr1 hi (show l.length ≤ 9223372036854775807 by omega)
    constructor
    · intro hp r hr
      unfold apP at hp
      refine Ev.succ ?_
      simp only [impl_Apart_149.l0, h1, h2, if_true, h3, hp, Bool.false_eq_true, if_false]
      exact hr
    · intro hp
      unfold apP at hp
      refine Ev.succ ?_
      simp only [impl_Apart_149.l0, h1, h2, if_true, h3, hp]
      exact Ev.now _

theorem slicesContains_Apart_ev (l : List S124) (a b o : Int) (h : l.length ≤ 1048576) : Ev (fun k => impl_Apart_144.f k l a b o) (anyN l.length (apP l a b o)) := by
  unfold impl_Apart_144.f
  rw [← findB_ge]
  exact Ev.bind (slicesIndex_Apart_ev l a b o h) (Ev.now _)

theorem impl_AreApart_ev (l : List S124) (a b o : Int) (h : l.length ≤ 1048576) : Ev (fun k => impl_AreApart.f k l a b o) (apartB l a b o) := by
  unfold impl_AreApart.f apartB
  refine Ev.bind (slicesContains_Apart_ev l a b o h) ?_
  cases anyN l.length (apP l a b o) with
  | true => exact Ev.now _
  | false =>
    simp only [Bool.false_eq_true, if_false, Bool.false_or]
    exact Ev.bind (slicesContains_Apart_ev l b a o h) (Ev.now _)

theorem impl_MayDo_ev (l : List S124) (u : List S99) (p a o : Int) (h : l.length ≤ 1048576) : Ev (fun k => impl_MayDo.f k l u p a o) (!u.any (mayP l p a o)) := by
  unfold impl_MayDo.f
  rw [← idxV_any]
  refine Ev.bind (ev_idxO (fun k => cl129.p k l p a o) (mayP l p a o) u 0 (fun x _ => ?_)) (Ev.now _)
  unfold cl129.p mayP
  by_cases c1 : x.f0 = p
  · by_cases c2 : x.f2 = o
    · simp only [if_pos c1, if_pos c2, c1, c2, beq_self_eq_true, Bool.true_and]
      exact impl_AreApart_ev l x.f1 a o h
    · simp only [if_pos c1, if_neg c2, c1, beq_self_eq_true, Bool.true_and, beq_eq_false_iff_ne.mpr c2, Bool.false_and]
      exact Ev.now _
  · simp only [if_neg c1, beq_eq_false_iff_ne.mpr c1, Bool.false_and]
    exact Ev.now _

theorem impl_IsSeparate_ev (l : List S124) (u : List S99) (h : l.length ≤ 1048576) (hu : u.length ≤ 1048576) : Ev (fun k => impl_IsSeparate.f k l u) (sepB l u) := by
  unfold impl_IsSeparate.f sepB
  rw [← Bool.and_true (allN _ _)]
  refine ev_all u.length _ true (fun k i => impl_IsSeparate.l0 k l u u (u.length : Int) i) ?_ ?_
  · refine Ev.succ ?_
    simp only [impl_IsSeparate.l0, Int.lt_irrefl, if_false]
    exact Ev.now _
  · intro i hi
    have h1 : ((i : Int) < (u.length : Int)) = True := eq_true (by omega)
    have h2 : (0 ≤ (i : Int)) = True := eq_true (by omega)
    have h3 := wr1 hi (show u.length ≤ 9223372036854775807 by omega)
    have h4 : ((i : Int) ≤ (u.length : Int)) = True := eq_true (by omega)
    constructor
    · intro hp r hr
      refine Ev.succ ?_
      simp only [impl_IsSeparate.l0, h1, h2, h4, if_true, h3, Int.toNat_natCast]
      refine Ev.bind (impl_MayDo_ev l (u.take i) _ _ _ h) ?_
      simp only [hp, if_true]
      exact hr
    · intro hp
      refine Ev.succ ?_
      simp only [impl_IsSeparate.l0, h1, h2, h4, if_true, h3, Int.toNat_natCast]
      refine Ev.bind (impl_MayDo_ev l (u.take i) _ _ _ h) ?_
      simp only [hp, Bool.false_eq_true, if_false]
      exact Ev.now _

theorem laws_eqApart_refl (x : S124) : laws_eqApart.f x.f0 x.f1 x.f2 x.f0 x.f1 x.f2 = some true := by
  unfold laws_eqApart.f
  simp

theorem laws_eqApartS_refl (l : List (S124)) (h : l.length ≤ 1048576) : Ev (fun k => laws_eqApartS.f k l l) true := by
  unfold laws_eqApartS.f
  refine Ev.pos rfl ?_
  refine ev_walk l (fun k i => laws_eqApartS.l0 k l l i) true ?_ ?_
  · refine Ev.succ ?_
    simp only [laws_eqApartS.l0, Int.lt_irrefl, if_false]
    exact Ev.now _
  · intro i x hx hr
    have hi := lt_of_get hx
    have h1 : ((i : Int) < (l.length : Int)) = True := eq_true (by omega)
    have h2 : (0 ≤ (i : Int)) = True := eq_true (by omega)
    refine Ev.succ ?_
    simp only [laws_eqApartS.l0, h1, h2, if_true, rd_at_T124 hx, wr1 hi (by omega), laws_eqApart_refl x, Option.bind_some]
    exact hr

theorem laws_eqUse_refl (x : S99) : laws_eqUse.f x.f0 x.f1 x.f2 x.f3 x.f0 x.f1 x.f2 x.f3 = some true := by
  unfold laws_eqUse.f
  simp

theorem laws_eqUseS_refl (l : List (S99)) (h : l.length ≤ 1048576) : Ev (fun k => laws_eqUseS.f k l l) true := by
  unfold laws_eqUseS.f
  refine Ev.pos rfl ?_
  refine ev_walk l (fun k i => laws_eqUseS.l0 k l l i) true ?_ ?_
  · refine Ev.succ ?_
    simp only [laws_eqUseS.l0, Int.lt_irrefl, if_false]
    exact Ev.now _
  · intro i x hx hr
    have hi := lt_of_get hx
    have h1 : ((i : Int) < (l.length : Int)) = True := eq_true (by omega)
    have h2 : (0 ≤ (i : Int)) = True := eq_true (by omega)
    refine Ev.succ ?_
    simp only [laws_eqUseS.l0, h1, h2, if_true, rd_at_T99 hx, wr1 hi (by omega), laws_eqUse_refl x, Option.bind_some]
    exact hr

theorem FnExactIsSeparate : laws_FnExactIsSeparate.Pure := by
  intro l l' h1 h2 h1' h2'
  refine Ev.rounds ?_
  unfold laws_FnExactIsSeparate.f
  obtain ⟨r, e, hr1, hr⟩ := laws_szApartS_le l h1 1048576 (by omega) (by omega)
  simp only [e, Option.bind_some]
  by_cases c : r < 0
  · simp only [if_pos c]; exact Ev.now _
  simp only [if_neg c]
  have hb := hr (by omega)
  have hm : (l.map cv126).length ≤ 1048576 := by rw [List.length_map]; omega
  obtain ⟨r', e', hr1', hr'⟩ := laws_szUseS_le l' h1' r (by omega) (by omega)
  simp only [e', Option.bind_some]
  by_cases c' : r' < 0
  · simp only [if_pos c']; exact Ev.now _
  simp only [if_neg c']
  have hb' := hr' (by omega)
  have hm' : (l'.map cv96).length ≤ 1048576 := by rw [List.length_map]; omega
  repeat (first
    | exact Ev.now _
    | ((first | refine Ev.bind (laws_toApartS_ev l (by omega)) ?_ | refine Ev.bind (laws_toUseS_ev l' (by omega)) ?_ | refine Ev.bind (spec_IsSeparate_ev _ _ hm hm') ?_ | refine Ev.bind (impl_IsSeparate_ev _ _ hm hm') ?_ | refine Ev.bind (laws_eqApartS_refl _ hm) ?_ | refine Ev.bind (laws_eqUseS_refl _ hm') ?_); try simp only [if_true, if_false, bne_self_eq_false, Bool.false_eq_true]))

end Go.Proofs.Ytoncnbcgpflhiaa.Pure
