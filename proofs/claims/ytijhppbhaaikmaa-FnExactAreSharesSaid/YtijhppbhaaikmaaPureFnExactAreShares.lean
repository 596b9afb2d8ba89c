/- The law FnExactAreShares answers true for all arguments, over numbers and lists alone: what each function computes, and that program and reference compute the same. No condition. -/
import Derived.Test.YtijhppbhaaikmaaQFnExactAreSharesx2
import Derived.Test.YtijhppbhaaikmaaL
namespace Go.Proofs.Ytijhppbhaaikmaa.Pure
open Go.RowKit Go.Proofs.Ytijhppbhaaikmaa.QFnExactAreShares Go.Proofs.YtijhppbhaaikmaaL Go.Proofs.YtijhppbhaaikmaaW.PrintWords Go.Proofs.YtijhppbhaaikmaaW.PrintLast
set_option linter.unusedVariables false
set_option linter.unusedSimpArgs false

def cv98 (x : S98) : S96 := ⟨x.f0, x.f1⟩
theorem rd_at_T98 {l : List S98} {i : Nat} {x : S98} (h : l[i]? = some x) : rd_T98 l (i : Int) = x := getD_nat l _ i x h
theorem rd_at_T96 {l : List S96} {i : Nat} {x : S96} (h : l[i]? = some x) : rd_T96 l (i : Int) = x := getD_nat l _ i x h

theorem laws_szShareS_le (l : List (S98)) (hl : l.length ≤ maxLen) (a : Int) (h0 : 0 ≤ a) (ha : a ≤ 1048576) : ∃ r, laws_szShareS.f l a = some r ∧ r ≤ 1048576 ∧ (0 ≤ r → r + (l.length : Nat) ≤ a) := by
  unfold laws_szShareS.f
  unfold maxLen at hl
  rw [wr (by omega) (by omega)]
  split
  · exact ⟨_, rfl, by omega, by omega⟩
  · exact ⟨_, rfl, by omega, by omega⟩

theorem laws_toShare_eq (x : S98) : laws_toShare.f x.f0 x.f1 = some ((cv98 x).f0, (cv98 x).f1) := by
  unfold laws_toShare.f
  first | rfl | (simp only [Option.bind_some]; rfl)

theorem laws_toShareS_ev (l : List (S98)) (h : l.length ≤ 1048576) : Ev (fun k => laws_toShareS.f k l) (l.map cv98) := by
  unfold laws_toShareS.f
  refine Ev.pos (by omega) (Ev.pos (by omega) ?_)
  refine ev_fill l cv98 (fun k out i => laws_toShareS.l0 k l out i) ?_ ?_ _ (by simp)
  · intro out ho
    refine Ev.succ ?_
    simp only [laws_toShareS.l0, Int.lt_irrefl, if_false]
    exact Ev.now _
  · intro i x out r hx ho hr
    have hi := lt_of_get hx
    have h1 : ((i : Int) < (l.length : Int)) = True := eq_true (by omega)
    have h2 : (0 ≤ (i : Int)) = True := eq_true (by omega)
    have h3 : ((i : Int) < (out.length : Int)) = True := eq_true (by omega)
    refine Ev.succ ?_
    simp only [laws_toShareS.l0, h1, h2, h3, if_true, rd_at_T98 hx, wr1 hi (by omega), Int.toNat_natCast, laws_toShare_eq x, Option.bind_some]
    exact hr

theorem laws_eqShare_refl (x : S96) : laws_eqShare.f x.f0 x.f1 x.f0 x.f1 = some true := by
  unfold laws_eqShare.f
  simp

theorem laws_eqShareS_refl (l : List (S96)) (h : l.length ≤ 1048576) : Ev (fun k => laws_eqShareS.f k l l) true := by
  unfold laws_eqShareS.f
  refine Ev.pos rfl ?_
  refine ev_walk l (fun k i => laws_eqShareS.l0 k l l i) true ?_ ?_
  · refine Ev.succ ?_
    simp only [laws_eqShareS.l0, Int.lt_irrefl, if_false]
    exact Ev.now _
  · intro i x hx hr
    have hi := lt_of_get hx
    have h1 : ((i : Int) < (l.length : Int)) = True := eq_true (by omega)
    have h2 : (0 ≤ (i : Int)) = True := eq_true (by omega)
    refine Ev.succ ?_
    simp only [laws_eqShareS.l0, h1, h2, if_true, rd_at_T96 hx, wr1 hi (by omega), laws_eqShare_refl x, Option.bind_some]
    exact hr

theorem spec_Min_eq (a b : Int) : spec_Min.f a b = some (if b < a then b else a) := by
  unfold spec_Min.f; split <;> rfl

theorem spec_Max_eq (a b : Int) : spec_Max.f a b = some (if b > a then b else a) := by
  unfold spec_Max.f; split <;> rfl

/-- What a share counts. -/
def shV (x : S96) : Int := if (if x.f1 > 0 then x.f1 else 0) < 101 then (if x.f1 > 0 then x.f1 else 0) else 101
theorem shV_range (x : S96) : 0 ≤ shV x ∧ shV x ≤ 101 := by unfold shV; split <;> split <;> omega
def sumS (l : List S96) : Int := l.foldl (fun s x => s + shV x) 0
theorem spec_SumShares_ev (l : List S96) (h : l.length ≤ 1048576) : Ev (fun k => spec_SumShares.f k l) (sumS l) := by
  unfold spec_SumShares.f sumS
  refine ev_fold l (fun s x => s + shV x) id (fun i s => 0 ≤ s ∧ s ≤ 101 * i) (fun k s i => spec_SumShares.l0 k l s i) ?_ ?_ ?_ 0 ⟨by omega, by omega⟩
  · intro s _
    refine Ev.succ ?_
    simp only [spec_SumShares.l0, Int.lt_irrefl, if_false]
    exact Ev.now _
  · intro i x s hx hs
    have := shV_range x
    exact ⟨by omega, by omega⟩
  · intro i x s r hx hs hr
    have hi := lt_of_get hx
    have h1 : ((i : Int) < (l.length : Int)) = True := eq_true (by omega)
    have h2 : (0 ≤ (i : Int)) = True := eq_true (by omega)
    have hv := shV_range x
    refine Ev.succ ?_
    simp only [spec_SumShares.l0, h1, h2, if_true, spec_Max_eq, spec_Min_eq, Option.bind_some, rd_at_T96 hx, wr1 hi (by omega)]
    rw [← shV, wr (by omega) (by omega)]
    exact hr

/-- A share is in order at its place. -/
def shP (l : List S96) (i : Nat) : Bool := !decide ((rd_T96 l (i : Int)).f1 < 0) && (decide (i = 0) || decide ((rd_T96 l ((i - 1 : Nat) : Int)).f0 < (rd_T96 l (i : Int)).f0))
def shB (l : List S96) : Bool := allN l.length (shP l) && (decide ((l.length : Int) ≤ 6) && decide (sumS l ≤ 100))
theorem spec_AreShares_ev (l : List S96) (h : l.length ≤ 1048576) : Ev (fun k => spec_AreShares.f k l) (shB l) := by
  unfold spec_AreShares.f shB
  refine ev_all l.length (shP l) _ (fun k i => spec_AreShares.l0 k l i) ?_ ?_
  · refine Ev.succ ?_
    simp only [spec_AreShares.l0, Int.lt_irrefl, if_false]
    by_cases c : (l.length : Int) ≤ 6
    · simp only [if_pos c, decide_eq_true c, Bool.true_and]
      exact Ev.bind (spec_SumShares_ev l h) (Ev.now _)
    · simp only [if_neg c, decide_eq_false c, Bool.false_and]; exact Ev.now _
  · intro i hi
    have h1 : ((i : Int) < (l.length : Int)) = True := eq_true (by omega)
    have h2 : (0 ≤ (i : Int)) = True := eq_true (by omega)
    have h3 := wr1 hi (show l.length ≤ 9223372036854775807 by omega)
    constructor
    · intro hp r hr
      simp only [shP, Bool.and_eq_true, Bool.or_eq_true, Bool.not_eq_true', decide_eq_true_eq, decide_eq_false_iff_not] at hp
      refine Ev.succ ?_
      simp only [spec_AreShares.l0, h1, h2, if_true, if_neg hp.1, h3]
      by_cases c : i = 0
      · exact Ev.neg (by omega) hr
      · simp only [if_pos (show (i : Int) > 0 by omega), wrm (show 0 < i by omega) (by omega), if_pos (show 0 ≤ ((i - 1 : Nat) : Int) by omega), if_pos (show ((i - 1 : Nat) : Int) < (l.length : Int) by omega)]
        exact Ev.neg (by have := hp.2; omega) hr
    · intro hp
      refine Ev.succ ?_
      simp only [spec_AreShares.l0, h1, h2, if_true, h3]
      by_cases c0 : (rd_T96 l (i : Int)).f1 < 0
      · simp only [if_pos c0]; exact Ev.now _
      · simp only [shP, c0, decide_false, Bool.not_false, Bool.true_and, Bool.or_eq_false_iff, decide_eq_false_iff_not] at hp
        simp only [if_neg c0, if_pos (show (i : Int) > 0 by omega), wrm (show 0 < i by omega) (by omega), if_pos (show 0 ≤ ((i - 1 : Nat) : Int) by omega), if_pos (show ((i - 1 : Nat) : Int) < (l.length : Int) by omega)]
        exact Ev.pos (by omega) (Ev.now _)

theorem impl_SumShares_ev (l : List S96) (h : l.length ≤ 1048576) : Ev (fun k => impl_SumShares.f k l) (sumS l) := by
  unfold impl_SumShares.f sumS
  refine ev_fold l (fun s x => s + shV x) id (fun i s => 0 ≤ s ∧ s ≤ 101 * i) (fun k s i => impl_SumShares.l0 k s l (l.length : Int) i) ?_ ?_ ?_ 0 ⟨by omega, by omega⟩
  · intro s _
    refine Ev.succ ?_
    simp only [impl_SumShares.l0, Int.lt_irrefl, if_false]
    exact Ev.now _
  · intro i x s hx hs
    have := shV_range x
    exact ⟨by omega, by omega⟩
  · intro i x s r hx hs hr
    have hi := lt_of_get hx
    have h1 : ((i : Int) < (l.length : Int)) = True := eq_true (by omega)
    have h2 : (0 ≤ (i : Int)) = True := eq_true (by omega)
    have hv := shV_range x
    have e : mx (mn x.f1 101) 0 = shV x := by unfold mx mn shV; split <;> split <;> split <;> omega
    refine Ev.succ ?_
    simp only [impl_SumShares.l0, h1, h2, if_true, rd_at_T96 hx, wr1 hi (by omega), e]
    rw [wr (by omega) (by omega)]
    exact hr

theorem impl_AreShares_ev (l : List S96) (h : l.length ≤ 1048576) : Ev (fun k => impl_AreShares.f k l) (shB l) := by
  unfold impl_AreShares.f shB
  refine ev_all l.length (shP l) _ (fun k i => impl_AreShares.l0 k l l (l.length : Int) i) ?_ ?_
  · refine Ev.succ ?_
    simp only [impl_AreShares.l0, Int.lt_irrefl, if_false]
    by_cases c : (l.length : Int) ≤ 6
    · simp only [if_pos c, decide_eq_true c, Bool.true_and]
      exact Ev.bind (impl_SumShares_ev l h) (Ev.now _)
    · simp only [if_neg c, decide_eq_false c, Bool.false_and]; exact Ev.now _
  · intro i hi
    have h1 : ((i : Int) < (l.length : Int)) = True := eq_true (by omega)
    have h2 : (0 ≤ (i : Int)) = True := eq_true (by omega)
    have h3 := wr1 hi (show l.length ≤ 9223372036854775807 by omega)
    constructor
    · intro hp r hr
      simp only [shP, Bool.and_eq_true, Bool.or_eq_true, Bool.not_eq_true', decide_eq_true_eq, decide_eq_false_iff_not] at hp
      refine Ev.succ ?_
      simp only [impl_AreShares.l0, h1, h2, if_true, if_neg hp.1, h3]
      by_cases c : i = 0
      · exact Ev.neg (by omega) hr
      · simp only [if_pos (show (i : Int) > 0 by omega), wrm (show 0 < i by omega) (by omega), if_pos (show 0 ≤ ((i - 1 : Nat) : Int) by omega), if_pos (show ((i - 1 : Nat) : Int) < (l.length : Int) by omega)]
        exact Ev.neg (by have := hp.2; omega) hr
    · intro hp
      refine Ev.succ ?_
      simp only [impl_AreShares.l0, h1, h2, if_true, h3]
      by_cases c0 : (rd_T96 l (i : Int)).f1 < 0
      · simp only [if_pos c0]; exact Ev.now _
      · simp only [shP, c0, decide_false, Bool.not_false, Bool.true_and, Bool.or_eq_false_iff, decide_eq_false_iff_not] at hp
        simp only [if_neg c0, if_pos (show (i : Int) > 0 by omega), wrm (show 0 < i by omega) (by omega), if_pos (show 0 ≤ ((i - 1 : Nat) : Int) by omega), if_pos (show ((i - 1 : Nat) : Int) < (l.length : Int) by omega)]
        exact Ev.pos (by omega) (Ev.now _)

theorem FnExactAreShares : laws_FnExactAreShares.Pure := by
  intro l h1 h2
  refine Ev.rounds ?_
  unfold laws_FnExactAreShares.f
  obtain ⟨r, e, _, hr⟩ := laws_szShareS_le l h1 1048576 (by omega) (by omega)
  simp only [e, Option.bind_some]
  by_cases c : r < 0
  · simp only [if_pos c]; exact Ev.now _
  simp only [if_neg c]
  have hb := hr (by omega)
  have hm : (l.map cv98).length ≤ 1048576 := by rw [List.length_map]; omega
  refine Ev.bind (laws_toShareS_ev l (by omega)) ?_
  refine Ev.bind (spec_AreShares_ev _ hm) ?_
  refine Ev.bind (laws_toShareS_ev l (by omega)) ?_
  refine Ev.bind (impl_AreShares_ev _ hm) ?_
  simp only [bne_self_eq_false, Bool.false_eq_true, if_false, if_true]
  refine Ev.bind (laws_toShareS_ev l (by omega)) ?_
  refine Ev.bind (laws_eqShareS_refl _ hm) ?_
  exact Ev.now _

end Go.Proofs.Ytijhppbhaaikmaa.Pure
