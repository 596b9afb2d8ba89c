/- The law FnExactEqualEmergencies answers true for all arguments, over numbers and lists alone: what each function computes, and that program and reference compute the same. No condition. -/
import Derived.Test.YtoncnbcgpflhiaaQFnExactEqualEmergenciesx3
import Derived.Test.YtoncnbcgpflhiaaL
namespace Go.Proofs.Ytoncnbcgpflhiaa.Pure
open Go.RowKit Go.Proofs.Ytoncnbcgpflhiaa.QFnExactEqualEmergencies Go.Proofs.YtoncnbcgpflhiaaL Go.Proofs.YtoncnbcgpflhiaaW.PrintWords Go.Proofs.YtoncnbcgpflhiaaW.PrintLast
set_option linter.unusedVariables false
set_option linter.unusedSimpArgs false

def cv116 (x : S116) : S117 := ⟨x.f0, x.f1, x.f2, x.f3, x.f4, x.f5⟩
def n116 (x : S116) : Nat := x.f4.length
def n117 (x : S117) : Nat := x.f4.length
theorem rd_at_T116 {l : List S116} {i : Nat} {x : S116} (h : l[i]? = some x) : rd_T116 l (i : Int) = x := getD_nat l _ i x h
theorem rd_at_T117 {l : List S117} {i : Nat} {x : S117} (h : l[i]? = some x) : rd_T117 l (i : Int) = x := getD_nat l _ i x h

theorem laws_szIntS_le (l : List Int) (hl : l.length ≤ maxLen) (a : Int) (h0 : 0 ≤ a) (ha : a ≤ 1048576) : ∃ r, laws_szIntS.f l a = some r ∧ r ≤ 1048576 ∧ (0 ≤ r → r + (l.length : Nat) ≤ a) := by
  unfold laws_szIntS.f
  unfold maxLen at hl
  rw [wr (by omega) (by omega)]
  split
  · exact ⟨_, rfl, by omega, by omega⟩
  · exact ⟨_, rfl, by omega, by omega⟩

theorem laws_szEmergency_le (x : S116) (hg : g116 x) (a : Int) (h0 : 0 ≤ a) (ha : a ≤ 1048576) : ∃ r, laws_szEmergency.f x.f0 x.f1 x.f2 x.f3 x.f4 x.f5 a = some r ∧ r ≤ 1048576 ∧ (0 ≤ r → r + (n116 x : Nat) ≤ a) := by
  unfold g116 at hg
  unfold n116 laws_szEmergency.f
  obtain ⟨r0, e0, b0, s0⟩ := laws_szIntS_le x.f4 (by have := hg; simp_all) a (by omega) (by omega)
  rw [e0]; simp only [Option.bind_some]
  by_cases c0 : r0 < 0
  · rw [if_pos c0]; exact ⟨_, rfl, by omega, by omega⟩
  rw [if_neg c0]
  have s0' := s0 (by omega)
  exact ⟨_, rfl, by omega, by omega⟩

theorem laws_szEmergencyS_le (l : List (S116)) (hl : l.length ≤ maxLen) (hg : ∀ y_ ∈ l, g116 y_) (a : Int) (h0 : 0 ≤ a) (ha : a ≤ 1048576) : ∃ r, Ev (fun k => laws_szEmergencyS.f k l a) r ∧ r ≤ 1048576 ∧ (0 ≤ r → r + (l.length + (l.map n116).sum : Nat) ≤ a) := by
  unfold laws_szEmergencyS.f
  unfold maxLen at hl
  rw [wr (by omega) (by omega)]
  by_cases c : a - (l.length : Int) < 0
  · simp only [if_pos c]; exact ⟨_, Ev.now _, by omega, by omega⟩
  simp only [if_neg c]
  have hend : ∀ a, Ev (fun k => laws_szEmergencyS.l0 k l a (l.length : Int)) a := by
    intro a
    refine Ev.succ ?_
    simp only [laws_szEmergencyS.l0, Int.lt_irrefl, if_false]
    exact Ev.now _
  have hstep : ∀ (i : Nat) (x : S116) (a : Int), l[i]? = some x → 0 ≤ a → a ≤ 1048576 → (∃ r, Ev (fun k => laws_szEmergencyS.l0 k l a (i : Int)) r ∧ r < 0) ∨ ∃ a', 0 ≤ a' ∧ a' + n116 x ≤ a ∧ ∀ r, Ev (fun k => laws_szEmergencyS.l0 k l a' ((i + 1 : Nat) : Int)) r → Ev (fun k => laws_szEmergencyS.l0 k l a (i : Int)) r := by
    intro i x a hx h0 ha
    have hi := lt_of_get hx
    have h1 : ((i : Int) < (l.length : Int)) = True := eq_true (by omega)
    have h2 : (0 ≤ (i : Int)) = True := eq_true (by omega)
    obtain ⟨r, e, b, s⟩ := laws_szEmergency_le x (hg x (List.mem_of_getElem? hx)) a h0 ha
    by_cases c2 : r < 0
    · left
      refine ⟨-1, Ev.succ ?_, by omega⟩
      simp only [laws_szEmergencyS.l0, h1, h2, if_true, rd_at_T116 hx, e, Option.bind_some, if_pos c2]
      exact Ev.now _
    · right
      have s' := s (by omega)
      refine ⟨r, by omega, by omega, fun r' hr => Ev.succ ?_⟩
      simp only [laws_szEmergencyS.l0, h1, h2, if_true, rd_at_T116 hx, e, Option.bind_some, if_neg c2, wr1 hi (by omega)]
      exact hr
  obtain ⟨r, h1, h2, h3⟩ := ev_sz n116 l (fun k a i => laws_szEmergencyS.l0 k l a i) 1048576 hend hstep (a - l.length) (by omega) (by omega)
  exact ⟨r, h1, h2, fun h => by have := h3 h; omega⟩

theorem spec_EqualInts_ev (l m : List Int) (h : l.length ≤ 9223372036854775807) : Ev (fun k => spec_EqualInts.f k l m) (decide (l = m)) := by
  unfold spec_EqualInts.f
  by_cases c : l.length = m.length
  · have e : decide (l = m) = (allN l.length (fun i => decide (l.getD i 0 = m.getD i 0)) && true) := by
      rw [← allZ_eq l m c, allZ_allN _ l m 0 0 c, Bool.and_true]
    rw [e]
    refine Ev.pos (by omega) (ev_all l.length _ true (fun k i => spec_EqualInts.l0 k l m i) ?_ ?_)
    · refine Ev.succ ?_
      simp only [spec_EqualInts.l0, Int.lt_irrefl, if_false]
      exact Ev.now _
    · intro i hi
      have h1 : ((i : Int) < (l.length : Int)) = True := eq_true (by omega)
      have h2 : (0 ≤ (i : Int)) = True := eq_true (by omega)
      have h3 : ((i : Int) < (m.length : Int)) = True := eq_true (by omega)
      have h4 := wr1 hi h
      have r1 : rd l (i : Int) = l.getD i 0 := by simp [rd]
      have r2 : rd m (i : Int) = m.getD i 0 := by simp [rd]
      refine ⟨fun hp r hr => ?_, fun hp => ?_⟩
      · refine Ev.succ ?_
        simp only [spec_EqualInts.l0, h1, h2, h3, if_true, h4, r1, r2, if_pos (of_decide_eq_true hp)]
        exact hr
      · refine Ev.succ ?_
        simp only [spec_EqualInts.l0, h1, h2, h3, if_true, h4, r1, r2, if_neg (of_decide_eq_false hp)]
        exact Ev.now _
  · rw [show decide (l = m) = false from decide_eq_false (fun e => c (by rw [e]))]
    exact Ev.neg (by omega) (Ev.now _)

def eqX (x y : S117) : Bool := decide (x.f0 = y.f0) && (decide (x.f1 = y.f1) && (decide (x.f2 = y.f2) && (decide (x.f3 = y.f3) && ((x.f5 == y.f5) && (decide (x.f4 = y.f4))))))
def eqXs (l m : List S117) : Bool := decide (l.length = m.length) && allZ eqX l m
theorem spec_EqualEmergencies_ev (l m : List S117) (h : l.length + (l.map n117).sum ≤ 1048576) : Ev (fun k => spec_EqualEmergencies.f k l m) (eqXs l m) := by
  unfold spec_EqualEmergencies.f eqXs
  by_cases c : l.length = m.length
  rotate_left
  · rw [decide_eq_false c, Bool.false_and]
    exact Ev.neg (by omega) (Ev.now _)
  rw [decide_eq_true c, Bool.true_and, allZ_allN eqX l m z117 z117 c, ← Bool.and_true (allN _ _)]
  refine Ev.pos (by omega) (ev_all l.length _ true (fun k i => spec_EqualEmergencies.l0 k l m i) ?_ ?_)
  · refine Ev.succ ?_
    simp only [spec_EqualEmergencies.l0, Int.lt_irrefl, if_false]
    exact Ev.now _
  · intro i hi
    have h1 : ((i : Int) < (l.length : Int)) = True := eq_true (by omega)
    have h2 : (0 ≤ (i : Int)) = True := eq_true (by omega)
    have h3 : ((i : Int) < (m.length : Int)) = True := eq_true (by omega)
    have h4 := wr1 hi (show l.length ≤ 9223372036854775807 by omega)
    obtain ⟨x, hx⟩ := getAt hi
    obtain ⟨y, hy⟩ := getAt (show i < m.length by omega)
    have g1 : l.getD i z117 = x := by rw [List.getD_eq_getElem?_getD, hx]; rfl
    have g2 : m.getD i z117 = y := by rw [List.getD_eq_getElem?_getD, hy]; rfl
    have hn : x.f4.length ≤ 9223372036854775807 := by have := le_sum n117 hx; have e : n117 x = x.f4.length := rfl; omega
    rw [g1, g2]
    have key : ∀ r, (eqX x y = true → Ev (fun k => spec_EqualEmergencies.l0 k l m ((i + 1 : Nat) : Int)) r) → Ev (fun k => spec_EqualEmergencies.l0 k l m (i : Int)) (if eqX x y = true then r else false) := by
      intro r hr
      refine Ev.succ ?_
      unfold eqX at hr ⊢
      simp only [spec_EqualEmergencies.l0, h1, h2, h3, if_true, h4, rd_at_T117 hx, rd_at_T117 hy]
      by_cases c0 : x.f0 = y.f0
      rotate_left
      · simp only [if_neg c0, decide_eq_false c0, Bool.false_and, Bool.false_eq_true, if_false]; exact Ev.now _
      simp only [decide_eq_true c0, Bool.true_and] at hr
      simp only [if_pos c0, decide_eq_true c0, Bool.true_and]
      by_cases c1 : x.f1 = y.f1
      rotate_left
      · simp only [if_neg c1, decide_eq_false c1, Bool.false_and, Bool.false_eq_true, if_false]; exact Ev.now _
      simp only [decide_eq_true c1, Bool.true_and] at hr
      simp only [if_pos c1, decide_eq_true c1, Bool.true_and]
      by_cases c2 : x.f2 = y.f2
      rotate_left
      · simp only [if_neg c2, decide_eq_false c2, Bool.false_and, Bool.false_eq_true, if_false]; exact Ev.now _
      simp only [decide_eq_true c2, Bool.true_and] at hr
      simp only [if_pos c2, decide_eq_true c2, Bool.true_and]
      by_cases c3 : x.f3 = y.f3
      rotate_left
      · simp only [if_neg c3, decide_eq_false c3, Bool.false_and, Bool.false_eq_true, if_false]; exact Ev.now _
      simp only [decide_eq_true c3, Bool.true_and] at hr
      simp only [if_pos c3, decide_eq_true c3, Bool.true_and]
      cases e5 : (x.f5 == y.f5) with
      | false =>
        have e' : (x.f5 != y.f5) = true := by simp [bne, e5]
        simp only [e', Bool.false_and, Bool.false_eq_true, if_false, if_true]; exact Ev.now _
      | true =>
      have e' : (x.f5 != y.f5) = false := by simp [bne, e5]
      simp only [e5, Bool.true_and] at hr
      simp only [e', Bool.true_and, Bool.false_eq_true, if_false]
      refine Ev.bind (spec_EqualInts_ev x.f4 y.f4 hn) ?_
      by_cases c4 : x.f4 = y.f4
      rotate_left
      · simp only [decide_eq_false c4, Bool.false_eq_true, if_false]; exact Ev.now _
      simp only [decide_eq_true c4, if_true] at hr ⊢
      exact hr trivial
    constructor
    · intro hp r hr
      have := key r (fun _ => hr)
      rwa [if_pos hp] at this
    · intro hp
      have := key false (fun h => by rw [hp] at h; cases h)
      rwa [hp] at this

theorem laws_toIntS_ev (l : List Int) (h : l.length ≤ 1048576) : Ev (fun k => laws_toIntS.f k l) l := by
  unfold laws_toIntS.f
  have e : l = l.map id := by simp
  conv => rhs; rw [e]
  refine Ev.pos (by omega) (Ev.pos (by omega) ?_)
  refine ev_fill l id (fun k out i => laws_toIntS.l0 k l out i) ?_ ?_ _ (by simp)
  · intro out ho
    refine Ev.succ ?_
    simp only [laws_toIntS.l0, Int.lt_irrefl, if_false]
    exact Ev.now _
  · intro i x out r hx ho hr
    have hi := lt_of_get hx
    have h1 : ((i : Int) < (l.length : Int)) = True := eq_true (by omega)
    have h2 : (0 ≤ (i : Int)) = True := eq_true (by omega)
    have h3 : ((i : Int) < (out.length : Int)) = True := eq_true (by omega)
    refine Ev.succ ?_
    simp only [laws_toIntS.l0, h1, h2, h3, if_true, rd_nat l i x hx, wr1 hi (by omega), Int.toNat_natCast]
    exact hr

theorem laws_toEmergency_ev (x : S116) (h : n116 x ≤ 1048576) : Ev (fun k => laws_toEmergency.f k x.f0 x.f1 x.f2 x.f3 x.f4 x.f5) ((cv116 x).f0, (cv116 x).f1, (cv116 x).f2, (cv116 x).f3, (cv116 x).f4, (cv116 x).f5) := by
  unfold n116 at h
  unfold laws_toEmergency.f
  repeat (first | exact Ev.now _ | (refine Ev.bind (laws_toIntS_ev _ (by omega)) ?_; try simp only []))

theorem laws_toEmergencyS_ev (l : List (S116)) (h : l.length + (l.map n116).sum ≤ 1048576) : Ev (fun k => laws_toEmergencyS.f k l) (l.map cv116) := by
  unfold laws_toEmergencyS.f
  refine Ev.pos (by omega) (Ev.pos (by omega) ?_)
  refine ev_fill l cv116 (fun k out i => laws_toEmergencyS.l0 k l out i) ?_ ?_ _ (by simp)
  · intro out ho
    refine Ev.succ ?_
    simp only [laws_toEmergencyS.l0, Int.lt_irrefl, if_false]
    exact Ev.now _
  · intro i x out r hx ho hr
    have hi := lt_of_get hx
    have h1 : ((i : Int) < (l.length : Int)) = True := eq_true (by omega)
    have h2 : (0 ≤ (i : Int)) = True := eq_true (by omega)
    have h3 : ((i : Int) < (out.length : Int)) = True := eq_true (by omega)
    refine Ev.succ ?_
    simp only [laws_toEmergencyS.l0, h1, h2, h3, if_true, rd_at_T116 hx, wr1 hi (by omega), Int.toNat_natCast]
    refine Ev.bind (laws_toEmergency_ev x (by have := le_sum n116 hx; omega)) ?_
    simp only [h3, if_true]
    exact hr

theorem slices_Equal_int_int_ev (l m : List Int) (h : l.length ≤ 9223372036854775807) : Ev (fun k => slices_Equal_int_int.f k l m) (decide (l = m)) := by
  unfold slices_Equal_int_int.f
  by_cases c : l.length = m.length
  · have e : decide (l = m) = (allN l.length (fun i => decide (l.getD i 0 = m.getD i 0)) && true) := by
      rw [← allZ_eq l m c, allZ_allN _ l m 0 0 c, Bool.and_true]
    rw [e]
    refine Ev.pos (by omega) (ev_all l.length _ true (fun k i => slices_Equal_int_int.l0 k l m (l.length : Int) i) ?_ ?_)
    · refine Ev.succ ?_
      simp only [slices_Equal_int_int.l0, Int.lt_irrefl, if_false]
      exact Ev.now _
    · intro i hi
      have h1 : ((i : Int) < (l.length : Int)) = True := eq_true (by omega)
      have h2 : (0 ≤ (i : Int)) = True := eq_true (by omega)
      have h3 : ((i : Int) < (m.length : Int)) = True := eq_true (by omega)
      have h4 := wr1 hi h
      have r1 : rd l (i : Int) = l.getD i 0 := by simp [rd]
      have r2 : rd m (i : Int) = m.getD i 0 := by simp [rd]
      refine ⟨fun hp r hr => ?_, fun hp => ?_⟩
      · refine Ev.succ ?_
        simp only [slices_Equal_int_int.l0, h1, h2, h3, if_true, h4, r1, r2, if_pos (of_decide_eq_true hp)]
        exact hr
      · refine Ev.succ ?_
        simp only [slices_Equal_int_int.l0, h1, h2, h3, if_true, h4, r1, r2, if_neg (of_decide_eq_false hp)]
        exact Ev.now _
  · rw [show decide (l = m) = false from decide_eq_false (fun e => c (by rw [e]))]
    exact Ev.neg (by omega) (Ev.now _)

theorem impl_equalEmergency_ev (x y : S117) (h : x.f4.length ≤ 9223372036854775807) : Ev (fun k => impl_equalEmergency.f k x.f0 x.f1 x.f2 x.f3 x.f4 x.f5 y.f0 y.f1 y.f2 y.f3 y.f4 y.f5) (eqX x y) := by
  unfold impl_equalEmergency.f eqX
  by_cases c0 : x.f0 = y.f0
  rotate_left
  · simp only [if_neg c0, decide_eq_false c0, Bool.and_false, Bool.false_and]; exact Ev.now _
  simp only [if_pos c0, decide_eq_true c0, Bool.true_and, Bool.and_true]
  by_cases c1 : x.f1 = y.f1
  rotate_left
  · simp only [if_neg c1, decide_eq_false c1, Bool.and_false, Bool.false_and]; exact Ev.now _
  simp only [if_pos c1, decide_eq_true c1, Bool.true_and, Bool.and_true]
  by_cases c2 : x.f2 = y.f2
  rotate_left
  · simp only [if_neg c2, decide_eq_false c2, Bool.and_false, Bool.false_and]; exact Ev.now _
  simp only [if_pos c2, decide_eq_true c2, Bool.true_and, Bool.and_true]
  by_cases c3 : x.f3 = y.f3
  rotate_left
  · simp only [if_neg c3, decide_eq_false c3, Bool.and_false, Bool.false_and]; exact Ev.now _
  simp only [if_pos c3, decide_eq_true c3, Bool.true_and, Bool.and_true]
  refine Ev.bind (slices_Equal_int_int_ev x.f4 y.f4 h) ?_
  by_cases c4 : x.f4 = y.f4
  rotate_left
  · simp only [decide_eq_false c4, Bool.false_eq_true, if_false, Bool.and_false, Bool.false_and]; exact Ev.now _
  simp only [decide_eq_true c4, if_true, Bool.true_and, Bool.and_true]
  exact Ev.now _

theorem impl_EqualEmergencies_ev (l m : List S117) (h : l.length + (l.map n117).sum ≤ 1048576) : Ev (fun k => impl_EqualEmergencies.f k l m) (eqXs l m) := by
  unfold impl_EqualEmergencies.f eqXs
  refine ev_eqO (fun k x y => impl_equalEmergency.f k x.f0 x.f1 x.f2 x.f3 x.f4 x.f5 y.f0 y.f1 y.f2 y.f3 y.f4 y.f5) eqX l m (fun x hx y => impl_equalEmergency_ev x y ?_)
  obtain ⟨i, hi⟩ := List.getElem?_of_mem hx
  have := le_sum n117 hi
  have e : n117 x = x.f4.length := rfl
  omega

theorem laws_eqIntS_refl (l : List Int) (h : l.length ≤ 1048576) : Ev (fun k => laws_eqIntS.f k l l) true := by
  unfold laws_eqIntS.f
  refine Ev.pos rfl ?_
  refine ev_walk l (fun k i => laws_eqIntS.l0 k l l i) true ?_ ?_
  · refine Ev.succ ?_
    simp only [laws_eqIntS.l0, Int.lt_irrefl, if_false]
    exact Ev.now _
  · intro i x hx hr
    have hi := lt_of_get hx
    have h1 : ((i : Int) < (l.length : Int)) = True := eq_true (by omega)
    have h2 : (0 ≤ (i : Int)) = True := eq_true (by omega)
    refine Ev.succ ?_
    simp only [laws_eqIntS.l0, h1, h2, if_true, rd_nat l i x hx, wr1 hi (by omega)]
    exact hr

theorem laws_eqEmergency_refl (x : S117) (h : n117 x ≤ 1048576) : Ev (fun k => laws_eqEmergency.f k x.f0 x.f1 x.f2 x.f3 x.f4 x.f5 x.f0 x.f1 x.f2 x.f3 x.f4 x.f5) true := by
  unfold n117 at h
  unfold laws_eqEmergency.f
  simp only [if_true, bne_self_eq_false, Bool.false_eq_true, if_false]
  repeat (first | exact Ev.now _ | (refine Ev.bind (laws_eqIntS_refl _ (by omega)) ?_; simp only [if_true, bne_self_eq_false, Bool.false_eq_true, if_false]))

theorem laws_eqEmergencyS_refl (l : List (S117)) (h : l.length + (l.map n117).sum ≤ 1048576) : Ev (fun k => laws_eqEmergencyS.f k l l) true := by
  unfold laws_eqEmergencyS.f
  refine Ev.pos rfl ?_
  refine ev_walk l (fun k i => laws_eqEmergencyS.l0 k l l i) true ?_ ?_
  · refine Ev.succ ?_
    simp only [laws_eqEmergencyS.l0, Int.lt_irrefl, if_false]
    exact Ev.now _
  · intro i x hx hr
    have hi := lt_of_get hx
    have h1 : ((i : Int) < (l.length : Int)) = True := eq_true (by omega)
    have h2 : (0 ≤ (i : Int)) = True := eq_true (by omega)
    refine Ev.succ ?_
    simp only [laws_eqEmergencyS.l0, h1, h2, if_true, rd_at_T117 hx, wr1 hi (by omega)]
    refine Ev.bind (laws_eqEmergency_refl x (by have := le_sum n117 hx; omega)) ?_
    simp only [if_true]
    exact hr

theorem FnExactEqualEmergencies : laws_FnExactEqualEmergencies.Pure := by
  intro l l' h1 h2 h1' h2'
  refine Ev.rounds ?_
  unfold laws_FnExactEqualEmergencies.f
  obtain ⟨r, e, hr1, hr⟩ := laws_szEmergencyS_le l h1 h2 1048576 (by omega) (by omega)
  refine Ev.bind e ?_
  by_cases c : r < 0
  · simp only [if_pos c]; exact Ev.now _
  simp only [if_neg c]
  have hb := hr (by omega)
  have hs : ((l.map cv116).map n117).sum = (l.map n116).sum := by rw [List.map_map]; rfl
  have hm : (l.map cv116).length + ((l.map cv116).map n117).sum ≤ 1048576 := by rw [List.length_map, hs]; omega
  obtain ⟨r', e', hr1', hr'⟩ := laws_szEmergencyS_le l' h1' h2' r (by omega) (by omega)
  refine Ev.bind e' ?_
  by_cases c' : r' < 0
  · simp only [if_pos c']; exact Ev.now _
  simp only [if_neg c']
  have hb' := hr' (by omega)
  have hs' : ((l'.map cv116).map n117).sum = (l'.map n116).sum := by rw [List.map_map]; rfl
  have hm' : (l'.map cv116).length + ((l'.map cv116).map n117).sum ≤ 1048576 := by rw [List.length_map, hs']; omega
  repeat (first
    | exact Ev.now _
    | ((first | refine Ev.bind (laws_toEmergencyS_ev l (by omega)) ?_ | refine Ev.bind (laws_toEmergencyS_ev l' (by omega)) ?_ | refine Ev.bind (spec_EqualEmergencies_ev _ _ hm) ?_ | refine Ev.bind (impl_EqualEmergencies_ev _ _ hm) ?_ | refine Ev.bind (laws_eqEmergencyS_refl _ hm) ?_ | refine Ev.bind (laws_eqEmergencyS_refl _ hm') ?_); try simp only [if_true, if_false, bne_self_eq_false, Bool.false_eq_true]))

end Go.Proofs.Ytoncnbcgpflhiaa.Pure
