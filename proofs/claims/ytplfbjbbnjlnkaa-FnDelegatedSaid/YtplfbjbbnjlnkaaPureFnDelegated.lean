/- The law FnDelegated answers true for all arguments, over numbers and lists alone: what each function computes, and that program and reference compute the same. No condition. -/
import Derived.Test.YtplfbjbbnjlnkaaQFnDelegatedx8
import Derived.Test.YtplfbjbbnjlnkaaL
namespace Go.Proofs.Ytplfbjbbnjlnkaa.Pure
open Go.RowKit Go.Proofs.Ytplfbjbbnjlnkaa.QFnDelegated Go.Proofs.YtplfbjbbnjlnkaaL Go.Proofs.YtplfbjbbnjlnkaaW.PrintWords Go.Proofs.YtplfbjbbnjlnkaaW.PrintLast
set_option linter.unusedVariables false
set_option linter.unusedSimpArgs false

def n51 (x : S51) : Nat := x.f3.length
theorem rd_at_T51 {l : List S51} {i : Nat} {x : S51} (h : l[i]? = some x) : rd_T51 l (i : Int) = x := getD_nat l _ i x h

theorem foldl_snoc {α : Type} : ∀ (l s : List α), l.foldl (fun s x => s ++ [x]) s = s ++ l
  | [], s => by simp
  | x :: l, s => by rw [List.foldl_cons, foldl_snoc l]; simp
theorem impl_copyGrants_ev (l : List S51) (h : l.length + (l.map n51).sum ≤ 1048576) : Ev (fun k => impl_copyGrants.f k l) l := by
  unfold impl_copyGrants.f
  have e : l = l.foldl (fun s x => s ++ [x]) [] := by rw [foldl_snoc]; rfl
  conv => rhs; rw [e]
  refine ev_fold l (fun s x => s ++ [x]) id (fun i s => s.length = i) (fun k s i => impl_copyGrants.l0 k s l (l.length : Int) i) ?_ ?_ ?_ [] rfl
  · intro s _
    refine Ev.succ ?_
    simp only [impl_copyGrants.l0, Int.lt_irrefl, if_false]
    exact Ev.now _
  · intro i x s hx hs
    simp [hs]
  · intro i x s r hx hs hr
    have hi := lt_of_get hx
    have hn := le_sum n51 hx
    unfold n51 at hn
    have hs' : s.length = i := hs
    have h1 : ((i : Int) < (l.length : Int)) = True := eq_true (by omega)
    have h2 : (0 ≤ (i : Int)) = True := eq_true (by omega)
    have h3 : (s.length < 1954687338268) = True := eq_true (by omega)
    have h4 : (([] : List Int).length + x.f3.length < 17592186044416) = True := eq_true (by rw [List.length_nil]; unfold n51 at h; omega)
    refine Ev.succ ?_
    simp only [impl_copyGrants.l0, h1, h2, h3, h4, if_true, rd_at_T51 hx, wr1 hi (by omega), Option.bind_some, List.nil_append]
    exact hr

theorem impl_InRange_eq (a b c : Int) : impl_InRange.f a b c = some (inB a b c) := by
  unfold impl_InRange.f
  rw [ite_dand]; rfl

theorem impl_IsName_eq (a : Int) : impl_IsName.f a = some (nameB a) := by
  unfold impl_IsName.f
  rw [impl_InRange_eq]; rfl

theorem impl_KindOf_eq (a : Int) : impl_KindOf.f a = some (if nameB a = true then a / 10 else 0) := by
  unfold impl_KindOf.f
  rw [impl_IsName_eq, Option.bind_some]
  cases h : nameB a with
  | true => simp only [if_true, name_div h]
  | false => rfl

theorem impl_HasKind_eq (a b : Int) : impl_HasKind.f a b = some (kindB a b) := by
  unfold impl_HasKind.f kindB
  rw [impl_IsName_eq, impl_KindOf_eq, Option.bind_some]
  cases h : nameB a with
  | true => simp only [if_true, Option.bind_some, Bool.true_and]
  | false => rfl

theorem impl_IsTime_eq (a : Int) : impl_IsTime.f a = some (timeB a) := by
  unfold impl_IsTime.f
  rw [impl_InRange_eq]; rfl

/-- Strictly ascending, and all in a range. -/
def ascP (l : List Int) (a b : Int) (i : Nat) : Bool := inB (rd l (i : Int)) a b && (decide (i = 0) || decide (rd l ((i - 1 : Nat) : Int) < rd l (i : Int)))
theorem impl_isAscending_ev (l : List Int) (a b : Int) (h : l.length ≤ 9223372036854775807) : Ev (fun k => impl_isAscending.f k l a b) (allN l.length (ascP l a b) && true) := by
  unfold impl_isAscending.f
  refine ev_all l.length (ascP l a b) true (fun k i => impl_isAscending.l0 k l a b l (l.length : Int) i) ?_ ?_
  · refine Ev.succ ?_
    simp only [impl_isAscending.l0, Int.lt_irrefl, if_false]
    exact Ev.now _
  · intro i hi
    have h1 : ((i : Int) < (l.length : Int)) = True := eq_true (by omega)
    have h2 : (0 ≤ (i : Int)) = True := eq_true (by omega)
    constructor
    · intro hp r hr
      simp only [ascP, Bool.and_eq_true, Bool.or_eq_true, decide_eq_true_eq] at hp
      refine Ev.succ ?_
      simp only [impl_isAscending.l0, h1, h2, if_true, impl_InRange_eq, Option.bind_some, hp.1, wr1 hi h]
      by_cases c : i = 0
      · exact Ev.neg (by omega) hr
      · simp only [if_pos (show (i : Int) > 0 by omega), wrm (show 0 < i by omega) (by omega), if_pos (show 0 ≤ ((i - 1 : Nat) : Int) by omega), if_pos (show ((i - 1 : Nat) : Int) < (l.length : Int) by omega)]
        exact Ev.neg (by have := hp.2; omega) hr
    · intro hp
      refine Ev.succ ?_
      simp only [impl_isAscending.l0, h1, h2, if_true, impl_InRange_eq, Option.bind_some, wr1 hi h]
      cases c0 : inB (rd l (i : Int)) a b with
      | false => exact Ev.now _
      | true =>
        simp only [ascP, c0, Bool.true_and, Bool.or_eq_false_iff, decide_eq_false_iff_not] at hp
        simp only [if_true, if_pos (show (i : Int) > 0 by omega), wrm (show 0 < i by omega) (by omega), if_pos (show 0 ≤ ((i - 1 : Nat) : Int) by omega), if_pos (show ((i - 1 : Nat) : Int) < (l.length : Int) by omega)]
        exact Ev.pos (by omega) (Ev.now _)

/-- The actions of a grant: in range, ascending. -/
def ascG (l : List Int) (i : Nat) : Bool := inB (rd l (i : Int)) 0 5 && (decide (i = 0) || decide (rd l ((i - 1 : Nat) : Int) < rd l (i : Int)))
/-- The grant at place i is in order. -/
def grX (x : S51) (i : Nat) : Bool := decide (x.f0 = (i : Int) + 1) && (kindB x.f1 1 && (kindB x.f2 1 && (!decide (x.f1 = x.f2) && (timeB x.f4 && (inB x.f5 0 (i : Int) && allN x.f3.length (ascG x.f3))))))
def grP (l : List S51) (i : Nat) : Bool := grX (rd_T51 l (i : Int)) i
def grantsB (l : List S51) : Bool := allN l.length (grP l) && decide ((l.length : Int) ≤ 12)
theorem impl_AreGrants_ev (l : List S51) (h : l.length + (l.map n51).sum ≤ 1048576) : Ev (fun k => impl_AreGrants.f k l) (grantsB l) := by
  unfold impl_AreGrants.f grantsB
  refine ev_all l.length (grP l) _ (fun k i => impl_AreGrants.l0 k l l (l.length : Int) i) ?_ ?_
  · refine Ev.succ ?_
    simp only [impl_AreGrants.l0, Int.lt_irrefl, if_false]
    exact Ev.now _
  · intro i hi
    have h1 : ((i : Int) < (l.length : Int)) = True := eq_true (by omega)
    have h2 : (0 ≤ (i : Int)) = True := eq_true (by omega)
    have h3 := wr1 hi (show l.length ≤ 9223372036854775807 by omega)
    have h4 : wrap64 ((i : Int) + 1) = (i : Int) + 1 := by rw [h3]; omega
    obtain ⟨x, hx⟩ := getAt hi
    have hrd : rd_T51 l (i : Int) = x := rd_at_T51 hx
    have hn : x.f3.length ≤ 1048576 := by have := le_sum n51 hx; have e : n51 x = x.f3.length := rfl; omega
    have hasc : Ev (fun k => impl_isAscending.f k x.f3 0 5) (allN x.f3.length (ascG x.f3)) := by
      have := impl_isAscending_ev x.f3 0 5 (by omega)
      rwa [Bool.and_true] at this
    unfold grP
    rw [hrd]
    have key : ∀ r, (grX x i = true → Ev (fun k => impl_AreGrants.l0 k l l (l.length : Int) ((i + 1 : Nat) : Int)) r) → Ev (fun k => impl_AreGrants.l0 k l l (l.length : Int) (i : Int)) (if grX x i = true then r else false) := by
      intro r hr
      refine Ev.succ ?_
      unfold grX at hr ⊢
      simp only [impl_AreGrants.l0, h1, h2, if_true, hrd, h3, impl_HasKind_eq, impl_IsTime_eq, impl_InRange_eq, Option.bind_some]
      by_cases c1 : x.f0 = ((i + 1 : Nat) : Int)
      rotate_left
      · have d1 : decide (x.f0 = (i : Int) + 1) = false := decide_eq_false (by omega)
        simp only [if_neg c1, d1, Bool.false_and, Bool.false_eq_true, if_false]; exact Ev.now _
      have d1 : decide (x.f0 = (i : Int) + 1) = true := decide_eq_true (by omega)
      simp only [d1, Bool.true_and] at hr
      simp only [if_pos c1, d1, Bool.true_and]
      cases c2 : kindB x.f1 1 with
      | false => simp only [Bool.false_and, Bool.false_eq_true, if_false]; exact Ev.now _
      | true =>
      cases c3 : kindB x.f2 1 with
      | false => simp only [Bool.true_and, Bool.false_and, Bool.false_eq_true, if_false, if_true]; exact Ev.now _
      | true =>
      by_cases c4 : x.f1 = x.f2
      · simp only [if_pos c4, decide_eq_true c4, Bool.not_true, Bool.true_and, Bool.false_and, Bool.false_eq_true, if_false, if_true]; exact Ev.now _
      simp only [if_neg c4, decide_eq_false c4, Bool.not_false, Bool.true_and, if_true]
      refine Ev.bind hasc ?_
      simp only [c2, c3, c4, decide_false, Bool.not_false, Bool.true_and] at hr
      cases c7 : allN x.f3.length (ascG x.f3) with
      | false => simp only [Bool.and_false, Bool.false_eq_true, if_false]; exact Ev.now _
      | true =>
      cases c5 : timeB x.f4 with
      | false => simp only [Bool.false_and, Bool.false_eq_true, if_false, if_true]; exact Ev.now _
      | true =>
      cases c6 : inB x.f5 0 (i : Int) with
      | false => simp only [Bool.true_and, Bool.false_and, Bool.false_eq_true, if_false, if_true]; exact Ev.now _
      | true =>
      simp only [Bool.true_and, if_true]
      exact hr (by rw [c5, c6, c7]; rfl)
    constructor
    · intro hp r hr
      have := key r (fun _ => hr)
      rwa [if_pos hp] at this
    · intro hp
      have := key false (fun h => by rw [hp] at h; cases h)
      rwa [hp] at this

theorem impl_hasGrant_ev (l : List S51) (id : Int) (h : l.length + (l.map n51).sum ≤ 1048576) : Ev (fun k => impl_hasGrant.f k l id) (grantsB l && inB id 1 (l.length : Int)) := by
  unfold impl_hasGrant.f
  refine Ev.bind (impl_AreGrants_ev l h) ?_
  cases grantsB l with
  | false => exact Ev.now _
  | true => simp only [if_true, impl_InRange_eq, Option.bind_some, Bool.true_and]; exact Ev.now _

def takenG (x : S51) : S51 := ⟨x.f0, x.f1, x.f2, x.f3, x.f4, x.f5, true⟩
def takeB (l : List S51) (id : Int) : List S51 × Bool := if grantsB l = true ∧ inB id 1 (l.length : Int) = true ∧ (rd_T51 l (id - 1)).f6 = false then (l.set (id - 1).toNat (takenG (rd_T51 l (id - 1))), true) else (l, false)
theorem takeB_size (l : List S51) (id : Int) : (takeB l id).1.length + ((takeB l id).1.map n51).sum = l.length + (l.map n51).sum := by
  unfold takeB
  split
  · rename_i c
    have hi := inB_iff.1 c.2.1
    obtain ⟨x, hx⟩ := getAt (l := l) (i := (id - 1).toNat) (by omega)
    have e : (((id - 1).toNat : Nat) : Int) = id - 1 := by omega
    have e2 := rd_at_T51 hx
    rw [e] at e2
    rw [e2, List.length_set, List.map_set, show n51 (takenG x) = n51 x from rfl]
    congr 2
    apply List.ext_getElem?
    intro j
    by_cases hj : (id - 1).toNat = j
    · subst hj
      rw [List.getElem?_set_self (by rw [List.length_map]; exact lt_of_get hx), List.getElem?_map, hx]; rfl
    · rw [List.getElem?_set_ne hj]
  · rfl
theorem impl_TakeBack_ev (l : List S51) (id : Int) (h : l.length + (l.map n51).sum ≤ 1048576) : Ev (fun k => impl_TakeBack.f k l id) (takeB l id) := by
  unfold impl_TakeBack.f takeB
  refine Ev.bind (impl_copyGrants_ev l h) ?_
  refine Ev.bind (impl_hasGrant_ev l id h) ?_
  by_cases c : grantsB l = true
  · rw [c]
    by_cases c2 : inB id 1 (l.length : Int) = true
    · rw [c2]
      simp only [Bool.and_self, if_true]
      have hi := inB_iff.1 c2
      have hw : wrap64 (id - 1) = id - 1 := wr (by omega) (by omega)
      have h1 : (0 ≤ id - 1) = True := eq_true (by omega)
      have h2 : (id - 1 < (l.length : Int)) = True := eq_true (by omega)
      simp only [hw, h1, h2, if_true]
      by_cases c3 : (rd_T51 l (id - 1)).f6 = true
      · rw [if_pos c3, if_neg (fun h => by rw [c3] at h; simp at h)]; exact Ev.now _
      · rw [if_neg c3, if_pos ⟨trivial, trivial, by simpa using c3⟩]; exact Ev.now _
    · rw [if_neg (by simp [c2]), if_neg (fun h => c2 h.2.1)]; exact Ev.now _
  · rw [if_neg (by simp [c]), if_neg (fun h => c h.1)]; exact Ev.now _

def hasI (l : List Int) (a : Int) : Bool := l.any (fun x => decide (a = x))
def underB (a b : List Int) : Bool := !(a.any fun x => !hasI b x)
theorem spec_l13Has_ev (l : List Int) (a : Int) (h : l.length ≤ 1048576) : Ev (fun k => spec_l13Has.f k l a) (hasI l a) := by
  unfold spec_l13Has.f hasI
  rw [← idxV_any]
  refine ev_idx l (fun x => decide (a = x)) (fun r => decide (r ≥ 0)) (fun k i => spec_l13Has.l0 k l a i) ?_ ?_
  · refine Ev.succ ?_
    simp only [spec_l13Has.l0, Int.lt_irrefl, if_false]
    exact Ev.now _
  · intro i x hx
    have hi := lt_of_get hx
    have h1 : ((i : Int) < (l.length : Int)) = True := eq_true (by omega)
    have h2 : (0 ≤ (i : Int)) = True := eq_true (by omega)
    constructor
    · intro c r hr
      have c' : ¬ x = a := fun e => of_decide_eq_false c e.symm
      refine Ev.succ ?_
      simp only [spec_l13Has.l0, h1, h2, if_true, rd_nat l i x hx, wr1 hi (by omega), if_neg c']
      exact hr
    · intro c
      have c' : x = a := (of_decide_eq_true c).symm
      refine Ev.succ ?_
      simp only [spec_l13Has.l0, h1, h2, if_true, rd_nat l i x hx, if_pos c', show decide ((i : Int) ≥ 0) = true from decide_eq_true (by omega)]
      exact Ev.now _

theorem spec_l1In_eq (a b c : Int) : spec_l1In.f a b c = some (inB a b c) := by
  unfold spec_l1In.f
  rw [ite_dand]; rfl

theorem spec_IsTime_eq (a : Int) : spec_IsTime.f a = some (timeB a) := by
  unfold spec_IsTime.f
  rw [spec_l1In_eq]; rfl

theorem spec_IsName_eq (a : Int) : spec_IsName.f a = some (nameB a) := by
  unfold spec_IsName.f
  rw [spec_l1In_eq]; rfl

theorem spec_HasKind_eq (a b : Int) : spec_HasKind.f a b = some (kindB a b) := by
  unfold spec_HasKind.f kindB
  rw [spec_IsName_eq, Option.bind_some]
  cases h : nameB a with
  | true => simp only [if_true, name_div h, Bool.true_and]
  | false => rfl

theorem spec_AreGrants_ev (l : List S51) (h : l.length + (l.map n51).sum ≤ 1048576) : Ev (fun k => spec_AreGrants.f k l) (grantsB l) := by
  unfold spec_AreGrants.f grantsB
  refine ev_all l.length (grP l) _ (fun k i => spec_AreGrants.l0 k l i) ?_ ?_
  · refine Ev.succ ?_
    simp only [spec_AreGrants.l0, Int.lt_irrefl, if_false]
    exact Ev.now _
  · intro i hi
    have h1 : ((i : Int) < (l.length : Int)) = True := eq_true (by omega)
    have h2 : (0 ≤ (i : Int)) = True := eq_true (by omega)
    have h3 := wr1 hi (show l.length ≤ 9223372036854775807 by omega)
    have h4 : wrap64 ((i : Int) + 1) = (i : Int) + 1 := by rw [h3]; omega
    obtain ⟨x, hx⟩ := getAt hi
    have hrd : rd_T51 l (i : Int) = x := rd_at_T51 hx
    have hn : x.f3.length ≤ 1048576 := by have := le_sum n51 hx; have e : n51 x = x.f3.length := rfl; omega
    have step : ∀ j, j < x.f3.length → (ascG x.f3 j = true → ∀ r, Ev (fun k => spec_AreGrants.l1 k l (i : Int) ((j + 1 : Nat) : Int) x.f0 x.f1 x.f2 x.f3 x.f4 x.f5 x.f6) r → Ev (fun k => spec_AreGrants.l1 k l (i : Int) (j : Int) x.f0 x.f1 x.f2 x.f3 x.f4 x.f5 x.f6) r) ∧ (ascG x.f3 j = false → Ev (fun k => spec_AreGrants.l1 k l (i : Int) (j : Int) x.f0 x.f1 x.f2 x.f3 x.f4 x.f5 x.f6) false) := by
      intro j hj
      have j1 : ((j : Int) < (x.f3.length : Int)) = True := eq_true (by omega)
      have j2 : (0 ≤ (j : Int)) = True := eq_true (by omega)
      have j3 := wr1 hj (show x.f3.length ≤ 9223372036854775807 by omega)
      constructor
      · intro hp r hr
        simp only [ascG, Bool.and_eq_true, Bool.or_eq_true, decide_eq_true_eq] at hp
        refine Ev.succ ?_
        simp only [spec_AreGrants.l1, j1, j2, if_true, spec_l1In_eq, Option.bind_some, hp.1, j3]
        by_cases c : j = 0
        · exact Ev.neg (by omega) hr
        · simp only [if_pos (show (j : Int) > 0 by omega), wrm (show 0 < j by omega) (by omega), if_pos (show 0 ≤ ((j - 1 : Nat) : Int) by omega), if_pos (show ((j - 1 : Nat) : Int) < (x.f3.length : Int) by omega)]
          exact Ev.neg (by have := hp.2; omega) hr
      · intro hp
        refine Ev.succ ?_
        simp only [spec_AreGrants.l1, j1, j2, if_true, spec_l1In_eq, Option.bind_some, j3]
        cases c0 : inB (rd x.f3 (j : Int)) 0 5 with
        | false => exact Ev.now _
        | true =>
          simp only [ascG, c0, Bool.true_and, Bool.or_eq_false_iff, decide_eq_false_iff_not] at hp
          simp only [if_true, if_pos (show (j : Int) > 0 by omega), wrm (show 0 < j by omega) (by omega), if_pos (show 0 ≤ ((j - 1 : Nat) : Int) by omega), if_pos (show ((j - 1 : Nat) : Int) < (x.f3.length : Int) by omega)]
          exact Ev.pos (by omega) (Ev.now _)
    unfold grP
    rw [hrd]
    constructor
    · intro hp r hr
      simp only [grX, Bool.and_eq_true, Bool.not_eq_true', decide_eq_true_eq, decide_eq_false_iff_not] at hp
      obtain ⟨p1, p2, p3, p4, p5, p6, p7⟩ := hp
      refine Ev.succ ?_
      simp only [spec_AreGrants.l0, h1, h2, if_true, hrd, h4, if_pos p1, spec_HasKind_eq, spec_IsTime_eq, spec_l1In_eq, Option.bind_some, p2, p3, if_neg p4, p5, p6]
      refine (ev_allT x.f3.length (ascG x.f3) (fun k j => spec_AreGrants.l1 k l (i : Int) j x.f0 x.f1 x.f2 x.f3 x.f4 x.f5 x.f6) r p7 ?_ (fun j hj hpj hr' => (step j hj).1 hpj r hr'))
      refine Ev.succ ?_
      simp only [spec_AreGrants.l1, Int.lt_irrefl, if_false, h3]
      exact hr
    · intro hp
      refine Ev.succ ?_
      unfold grX at hp
      simp only [spec_AreGrants.l0, h1, h2, if_true, hrd, h4, spec_HasKind_eq, spec_IsTime_eq, spec_l1In_eq, Option.bind_some]
      by_cases c1 : x.f0 = (i : Int) + 1
      rotate_left
      · simp only [if_neg c1]; exact Ev.now _
      simp only [if_pos c1]
      cases c2 : kindB x.f1 1 with
      | false => simp only [Bool.false_eq_true, if_false]; exact Ev.now _
      | true =>
      cases c3 : kindB x.f2 1 with
      | false => simp only [Bool.false_eq_true, if_false, if_true]; exact Ev.now _
      | true =>
      by_cases c4 : x.f1 = x.f2
      · simp only [if_pos c4, if_true]; exact Ev.now _
      cases c5 : timeB x.f4 with
      | false => simp only [if_neg c4, Bool.false_eq_true, if_false, if_true]; exact Ev.now _
      | true =>
      cases c6 : inB x.f5 0 (i : Int) with
      | false => simp only [if_neg c4, Bool.false_eq_true, if_false, if_true]; exact Ev.now _
      | true =>
      simp only [if_neg c4, if_true]
      have p7 : allN x.f3.length (ascG x.f3) = false := by
        simpa [c1, c2, c3, c4, c5, c6] using hp
      exact (ev_allF x.f3.length (ascG x.f3) (fun k j => spec_AreGrants.l1 k l (i : Int) j x.f0 x.f1 x.f2 x.f3 x.f4 x.f5 x.f6) false p7 (fun j hj => ⟨fun hpj hr' => (step j hj).1 hpj _ hr', (step j hj).2⟩))

theorem spec_l30Under_ev (a b : List Int) (h : a.length ≤ 1048576) (hb : b.length ≤ 1048576) : Ev (fun k => spec_l30Under.f k a b) (underB a b) := by
  unfold spec_l30Under.f underB
  rw [← idxV_any]
  refine ev_idx a (fun x => !hasI b x) (fun r => !decide (r ≥ 0)) (fun k i => spec_l30Under.l0 k a b i) ?_ ?_
  · refine Ev.succ ?_
    simp only [spec_l30Under.l0, Int.lt_irrefl, if_false]
    exact Ev.now _
  · intro i x hx
    have hi := lt_of_get hx
    have h1 : ((i : Int) < (a.length : Int)) = True := eq_true (by omega)
    have h2 : (0 ≤ (i : Int)) = True := eq_true (by omega)
    constructor
    · intro c r hr
      have c' : hasI b x = true := by simpa using c
      refine Ev.succ ?_
      simp only [spec_l30Under.l0, h1, h2, if_true, rd_nat a i x hx, wr1 hi (by omega)]
      refine Ev.bind (spec_l13Has_ev b x hb) ?_
      simp only [c', if_true]
      exact hr
    · intro c
      have c' : hasI b x = false := by simpa using c
      refine Ev.succ ?_
      simp only [spec_l30Under.l0, h1, h2, if_true, rd_nat a i x hx, show decide ((i : Int) ≥ 0) = true from decide_eq_true (by omega)]
      refine Ev.bind (spec_l13Has_ev b x hb) ?_
      simp only [c', Bool.false_eq_true, if_false]
      exact Ev.now _

/-- The chain of a grant, for a number that is at most n. -/
def chainV (l : List S51) : Nat → Int → List Int
  | 0, _ => []
  | n + 1, id => if id ≤ 0 then [] else id :: chainV l n (rd_T51 l (id - 1)).f5
def chainB (l : List S51) (id : Int) : List Int := if grantsB l = true then (if inB id 1 (l.length : Int) = true then chainV l l.length id else []) else []
theorem grants_parent {l : List S51} (h : grantsB l = true) (id : Int) (h1 : 1 ≤ id) (h2 : id ≤ (l.length : Int)) : 0 ≤ (rd_T51 l (id - 1)).f5 ∧ (rd_T51 l (id - 1)).f5 ≤ id - 1 := by
  simp only [grantsB, Bool.and_eq_true] at h
  have h3 := (allN_iff _ _).1 h.1 (id - 1).toNat (by omega)
  have e : (((id - 1).toNat : Nat) : Int) = id - 1 := by omega
  simp only [grP, grX, Bool.and_eq_true, e] at h3
  exact inB_iff.1 h3.2.2.2.2.2.1
theorem chainV_in {l : List S51} (h : grantsB l = true) : ∀ (n : Nat) (id : Int), 0 ≤ id → id ≤ n → n ≤ l.length → ∀ y ∈ chainV l n id, 1 ≤ y ∧ y ≤ (l.length : Int)
  | 0, _, _, _, _, y, hy => by simp [chainV] at hy
  | n + 1, id, h0, h1, h2, y, hy => by
    unfold chainV at hy
    by_cases c : id ≤ 0
    · rw [if_pos c] at hy; simp at hy
    · rw [if_neg c] at hy
      rcases List.mem_cons.1 hy with rfl | hy
      · omega
      · have := grants_parent h id (by omega) (by omega)
        exact chainV_in h n _ this.1 (by omega) (by omega) y hy
theorem chainV_length (l : List S51) : ∀ (n : Nat) (id : Int), (chainV l n id).length ≤ n
  | 0, _ => by simp [chainV]
  | n + 1, id => by
    unfold chainV
    split
    · simp
    · have := chainV_length l n (rd_T51 l (id - 1)).f5
      simp; omega
theorem chainB_in (l : List S51) (id : Int) : ∀ y ∈ chainB l id, 1 ≤ y ∧ y ≤ (l.length : Int) := by
  unfold chainB
  by_cases c : grantsB l = true
  · rw [if_pos c]
    by_cases c2 : inB id 1 (l.length : Int) = true
    · rw [if_pos c2]
      have := inB_iff.1 c2
      exact chainV_in c l.length id (by omega) (by omega) (Nat.le_refl _)
    · rw [if_neg c2]; simp
  · rw [if_neg c]; simp
def goodV (l : List S51) (now : Int) : Nat → Int → Bool
  | 0, _ => false
  | n + 1, id => if (rd_T51 l (id - 1)).f6 = true then false else if now > (rd_T51 l (id - 1)).f4 then false else if (rd_T51 l (id - 1)).f5 = 0 then true else decide ((rd_T51 l (id - 1)).f1 = (rd_T51 l ((rd_T51 l (id - 1)).f5 - 1)).f2) && (underB (rd_T51 l (id - 1)).f3 (rd_T51 l ((rd_T51 l (id - 1)).f5 - 1)).f3 && goodV l now n (rd_T51 l (id - 1)).f5)
def goodB (l : List S51) (id now : Int) : Bool := grantsB l && (inB id 1 (l.length : Int) && (timeB now && goodV l now l.length id))
theorem rd_len {l : List S51} (h : l.length + (l.map n51).sum ≤ 1048576) (i : Int) (h0 : 0 ≤ i) (h1 : i < (l.length : Int)) : (rd_T51 l i).f3.length ≤ 1048576 := by
  obtain ⟨x, hx⟩ := getAt (l := l) (i := i.toNat) (by omega)
  have e : ((i.toNat : Nat) : Int) = i := by omega
  have e2 := rd_at_T51 hx
  rw [e] at e2
  have := le_sum n51 hx
  unfold n51 at this h
  rw [e2]; omega
theorem spec_good_loop (l : List S51) (hg : grantsB l = true) (h : l.length + (l.map n51).sum ≤ 1048576) (now : Int) : ∀ (n : Nat) (id : Int), 1 ≤ id → id ≤ n → n ≤ l.length → Ev (fun k => spec_l30Good.f k l id now) (goodV l now n id)
  | 0, id, h1, h2, _ => by omega
  | n + 1, id, h1, h2, h3 => by
    have hw : wrap64 (id - 1) = id - 1 := wr (by omega) (by omega)
    have hp := grants_parent hg id h1 (by omega)
    have e0 : inB id 1 (l.length : Int) = true := inB_iff.2 ⟨by omega, by omega⟩
    have e1 : (0 ≤ id - 1) = True := eq_true (by omega)
    have e2 : (id - 1 < (l.length : Int)) = True := eq_true (by omega)
    refine Ev.succ ?_
    simp only [spec_l30Good.f, spec_l1In_eq, Option.bind_some, e0, hw, e1, e2, if_true, goodV]
    have hl := rd_len h (id - 1) (by omega) (by omega)
    generalize hgr : rd_T51 l (id - 1) = g at hp hl ⊢
    by_cases c6 : g.f6 = true
    · simp only [if_pos c6]; exact Ev.now _
    · simp only [if_neg c6]
      by_cases c4 : now > g.f4
      · simp only [if_pos c4]; exact Ev.now _
      · simp only [if_neg c4]
        by_cases c5 : g.f5 = 0
        · simp only [if_pos c5]; exact Ev.now _
        · have hw2 : wrap64 (g.f5 - 1) = g.f5 - 1 := wr (by omega) (by omega)
          have e3 : (0 ≤ g.f5 - 1) = True := eq_true (by omega)
          have e4 : (g.f5 - 1 < (l.length : Int)) = True := eq_true (by omega)
          simp only [if_neg c5, hw2, e3, e4, if_true]
          have ih := spec_good_loop l hg h now n g.f5 (by omega) (by omega) (by omega)
          have hl2 := rd_len h (g.f5 - 1) (by omega) (by omega)
          generalize rd_T51 l (g.f5 - 1) = p at hl2 ⊢
          by_cases c7 : g.f1 = p.f2
          · simp only [if_pos c7, decide_eq_true c7, Bool.true_and]
            refine Ev.bind (spec_l30Under_ev g.f3 p.f3 hl hl2) ?_
            cases underB g.f3 p.f3 with
            | false => simp only [Bool.false_eq_true, if_false, Bool.false_and]; exact Ev.now _
            | true => simp only [if_true, Bool.true_and]; exact Ev.bind ih (Ev.now _)
          · simp only [if_neg c7, decide_eq_false c7, Bool.false_and]; exact Ev.now _
theorem spec_l30Good_ev (l : List S51) (hg : grantsB l = true) (h : l.length + (l.map n51).sum ≤ 1048576) (id now : Int) : Ev (fun k => spec_l30Good.f k l id now) (inB id 1 (l.length : Int) && goodV l now l.length id) := by
  cases c : inB id 1 (l.length : Int) with
  | false =>
    refine Ev.succ ?_
    simp only [spec_l30Good.f, spec_l1In_eq, Option.bind_some, c, Bool.false_eq_true, if_false, Bool.false_and]; exact Ev.now _
  | true =>
    have := inB_iff.1 c
    rw [Bool.true_and]
    exact spec_good_loop l hg h now l.length id (by omega) (by omega) (Nat.le_refl _)

theorem spec_IsGrantGood_ev (l : List S51) (id now : Int) (h : l.length + (l.map n51).sum ≤ 1048576) : Ev (fun k => spec_IsGrantGood.f k l id now) (goodB l id now) := by
  unfold spec_IsGrantGood.f goodB
  refine Ev.bind (spec_AreGrants_ev l h) ?_
  cases c : grantsB l with
  | false => simp only [Bool.false_eq_true, if_false, Bool.false_and]; exact Ev.now _
  | true =>
    simp only [if_true, spec_IsTime_eq, Option.bind_some, Bool.true_and]
    cases c2 : timeB now with
    | false => simp only [Bool.false_eq_true, if_false, Bool.false_and, Bool.and_false]; exact Ev.now _
    | true =>
      simp only [if_true, Bool.true_and]
      exact Ev.bind (spec_l30Good_ev l c h id now) (Ev.now _)

theorem spec_chain_loop (l : List S51) (hg : grantsB l = true) (h : l.length ≤ 1048576) : ∀ (n : Nat) (id : Int) (out : List Int), 0 ≤ id → id ≤ n → n ≤ l.length → out.length + n ≤ 2097152 → Ev (fun k => spec_ChainOf.l0 k l id out) (out ++ chainV l n id)
  | 0, id, out, h0, h1, _, _ => by
    refine Ev.succ ?_
    simp only [spec_ChainOf.l0, chainV, List.append_nil]
    exact Ev.neg (by omega) (Ev.now _)
  | n + 1, id, out, h0, h1, h2, h3 => by
    refine Ev.succ ?_
    simp only [spec_ChainOf.l0, chainV]
    by_cases c : id ≤ 0
    · simp only [if_pos c, List.append_nil]
      exact Ev.neg (by omega) (Ev.now _)
    · have hp := grants_parent hg id (by omega) (by omega)
      have hw : wrap64 (id - 1) = id - 1 := wr (by omega) (by omega)
      have ih := spec_chain_loop l hg h n (rd_T51 l (id - 1)).f5 (out ++ [id]) hp.1 (by omega) (by omega) (by simp; omega)
      rw [List.append_assoc] at ih
      simp only [hw, if_neg c]
      exact Ev.pos (by omega) (Ev.pos (by omega) (Ev.pos (by omega) (Ev.pos (by omega) ih)))
theorem spec_ChainOf_ev (l : List S51) (id : Int) (h : l.length + (l.map n51).sum ≤ 1048576) : Ev (fun k => spec_ChainOf.f k l id) (chainB l id) := by
  unfold spec_ChainOf.f chainB
  simp only [Option.bind_some]
  refine Ev.bind (spec_AreGrants_ev l h) ?_
  cases c : grantsB l with
  | false =>
    simp only [Bool.false_eq_true, if_false]
    refine Ev.succ ?_
    simp only [spec_ChainOf.j0, if_true]; exact Ev.now _
  | true =>
    simp only [if_true, spec_l1In_eq, Option.bind_some]
    refine Ev.succ ?_
    cases c2 : inB id 1 (l.length : Int) with
    | false => simp only [spec_ChainOf.j0, Bool.not_false, if_true, Bool.false_eq_true, if_false]; exact Ev.now _
    | true =>
      simp only [spec_ChainOf.j0, Bool.not_true, if_true, Bool.false_eq_true, if_false]
      have := inB_iff.1 c2
      exact spec_chain_loop l c (by omega) l.length id [] (by omega) (by omega) (Nat.le_refl _) (by simp; omega)

def rootV (l : List S51) (id : Int) : Int := if ((chainB l id).length : Int) = 0 then 0 else (rd_T51 l (rd (chainB l id) (((chainB l id).length : Int) - 1) - 1)).f1
theorem chainB_length (l : List S51) (id : Int) : (chainB l id).length ≤ l.length := by
  unfold chainB
  split
  · split
    · exact chainV_length l _ _
    · simp
  · simp
theorem chainB_last (l : List S51) (id : Int) (h : ¬ ((chainB l id).length : Int) = 0) : 1 ≤ rd (chainB l id) (((chainB l id).length : Int) - 1) ∧ rd (chainB l id) (((chainB l id).length : Int) - 1) ≤ (l.length : Int) := by
  obtain ⟨x, hx⟩ := getAt (l := chainB l id) (i := (chainB l id).length - 1) (by omega)
  have e : (((chainB l id).length - 1 : Nat) : Int) = ((chainB l id).length : Int) - 1 := by omega
  have e2 := rd_nat _ _ _ hx
  rw [e] at e2
  rw [e2]
  exact chainB_in l id x (List.mem_of_getElem? hx)
theorem spec_RootOf_ev (l : List S51) (id : Int) (h : l.length + (l.map n51).sum ≤ 1048576) : Ev (fun k => spec_RootOf.f k l id) (rootV l id) := by
  unfold spec_RootOf.f rootV
  refine Ev.bind (spec_ChainOf_ev l id h) ?_
  have hl := chainB_length l id
  by_cases c : ((chainB l id).length : Int) = 0
  · simp only [if_pos c]; exact Ev.now _
  · obtain ⟨h1, h2⟩ := chainB_last l id c
    have w1 : wrap64 (((chainB l id).length : Int) - 1) = ((chainB l id).length : Int) - 1 := wr (by omega) (by omega)
    have w2 : wrap64 (rd (chainB l id) (((chainB l id).length : Int) - 1) - 1) = rd (chainB l id) (((chainB l id).length : Int) - 1) - 1 := wr (by omega) (by omega)
    simp only [if_neg c, w1, w2]
    exact Ev.pos (by omega) (Ev.pos (by omega) (Ev.pos (by omega) (Ev.pos (by omega) (Ev.now _))))

def actV (l : List S51) (id p a t : Int) : Int := if goodB l id t = true then (if (rd_T51 l (id - 1)).f2 = p then (if hasI (rd_T51 l (id - 1)).f3 a = true then rootV l id else 0) else 0) else 0
theorem spec_MayActFor_ev (l : List S51) (id p a t : Int) (h : l.length + (l.map n51).sum ≤ 1048576) : Ev (fun k => spec_MayActFor.f k l id p a t) (actV l id p a t) := by
  unfold spec_MayActFor.f actV
  refine Ev.bind (spec_IsGrantGood_ev l id t h) ?_
  by_cases c : goodB l id t = true
  · have c' := c
    unfold goodB at c'
    simp only [Bool.and_eq_true] at c'
    have hi := inB_iff.1 c'.2.1
    have hw : wrap64 (id - 1) = id - 1 := wr (by omega) (by omega)
    have e1 : (0 ≤ id - 1) = True := eq_true (by omega)
    have e2 : (id - 1 < (l.length : Int)) = True := eq_true (by omega)
    simp only [if_pos c, hw, e1, e2, if_true]
    have hl := rd_len h (id - 1) (by omega) (by omega)
    by_cases c2 : (rd_T51 l (id - 1)).f2 = p
    · simp only [if_pos c2]
      refine Ev.bind (spec_l13Has_ev _ a hl) ?_
      by_cases c3 : hasI (rd_T51 l (id - 1)).f3 a = true
      · simp only [if_pos c3]
        exact Ev.bind (spec_RootOf_ev l id h) (Ev.now _)
      · simp only [if_neg c3]; exact Ev.now _
    · simp only [if_neg c2]; exact Ev.now _
  · simp only [if_neg c]; exact Ev.now _

theorem impl_chain_loop (l : List S51) (hg : grantsB l = true) (h : l.length ≤ 1048576) : ∀ (n : Nat) (id : Int) (out : List Int), 0 ≤ id → id ≤ n → n ≤ l.length → out.length + n ≤ 2097152 → Ev (fun k => impl_ChainOf.l0 k l id out) (out ++ chainV l n id)
  | 0, id, out, h0, h1, _, _ => by
    refine Ev.succ ?_
    simp only [impl_ChainOf.l0, chainV, List.append_nil]
    exact Ev.pos (by omega) (Ev.now _)
  | n + 1, id, out, h0, h1, h2, h3 => by
    refine Ev.succ ?_
    simp only [impl_ChainOf.l0, chainV]
    by_cases c : id ≤ 0
    · simp only [if_pos c, List.append_nil]
      exact Ev.pos (by omega) (Ev.now _)
    · have hp := grants_parent hg id (by omega) (by omega)
      have hw : wrap64 (id - 1) = id - 1 := wr (by omega) (by omega)
      have ih := impl_chain_loop l hg h n (rd_T51 l (id - 1)).f5 (out ++ [id]) hp.1 (by omega) (by omega) (by simp; omega)
      rw [List.append_assoc] at ih
      simp only [hw, if_neg c]
      exact Ev.neg (by omega) (Ev.pos (by omega) (Ev.pos (by omega) (Ev.pos (by omega) ih)))
theorem impl_ChainOf_ev (l : List S51) (id : Int) (h : l.length + (l.map n51).sum ≤ 1048576) : Ev (fun k => impl_ChainOf.f k l id) (chainB l id) := by
  unfold impl_ChainOf.f chainB
  simp only [Option.bind_some]
  refine Ev.bind (impl_hasGrant_ev l id h) ?_
  cases c : grantsB l with
  | false => simp only [Bool.false_and, Bool.false_eq_true, if_false]; exact Ev.now _
  | true =>
    cases c2 : inB id 1 (l.length : Int) with
    | false => simp only [Bool.true_and, if_true, Bool.false_eq_true, if_false]; exact Ev.now _
    | true =>
      simp only [Bool.true_and, if_true]
      have := inB_iff.1 c2
      exact impl_chain_loop l c (by omega) l.length id [] (by omega) (by omega) (Nat.le_refl _) (by simp; omega)

theorem impl_RootOf_ev (l : List S51) (id : Int) (h : l.length + (l.map n51).sum ≤ 1048576) : Ev (fun k => impl_RootOf.f k l id) (rootV l id) := by
  unfold impl_RootOf.f rootV
  refine Ev.bind (impl_ChainOf_ev l id h) ?_
  have hl := chainB_length l id
  by_cases c : ((chainB l id).length : Int) = 0
  · simp only [if_pos c]; exact Ev.now _
  · obtain ⟨h1, h2⟩ := chainB_last l id c
    have w1 : wrap64 (((chainB l id).length : Int) - 1) = ((chainB l id).length : Int) - 1 := wr (by omega) (by omega)
    have w2 : wrap64 (rd (chainB l id) (((chainB l id).length : Int) - 1) - 1) = rd (chainB l id) (((chainB l id).length : Int) - 1) - 1 := wr (by omega) (by omega)
    simp only [if_neg c, w1, w2]
    exact Ev.pos (by omega) (Ev.pos (by omega) (Ev.pos (by omega) (Ev.pos (by omega) (Ev.now _))))





theorem slices_Index_int_int_ev (l : List Int) (a : Int) (h : l.length ≤ 1048576) : Ev (fun k => slices_Index_int_int.f k l a) (idxV (fun x => decide (a = x)) l 0) := by
  unfold slices_Index_int_int.f
  refine ev_idx l (fun x => decide (a = x)) id (fun k i => slices_Index_int_int.l0 k l a (l.length : Int) i) ?_ ?_
  · refine Ev.succ ?_
    simp only [slices_Index_int_int.l0, Int.lt_irrefl, if_false]
    exact Ev.now _
  · intro i x hx
    have hi := lt_of_get hx
    have h1 : ((i : Int) < (l.length : Int)) = True := eq_true (by omega)
    have h2 : (0 ≤ (i : Int)) = True := eq_true (by omega)
    constructor
    · intro c r hr
      have c' : ¬ a = x := of_decide_eq_false c
      refine Ev.succ ?_
      simp only [slices_Index_int_int.l0, h1, h2, if_true, rd_nat l i x hx, wr1 hi (by omega), if_neg c']
      exact hr
    · intro c
      have c' : a = x := of_decide_eq_true c
      refine Ev.succ ?_
      simp only [slices_Index_int_int.l0, h1, h2, if_true, rd_nat l i x hx, if_pos c']
      exact Ev.now _

theorem slices_Contains_int_int_ev (l : List Int) (a : Int) (h : l.length ≤ 1048576) : Ev (fun k => slices_Contains_int_int.f k l a) (hasI l a) := by
  unfold slices_Contains_int_int.f hasI
  rw [← idxV_any]
  exact Ev.bind (slices_Index_int_int_ev l a h) (Ev.now _)

theorem under_ev (a b : List Int) (hb : b.length ≤ 1048576) : Ev (fun k => (Go.Proofs.YtplfbjbbnjlnkaaH.idxO (cl189.p k b) a 0).bind fun r => some (!(decide (r ≥ 0)))) (underB a b) := by
  unfold underB
  rw [← idxV_any]
  refine Ev.bind (ev_idxO (fun k x => cl189.p k b x) (fun x => !hasI b x) a 0 (fun x _ => ?_)) (Ev.now _)
  unfold cl189.p
  exact Ev.bind (slices_Contains_int_int_ev b x hb) (Ev.now _)
theorem impl_good_loop (l : List S51) (hg : grantsB l = true) (h : l.length + (l.map n51).sum ≤ 1048576) (now : Int) : ∀ (n : Nat) (id : Int), 1 ≤ id → id ≤ n → n ≤ l.length → Ev (fun k => impl_isGood.f k l id now) (timeB now && goodV l now n id)
  | 0, id, h1, h2, _ => by omega
  | n + 1, id, h1, h2, h3 => by
    have hw : wrap64 (id - 1) = id - 1 := wr (by omega) (by omega)
    have hp := grants_parent hg id h1 (by omega)
    have e1 : (0 ≤ id - 1) = True := eq_true (by omega)
    have e2 : (id - 1 < (l.length : Int)) = True := eq_true (by omega)
    refine Ev.succ ?_
    simp only [impl_isGood.f, impl_IsTime_eq, Option.bind_some, hw, e1, e2, if_true, goodV]
    have hl := rd_len h (id - 1) (by omega) (by omega)
    generalize hgr : rd_T51 l (id - 1) = g at hp hl ⊢
    by_cases c6 : g.f6 = true
    · simp only [if_pos c6, Bool.and_false]; exact Ev.now _
    · simp only [if_neg c6]
      cases ct : timeB now with
      | false => simp only [Bool.false_eq_true, if_false, Bool.false_and]; exact Ev.now _
      | true =>
        simp only [if_true, Bool.true_and]
        by_cases c4 : now > g.f4
        · simp only [if_pos c4]; exact Ev.now _
        · simp only [if_neg c4]
          by_cases c5 : g.f5 = 0
          · simp only [if_pos c5]; exact Ev.now _
          · have hw2 : wrap64 (g.f5 - 1) = g.f5 - 1 := wr (by omega) (by omega)
            have e3 : (0 ≤ g.f5 - 1) = True := eq_true (by omega)
            have e4 : (g.f5 - 1 < (l.length : Int)) = True := eq_true (by omega)
            simp only [if_neg c5, hw2, e3, e4, if_true]
            have ih := impl_good_loop l hg h now n g.f5 (by omega) (by omega) (by omega)
            rw [ct, Bool.true_and] at ih
            have hl2 := rd_len h (g.f5 - 1) (by omega) (by omega)
            generalize rd_T51 l (g.f5 - 1) = p at hl2 ⊢
            refine Ev.bind ih ?_
            cases goodV l now n g.f5 with
            | false => simp only [Bool.false_eq_true, if_false, Bool.and_false]; exact Ev.now _
            | true =>
              simp only [if_true, Bool.and_true]
              by_cases c7 : g.f1 = p.f2
              · simp only [if_pos c7, decide_eq_true c7, Bool.true_and]; exact under_ev g.f3 p.f3 hl2
              · simp only [if_neg c7, decide_eq_false c7, Bool.false_and]; exact Ev.now _

theorem impl_IsGrantGood_ev (l : List S51) (id now : Int) (h : l.length + (l.map n51).sum ≤ 1048576) : Ev (fun k => impl_IsGrantGood.f k l id now) (goodB l id now) := by
  unfold impl_IsGrantGood.f goodB
  refine Ev.bind (impl_hasGrant_ev l id h) ?_
  cases c : grantsB l with
  | false => simp only [Bool.false_and, Bool.false_eq_true, if_false]; exact Ev.now _
  | true =>
    cases c2 : inB id 1 (l.length : Int) with
    | false => simp only [Bool.true_and, Bool.false_and, Bool.false_eq_true, if_false]; exact Ev.now _
    | true =>
      simp only [Bool.true_and, if_true]
      have := inB_iff.1 c2
      exact Ev.bind (impl_good_loop l c h now l.length id (by omega) (by omega) (Nat.le_refl _)) (Ev.now _)

theorem impl_MayActFor_ev (l : List S51) (id p a t : Int) (h : l.length + (l.map n51).sum ≤ 1048576) : Ev (fun k => impl_MayActFor.f k l id p a t) (actV l id p a t) := by
  unfold impl_MayActFor.f actV
  refine Ev.bind (impl_IsGrantGood_ev l id t h) ?_
  by_cases c : goodB l id t = true
  · have c' := c
    unfold goodB at c'
    simp only [Bool.and_eq_true] at c'
    have hi := inB_iff.1 c'.2.1
    have hw : wrap64 (id - 1) = id - 1 := wr (by omega) (by omega)
    have e1 : (0 ≤ id - 1) = True := eq_true (by omega)
    have e2 : (id - 1 < (l.length : Int)) = True := eq_true (by omega)
    simp only [if_pos c, hw, e1, e2, if_true]
    have hl := rd_len h (id - 1) (by omega) (by omega)
    by_cases c2 : (rd_T51 l (id - 1)).f2 = p
    · simp only [if_pos c2]
      refine Ev.bind (slices_Contains_int_int_ev _ a hl) ?_
      by_cases c3 : hasI (rd_T51 l (id - 1)).f3 a = true
      · simp only [if_pos c3]
        exact Ev.bind (impl_RootOf_ev l id h) (Ev.now _)
      · simp only [if_neg c3]; exact Ev.now _
    · simp only [if_neg c2]; exact Ev.now _
  · simp only [if_neg c]; exact Ev.now _

theorem spec_l1New_ev (l : List Int) (h : l.length ≤ 1048576) : ∃ x, Ev (fun k => spec_l1New.f k l) (l, 0, x) := by
  have key : ∀ (n i : Nat) (a : Int), i + n = l.length → ∃ x, Ev (fun k => spec_l1New.l0 k l a (i : Int)) (l, 0, x) := by
    intro n
    induction n with
    | zero =>
      intro i a e
      obtain rfl : i = l.length := by omega
      refine ⟨a, Ev.succ ?_⟩
      simp only [spec_l1New.l0, Int.lt_irrefl, if_false]
      exact Ev.now _
    | succ n ih =>
      intro i a e
      have hi : i < l.length := by omega
      have h1 : ((i : Int) < (l.length : Int)) = True := eq_true (by omega)
      have h2 : (0 ≤ (i : Int)) = True := eq_true (by omega)
      by_cases c : (i : Int) < 4000
      · obtain ⟨x, hx⟩ := ih (i + 1) (Go.bits .and .i64 (wrap64 ((wrap64 ((wrap64 (a * 137)) + (wrap64 (rd l (i : Int))))) + 11)) 1073741823) (by omega)
        refine ⟨x, Ev.succ ?_⟩
        simp only [spec_l1New.l0, h1, h2, if_true, if_pos c, wr1 hi (by omega)]
        exact hx
      · refine ⟨a, Ev.succ ?_⟩
        simp only [spec_l1New.l0, h1, if_true, if_neg c]
        exact Ev.now _
  exact key l.length 0 _ (by omega)

/-- What a mask of eight bits leaves. -/
theorem and255 (a : Int) : 0 ≤ Go.bits .and .i64 a 255 ∧ Go.bits .and .i64 a 255 ≤ 255 := by
  show 0 ≤ IntKind.i64.wrap ((BitVec.ofInt 64 a &&& BitVec.ofInt 64 255).toNat : Int) ∧ IntKind.i64.wrap ((BitVec.ofInt 64 a &&& BitVec.ofInt 64 255).toNat : Int) ≤ 255
  have e : (BitVec.ofInt 64 255).toNat = 255 := by decide
  have h : (BitVec.ofInt 64 a &&& BitVec.ofInt 64 255).toNat ≤ 255 := by rw [BitVec.toNat_and, e]; exact Nat.and_le_right
  generalize (BitVec.ofInt 64 a &&& BitVec.ofInt 64 255).toNat = m at h ⊢
  have hw : IntKind.i64.wrap (m : Int) = (m : Int) := by
    rw [i64_w]
    exact wr (by omega) (by omega)
  rw [hw]
  omega
theorem spec_l1Byte_ok (s : List Int) (i h : Int) (h0 : 0 ≤ i) (h1 : i ≤ s.length) (hs : s.length ≤ 1048576) : ∃ x j h', spec_l1Byte.f s i h = some (x, j, h') ∧ 0 ≤ x ∧ x ≤ 255 ∧ 0 ≤ j ∧ j ≤ s.length := by
  unfold spec_l1Byte.f
  by_cases c : i < (s.length : Int)
  · rw [if_pos c, if_pos h0]
    have e : wrap64 (i + 1) = i + 1 := wr (by omega) (by omega)
    exact ⟨_, _, _, rfl, (and255 _).1, (and255 _).2, by omega, by omega⟩
  · rw [if_neg c]
    exact ⟨_, _, _, rfl, (and255 _).1, (and255 _).2, h0, h1⟩

theorem spec_l1Below_ok (s : List Int) (i h : Int) (h0 : 0 ≤ i) (h1 : i ≤ s.length) (hs : s.length ≤ 1048576) (n : Int) (n0 : 0 < n) (n1 : n ≤ 256) : ∃ x j h', spec_l1Below.f s i h n = some (x, j, h') ∧ 0 ≤ x ∧ x < n ∧ 0 ≤ j ∧ j ≤ s.length := by
  obtain ⟨x, j, h', e, x0, x1, j0, j1⟩ := spec_l1Byte_ok s i h h0 h1 hs
  unfold spec_l1Below.f
  rw [if_neg (by omega), if_pos n1, e, Option.bind_some, if_neg (by omega)]
  exact ⟨_, _, _, rfl, Int.tmod_nonneg _ x0, Int.tmod_lt_of_pos _ n0, j0, j1⟩

theorem spec_l1Int_ok (s : List Int) (i h : Int) (h0 : 0 ≤ i) (h1 : i ≤ s.length) (hs : s.length ≤ 1048576) (l : List Int) (n0 : 0 < l.length) (n1 : l.length ≤ 256) : ∃ x j h', spec_l1Int.f s i h l = some (x, j, h') ∧ 0 ≤ j ∧ j ≤ s.length := by
  obtain ⟨x, j, h', e, x0, x1, j0, j1⟩ := spec_l1Below_ok s i h h0 h1 hs (l.length : Int) (by omega) (by omega)
  unfold spec_l1Int.f
  rw [e, Option.bind_some, if_pos x0, if_pos x1]
  exact ⟨_, _, _, rfl, j0, j1⟩

theorem spec_l1Once_ok (s : List Int) (i h : Int) (h0 : 0 ≤ i) (h1 : i ≤ s.length) (hs : s.length ≤ 1048576) (n : Int) (n0 : 0 < n) (n1 : n ≤ 256) : ∃ x j h', spec_l1Once.f s i h n = some (x, j, h') ∧ 0 ≤ j ∧ j ≤ s.length := by
  obtain ⟨x, j, g, e, _, _, j0, j1⟩ := spec_l1Below_ok s i h h0 h1 hs n n0 n1
  unfold spec_l1Once.f
  rw [e, Option.bind_some]
  exact ⟨_, _, _, rfl, j0, j1⟩

theorem spec_l5Name_ok (s : List Int) (i h : Int) (h0 : 0 ≤ i) (h1 : i ≤ s.length) (hs : s.length ≤ 1048576) (a : Int) : ∃ x j h', spec_l5Name.f s i h a = some (x, j, h') ∧ 0 ≤ j ∧ j ≤ s.length := by
  obtain ⟨x, j, g, e, _, _, j0, j1⟩ := spec_l1Below_ok s i h h0 h1 hs 3 (by omega) (by omega)
  unfold spec_l5Name.f
  rw [e, Option.bind_some]
  exact ⟨_, _, _, rfl, j0, j1⟩

theorem spec_l5Any_ok (s : List Int) (i h : Int) (h0 : 0 ≤ i) (h1 : i ≤ s.length) (hs : s.length ≤ 1048576) : ∃ x j h', spec_l5Any.f s i h = some (x, j, h') ∧ 0 ≤ j ∧ j ≤ s.length := by
  obtain ⟨b, i1, g1, e1, i10, i11⟩ := spec_l1Once_ok s i h h0 h1 hs 6 (by omega) (by omega)
  obtain ⟨x, i2, g2, e2, i20, i21⟩ := spec_l1Int_ok s i1 g1 i10 i11 hs [(-1), 9, 10, 49, 50, 19] (by simp) (by simp)
  obtain ⟨c, i3, g3, e3, _, _, i30, i31⟩ := spec_l1Below_ok s i1 g1 i10 i11 hs 4 (by omega) (by omega)
  obtain ⟨y, i4, g4, e4, i40, i41⟩ := spec_l5Name_ok s i3 g3 i30 i31 hs (wrap64 (1 + c))
  unfold spec_l5Any.f
  simp only [e1, Option.bind_some]
  cases b with
  | true => exact ⟨x, i2, g2, by simp only [if_true, e2, Option.bind_some], i20, i21⟩
  | false => exact ⟨y, i4, g4, by simp only [Bool.false_eq_true, if_false, e3, e4, Option.bind_some], i40, i41⟩

theorem spec_l30Copy_ev (l : List S51) (h : l.length + (l.map n51).sum ≤ 1048576) : Ev (fun k => spec_l30Copy.f k l) l := by
  unfold spec_l30Copy.f
  have e : l = l.foldl (fun s x => s ++ [x]) [] := by rw [foldl_snoc]; rfl
  conv => rhs; rw [e]
  refine ev_fold l (fun s x => s ++ [x]) id (fun i s => s.length = i) (fun k s i => spec_l30Copy.l0 k l s i) ?_ ?_ ?_ [] rfl
  · intro s _
    refine Ev.succ ?_
    simp only [spec_l30Copy.l0, Int.lt_irrefl, if_false]
    exact Ev.now _
  · intro i x s hx hs
    simp [hs]
  · intro i x s r hx hs hr
    have hi := lt_of_get hx
    have hn := le_sum n51 hx
    unfold n51 at hn
    have hs' : s.length = i := hs
    have h1 : ((i : Int) < (l.length : Int)) = True := eq_true (by omega)
    have h2 : (0 ≤ (i : Int)) = True := eq_true (by omega)
    have h3 : (s.length < 1954687338268) = True := eq_true (by omega)
    have h4 : (([] : List Int).length + x.f3.length < 17592186044416) = True := eq_true (by rw [List.length_nil]; unfold n51 at h; omega)
    refine Ev.succ ?_
    simp only [spec_l30Copy.l0, h1, h2, h3, h4, if_true, rd_at_T51 hx, wr1 hi (by omega), Option.bind_some, List.nil_append]
    exact hr

theorem spec_TakeBack_ev (l : List S51) (id : Int) (h : l.length + (l.map n51).sum ≤ 1048576) : Ev (fun k => spec_TakeBack.f k l id) (takeB l id) := by
  unfold spec_TakeBack.f takeB
  refine Ev.bind (spec_l30Copy_ev l h) ?_
  refine Ev.bind (spec_AreGrants_ev l h) ?_
  by_cases c : grantsB l = true
  · simp only [if_pos c, spec_l1In_eq, Option.bind_some]
    by_cases c2 : inB id 1 (l.length : Int) = true
    · simp only [if_pos c2]
      have hi := inB_iff.1 c2
      have hw : wrap64 (id - 1) = id - 1 := wr (by omega) (by omega)
      have h1 : (0 ≤ id - 1) = True := eq_true (by omega)
      have h2 : (id - 1 < (l.length : Int)) = True := eq_true (by omega)
      simp only [hw, h1, h2, if_true]
      by_cases c3 : (rd_T51 l (id - 1)).f6 = true
      · rw [if_pos c3, if_neg (fun h => by rw [c3] at h; simp at h)]; exact Ev.now _
      · rw [if_neg c3, if_pos ⟨c, c2, by simpa using c3⟩]; exact Ev.now _
    · rw [if_neg c2, if_neg (fun h => c2 h.2.1)]; exact Ev.now _
  · rw [if_neg c, if_neg (fun h => c h.1)]; exact Ev.now _

def addE (l : List S51) (g : S51) : List S51 := l ++ [⟨(l.length : Int) + 1, g.f1, g.f2, g.f3, g.f4, g.f5, false⟩]
def addGV (l : List S51) (g : S51) : List S51 × Bool := if grantsB l = true ∧ grantsB (addE l g) = true then (addE l g, true) else (l, false)
theorem addE_size (l : List S51) (g : S51) : (addE l g).length + ((addE l g).map n51).sum = l.length + (l.map n51).sum + 1 + g.f3.length := by
  unfold addE
  rw [List.length_append, List.length_singleton, List.map_append, List.sum_append, List.map_cons, List.map_nil, List.sum_cons, List.sum_nil]
  unfold n51
  dsimp only
  omega
theorem addGV_size (l : List S51) (g : S51) : (addGV l g).1.length + ((addGV l g).1.map n51).sum ≤ l.length + (l.map n51).sum + 1 + g.f3.length := by
  unfold addGV
  split
  · rw [addE_size]; exact Nat.le_refl _
  · show l.length + (l.map n51).sum ≤ _; omega
theorem spec_AddGrant_ev (l : List S51) (g : S51) (h : l.length + (l.map n51).sum + g.f3.length ≤ 1048575) : Ev (fun k => spec_AddGrant.f k l g.f0 g.f1 g.f2 g.f3 g.f4 g.f5 g.f6) (addGV l g) := by
  unfold spec_AddGrant.f addGV
  have h0 : (([] : List S51).length + l.length < 1954687338268) = True := eq_true (by rw [List.length_nil]; omega)
  have h1 : (l.length + ([(⟨wrap64 ((l.length : Int) + 1), g.f1, g.f2, g.f3, g.f4, g.f5, false⟩ : S51)] : List S51).length < 1954687338268) = True := eq_true (by rw [List.length_singleton]; omega)
  simp only [Option.bind_some, h0, if_true, List.nil_append, h1]
  rw [wr (x := (l.length : Int) + 1) (by omega) (by omega)]
  have hE := addE_size l g
  have h2 : (addE l g).length + ((addE l g).map n51).sum ≤ 1048575 + 2 := by omega
  refine Ev.bind (spec_l30Copy_ev (addE l g) (by omega)) ?_
  refine Ev.bind (spec_AreGrants_ev l (by omega)) ?_
  by_cases c : grantsB l = true
  · refine Ev.pos c ?_
    refine Ev.bind (spec_AreGrants_ev (addE l g) (by omega)) ?_
    by_cases c2 : grantsB (addE l g) = true
    · rw [if_pos ⟨c, c2⟩]; exact Ev.pos c2 (Ev.now _)
    · rw [if_neg (fun h => c2 h.2)]
      refine Ev.neg c2 ?_
      refine Ev.bind (spec_l30Copy_ev l (by omega)) ?_
      exact Ev.now _
  · rw [if_neg (fun h => c h.1)]
    refine Ev.neg c ?_
    refine Ev.bind (spec_l30Copy_ev l (by omega)) ?_
    exact Ev.now _

theorem grant_acts (s : List Int) (hs : s.length ≤ 1048576) : ∀ (m i : Nat), i + m = 3 → ∀ (v : List Int) (j h a b c t p : Int) (q : Bool), 0 ≤ j → j ≤ s.length → v.length + m ≤ 3 → ∃ v' j' h', Ev (fun k => spec_l30Grant.l0 k (i : Int) s j h a b c v t p q) (a, b, c, v', t, p, q, j', h') ∧ v'.length ≤ 3 ∧ 0 ≤ j' ∧ j' ≤ s.length := by
  intro m
  induction m with
  | zero =>
    intro i hi v j h a b c t p q j0 j1 hv
    obtain rfl : i = 3 := by omega
    refine ⟨v, j, h, Ev.succ ?_, by omega, j0, j1⟩
    have hz : (((3 : Nat) : Int) < 3) = False := eq_false (by omega)
    simp only [spec_l30Grant.l0, hz, if_false]
    exact Ev.now _
  | succ m ih =>
    intro i hi v j h a b c t p q j0 j1 hv
    obtain ⟨o, j2, h2, e2, j20, j21⟩ := spec_l1Once_ok s j h j0 j1 hs 3 (by omega) (by omega)
    have hp : ((i : Int) < 3) = True := eq_true (by omega)
    have hw : wrap64 ((i : Int) + 1) = ((i + 1 : Nat) : Int) := by rw [wr (by omega) (by omega)]; omega
    cases o with
    | true =>
      obtain ⟨v', j', h', hE, hv', a0, a1⟩ := ih (i + 1) (by omega) v j2 h2 a b c t p q j20 j21 (by omega)
      refine ⟨v', j', h', Ev.succ ?_, hv', a0, a1⟩
      simp only [spec_l30Grant.l0, hp, if_true, e2, Option.bind_some, hw]
      exact hE
    | false =>
      obtain ⟨v', j', h', hE, hv', a0, a1⟩ := ih (i + 1) (by omega) (v ++ [(i : Int)]) j2 h2 a b c t p q j20 j21 (by rw [List.length_append, List.length_singleton]; omega)
      refine ⟨v', j', h', Ev.succ ?_, hv', a0, a1⟩
      simp only [spec_l30Grant.l0, hp, if_true, e2, Option.bind_some, hw, Bool.false_eq_true, if_false, if_pos (show v.length < 17592186044416 by omega)]
      exact hE
theorem grant_j1 (s : List Int) (hs : s.length ≤ 1048576) (j h a b c t p : Int) (q : Bool) (j0 : 0 ≤ j) (j1 : j ≤ s.length) : ∃ v' j' h', Ev (fun k => spec_l30Grant.j1 k s j h a b c t p q) (a, b, c, v', t, p, q, j', h') ∧ v'.length ≤ 3 ∧ 0 ≤ j' ∧ j' ≤ s.length := by
  obtain ⟨v', j', h', hE, hv, a0, a1⟩ := grant_acts s hs 3 0 rfl [] j h a b c t p q j0 j1 (by simp)
  refine ⟨v', j', h', Ev.succ ?_, hv, a0, a1⟩
  simp only [spec_l30Grant.j1]
  exact hE
theorem spec_l30Grant_ev (s : List Int) (i h : Int) (h0 : 0 ≤ i) (h1 : i ≤ s.length) (hs : s.length ≤ 1048576) (l : List S51) (hl : l.length ≤ 200) : ∃ (x : S51) (j g : Int), Ev (fun k => spec_l30Grant.f k s i h l) (x.f0, x.f1, x.f2, x.f3, x.f4, x.f5, x.f6, j, g) ∧ x.f3.length ≤ 3 ∧ 0 ≤ j ∧ j ≤ s.length := by
  obtain ⟨b, i1, g1, e1, i10, i11⟩ := spec_l5Name_ok s i h h0 h1 hs 1
  obtain ⟨c, i2, g2, e2, c0, c1, i20, i21⟩ := spec_l1Below_ok s i1 g1 i10 i11 hs 3 (by omega) (by omega)
  obtain ⟨t, i3, g3, e3, t0, t1, i30, i31⟩ := spec_l1Below_ok s i2 g2 i20 i21 hs 30 (by omega) (by omega)
  unfold spec_l30Grant.f
  simp only [e1, e2, e3, Option.bind_some]
  have hno : ∀ (j g : Int), 0 ≤ j → j ≤ s.length → ∃ (x : S51) (j' g' : Int), Ev (fun k => spec_l30Grant.j0 k l false s j g 0 b (wrap64 (13 + c)) t 0 false) (x.f0, x.f1, x.f2, x.f3, x.f4, x.f5, x.f6, j', g') ∧ x.f3.length ≤ 3 ∧ 0 ≤ j' ∧ j' ≤ s.length := by
    intro j g j0 j1
    obtain ⟨v', j', h', hE, hv, a0, a1⟩ := grant_j1 s hs j g 0 b (wrap64 (13 + c)) t 0 false j0 j1
    refine ⟨⟨0, b, wrap64 (13 + c), v', t, 0, false⟩, j', h', Ev.succ ?_, hv, a0, a1⟩
    simp only [spec_l30Grant.j0, Bool.false_eq_true, if_false]
    exact hE
  by_cases hz : (l.length : Int) > 0
  · simp only [if_pos hz]
    obtain ⟨o, i4, g4, e4, i40, i41⟩ := spec_l1Once_ok s i3 g3 i30 i31 hs 2 (by omega) (by omega)
    simp only [e4, Option.bind_some]
    cases o with
    | false => exact hno i4 g4 i40 i41
    | true =>
      obtain ⟨p, i5, g5, e5, p0, p1, i50, i51⟩ := spec_l1Below_ok s i4 g4 i40 i41 hs (l.length : Int) (by omega) (by omega)
      obtain ⟨o2, i6, g6, e6, i60, i61⟩ := spec_l1Once_ok s i5 g5 i50 i51 hs 5 (by omega) (by omega)
      have w1 : wrap64 (1 + p) = 1 + p := wr (by omega) (by omega)
      have w2 : wrap64 (1 + p - 1) = p := by rw [wr (by omega) (by omega)]; omega
      cases o2 with
      | true =>
        obtain ⟨v', j', h', hE, hv, a0, a1⟩ := grant_j1 s hs i6 g6 0 b (wrap64 (13 + c)) t (1 + p) false i60 i61
        refine ⟨⟨0, b, wrap64 (13 + c), v', t, 1 + p, false⟩, j', h', Ev.succ ?_, hv, a0, a1⟩
        simp only [spec_l30Grant.j0, if_true, e5, e6, Option.bind_some, w1]
        exact hE
      | false =>
        obtain ⟨v', j', h', hE, hv, a0, a1⟩ := grant_j1 s hs i6 g6 0 ((rd_T51 l p).f2) (wrap64 ((rd_T51 l p).f2 + 1)) t (1 + p) false i60 i61
        refine ⟨⟨0, (rd_T51 l p).f2, wrap64 ((rd_T51 l p).f2 + 1), v', t, 1 + p, false⟩, j', h', Ev.succ ?_, hv, a0, a1⟩
        simp only [spec_l30Grant.j0, if_true, e5, e6, Option.bind_some, w1, w2, Bool.false_eq_true, if_false, if_pos p0, if_pos p1]
        exact hE
  · simp only [if_neg hz]
    exact hno i3 g3 i30 i31

theorem grants_sum (c : Nat) : ∀ (l : List S51), (∀ x ∈ l, x.f3.length ≤ c) → (l.map n51).sum ≤ c * l.length
  | [], _ => by simp
  | x :: t, h => by
    have h1 := grants_sum c t (fun y hy => h y (List.mem_cons_of_mem _ hy))
    have h2 := h x List.mem_cons_self
    rw [List.map_cons, List.sum_cons, List.length_cons, Nat.mul_succ]
    unfold n51 at h1 ⊢
    omega
theorem addGV_mem (c : Nat) (l : List S51) (g : S51) (hl : ∀ x ∈ l, x.f3.length ≤ c) (hg : g.f3.length ≤ c) : ∀ x ∈ (addGV l g).1, x.f3.length ≤ c := by
  unfold addGV
  split
  · intro x hx
    unfold addE at hx
    rcases List.mem_append.1 hx with hx | hx
    · exact hl x hx
    · rw [List.mem_singleton.1 hx]; exact hg
  · exact hl
theorem addGV_len (l : List S51) (g : S51) : (addGV l g).1.length ≤ l.length + 1 := by
  unfold addGV addE
  split
  · simp
  · simp
theorem takeB_mem (c : Nat) (l : List S51) (id : Int) (hl : ∀ x ∈ l, x.f3.length ≤ c) : ∀ x ∈ (takeB l id).1, x.f3.length ≤ c := by
  unfold takeB
  split
  · rename_i d
    have hi := inB_iff.1 d.2.1
    obtain ⟨y, hy⟩ := getAt (l := l) (i := (id - 1).toNat) (by omega)
    have e : (((id - 1).toNat : Nat) : Int) = id - 1 := by omega
    have e2 := rd_at_T51 hy
    rw [e] at e2
    intro x hx
    rcases List.mem_or_eq_of_mem_set hx with hx | rfl
    · exact hl x hx
    · rw [e2]; exact hl y (List.mem_of_getElem? hy)
  · exact hl
theorem takeB_len (l : List S51) (id : Int) : (takeB l id).1.length = l.length := by
  unfold takeB
  split <;> simp
theorem spec_l30List_ev (s : List Int) (i h : Int) (h0 : 0 ≤ i) (h1 : i ≤ s.length) (hs : s.length ≤ 1048576) : ∃ v j g, Ev (fun k => spec_l30List.f k s i h) (v, j, g) ∧ v.length ≤ 6 ∧ (∀ x ∈ v, x.f3.length ≤ 3) ∧ 0 ≤ j ∧ j ≤ s.length := by
  have key : ∀ (m : Nat) (v : List S51) (i h : Int), 0 ≤ i → i ≤ s.length → v.length + m ≤ 6 → (∀ x ∈ v, x.f3.length ≤ 3) → ∃ v' j g, Ev (fun k => spec_l30List.l0 k v (m : Int) s i h) (v', j, g) ∧ v'.length ≤ 6 ∧ (∀ x ∈ v', x.f3.length ≤ 3) ∧ 0 ≤ j ∧ j ≤ s.length := by
    intro m
    induction m with
    | zero =>
      intro v i h i0 i1 hv hx
      have hz : (((0 : Nat) : Int) > 0) = False := eq_false (by omega)
      obtain ⟨o, i2, g2, e2, i20, i21⟩ := spec_l1Once_ok s i h i0 i1 hs 3 (by omega) (by omega)
      cases o with
      | false =>
        refine ⟨v, i2, g2, Ev.succ ?_, by omega, hx, i20, i21⟩
        simp only [spec_l30List.l0, hz, if_false, e2, Option.bind_some, Bool.false_eq_true]
        exact Ev.now _
      | true =>
        obtain ⟨n, i3, g3, e3, n0, n1, i30, i31⟩ := spec_l1Below_ok s i2 g2 i20 i21 hs 4 (by omega) (by omega)
        have hsum := grants_sum 3 v hx
        refine ⟨(takeB v (wrap64 (1 + n))).1, i3, g3, Ev.succ ?_, by rw [takeB_len]; omega, takeB_mem 3 v _ hx, i30, i31⟩
        simp only [spec_l30List.l0, hz, if_false, e2, e3, Option.bind_some, if_true]
        exact Ev.bind (spec_TakeBack_ev v _ (by omega)) (Ev.now _)
    | succ m ih =>
      intro v i h i0 i1 hv hx
      obtain ⟨x, i2, g2, hE, hx3, i20, i21⟩ := spec_l30Grant_ev s i h i0 i1 hs v (by omega)
      have hsum := grants_sum 3 v hx
      have hlen := addGV_len v x
      obtain ⟨v', j, g, hE', hv', hx', j0, j1⟩ := ih (addGV v x).1 i2 g2 i20 i21 (by omega) (addGV_mem 3 v x hx hx3)
      refine ⟨v', j, g, Ev.succ ?_, hv', hx', j0, j1⟩
      have hp : (((m + 1 : Nat) : Int) > 0) = True := eq_true (by omega)
      have hw : wrap64 (((m + 1 : Nat) : Int) - 1) = (m : Int) := by rw [wr (by omega) (by omega)]; omega
      simp only [spec_l30List.l0, hp, if_true, hw]
      refine Ev.bind hE ?_
      exact Ev.bind (spec_AddGrant_ev v x (by omega)) hE'
  obtain ⟨n, i1, g1, e1, n0, n1, i10, i11⟩ := spec_l1Below_ok s i h h0 h1 hs 6 (by omega) (by omega)
  obtain ⟨m, rfl⟩ : ∃ m : Nat, n = (m : Int) := ⟨n.toNat, by omega⟩
  obtain ⟨v, j, g, hE, hv⟩ := key m [] i1 g1 i10 i11 (by simp; omega) (by simp)
  refine ⟨v, j, g, ?_, hv⟩
  unfold spec_l30List.f
  simp only [e1, Option.bind_some]
  exact hE

theorem set_mem3 (c : Nat) (l : List S51) (i : Nat) (y : S51) (hl : ∀ x ∈ l, x.f3.length ≤ c) (hy : y.f3.length ≤ c) : ∀ x ∈ l.set i y, x.f3.length ≤ c := by
  intro x hx
  rcases List.mem_or_eq_of_mem_set hx with hx | rfl
  · exact hl x hx
  · exact hy
theorem spec_l30Any_ev (s : List Int) (i h : Int) (h0 : 0 ≤ i) (h1 : i ≤ s.length) (hs : s.length ≤ 1048576) : ∃ v j g, Ev (fun k => spec_l30Any.f k s i h) (v, j, g) ∧ v.length ≤ 6 ∧ (∀ x ∈ v, x.f3.length ≤ 4) ∧ 0 ≤ j ∧ j ≤ s.length := by
  obtain ⟨l, i1, g1, hE, hl, hx, i10, i11⟩ := spec_l30List_ev s i h h0 h1 hs
  have hx4 : ∀ x ∈ l, x.f3.length ≤ 4 := fun x hq => by have := hx x hq; omega
  unfold spec_l30Any.f
  by_cases hz : (l.length : Int) > 0
  · obtain ⟨p, i2, g2, e2, p0, p1, i20, i21⟩ := spec_l1Below_ok s i1 g1 i10 i11 hs (l.length : Int) (by omega) (by omega)
    obtain ⟨o, i3, g3, e3, o0, o1, i30, i31⟩ := spec_l1Below_ok s i2 g2 i20 i21 hs 8 (by omega) (by omega)
    obtain ⟨x, hxp⟩ := getAt (l := l) (i := p.toNat) (by omega)
    have e : ((p.toNat : Nat) : Int) = p := by omega
    have er := rd_at_T51 hxp
    rw [e] at er
    have hx3 := hx x (List.mem_of_getElem? hxp)
    by_cases c0 : o = 0
    · refine ⟨_, i3, g3, Ev.bind hE ?_, ?_, set_mem3 4 l p.toNat ⟨wrap64 ((rd_T51 l p).f0 + 1), (rd_T51 l p).f1, (rd_T51 l p).f2, (rd_T51 l p).f3, (rd_T51 l p).f4, (rd_T51 l p).f5, (rd_T51 l p).f6⟩ hx4 (by rw [er]; show x.f3.length ≤ 4; omega), i30, i31⟩
      · simp only [if_pos hz, e2, e3, Option.bind_some, if_pos c0, if_pos p0, if_pos p1]
        exact Ev.now _
      · rw [List.length_set]; exact hl
    by_cases c1 : o = 1
    · obtain ⟨y, i4, g4, e4, i40, i41⟩ := spec_l1Int_ok s i3 g3 i30 i31 hs [(-1), 0, 1, 2, 7] (by simp) (by simp)
      refine ⟨_, i4, g4, Ev.bind hE ?_, ?_, set_mem3 4 l p.toNat ⟨(rd_T51 l p).f0, (rd_T51 l p).f1, (rd_T51 l p).f2, (rd_T51 l p).f3, (rd_T51 l p).f4, y, (rd_T51 l p).f6⟩ hx4 (by rw [er]; show x.f3.length ≤ 4; omega), i40, i41⟩
      · simp only [if_pos hz, e2, e3, e4, Option.bind_some, if_neg c0, if_pos c1, if_pos p0, if_pos p1]
        exact Ev.now _
      · rw [List.length_set]; exact hl
    by_cases c2 : o = 2
    · obtain ⟨y, i4, g4, e4, i40, i41⟩ := spec_l1Int_ok s i3 g3 i30 i31 hs [(-1), 0, 5, 6] (by simp) (by simp)
      refine ⟨_, i4, g4, Ev.bind hE ?_, ?_, set_mem3 4 l p.toNat ⟨(rd_T51 l p).f0, (rd_T51 l p).f1, (rd_T51 l p).f2, (rd_T51 l p).f3 ++ [y], (rd_T51 l p).f4, (rd_T51 l p).f5, (rd_T51 l p).f6⟩ hx4 (by rw [er]; show (x.f3 ++ [y]).length ≤ 4; rw [List.length_append, List.length_singleton]; omega), i40, i41⟩
      · simp only [if_pos hz, e2, e3, e4, Option.bind_some, if_neg c0, if_neg c1, if_pos c2, if_pos p0, if_pos p1, if_pos (show (rd_T51 l p).f3.length < 17592186044416 by rw [er]; omega)]
        exact Ev.now _
      · rw [List.length_set]; exact hl
    by_cases c3 : o = 3
    · obtain ⟨y, i4, g4, e4, i40, i41⟩ := spec_l5Any_ok s i3 g3 i30 i31 hs
      refine ⟨_, i4, g4, Ev.bind hE ?_, ?_, set_mem3 4 l p.toNat ⟨(rd_T51 l p).f0, (rd_T51 l p).f1, y, (rd_T51 l p).f3, (rd_T51 l p).f4, (rd_T51 l p).f5, (rd_T51 l p).f6⟩ hx4 (by rw [er]; show x.f3.length ≤ 4; omega), i40, i41⟩
      · simp only [if_pos hz, e2, e3, e4, Option.bind_some, if_neg c0, if_neg c1, if_neg c2, if_pos c3, if_pos p0, if_pos p1]
        exact Ev.now _
      · rw [List.length_set]; exact hl
    refine ⟨l, i3, g3, Ev.bind hE ?_, hl, hx4, i30, i31⟩
    simp only [if_pos hz, e2, e3, Option.bind_some, if_neg c0, if_neg c1, if_neg c2, if_neg c3]
    exact Ev.now _
  · refine ⟨l, i1, g1, Ev.bind hE ?_, hl, hx4, i10, i11⟩
    simp only [if_neg hz]
    exact Ev.now _

theorem spec_DrawMayActFor_ev (s : List Int) (h : s.length ≤ 1048576) : ∃ l id p a t, Ev (fun k => spec_DrawMayActFor.f k s) (l, id, p, a, t) ∧ l.length ≤ 6 ∧ (∀ x ∈ l, x.f3.length ≤ 4) := by
  obtain ⟨x, hx⟩ := spec_l1New_ev s h
  obtain ⟨l, i1, g1, hE, hl, hm, i10, i11⟩ := spec_l30Any_ev s 0 x (by omega) (by omega) h
  obtain ⟨n, i2, g2, e2, n0, n1, i20, i21⟩ := spec_l1Below_ok s i1 g1 i10 i11 h 6 (by omega) (by omega)
  obtain ⟨p, i3, g3, e3, i30, i31⟩ := spec_l5Any_ok s i2 g2 i20 i21 h
  obtain ⟨a, i4, g4, e4, a0, a1, i40, i41⟩ := spec_l1Below_ok s i3 g3 i30 i31 h 4 (by omega) (by omega)
  obtain ⟨t, i5, g5, e5, t0, t1, i50, i51⟩ := spec_l1Below_ok s i4 g4 i40 i41 h 30 (by omega) (by omega)
  unfold spec_DrawMayActFor.f
  cases c : inB n 1 (l.length : Int) with
  | false =>
    refine ⟨l, n, p, a, t, Ev.bind hx (Ev.bind hE ?_), hl, hm⟩
    simp only [e2, e3, e4, e5, Option.bind_some, spec_l1In_eq, c, Bool.false_eq_true, if_false]
    exact Ev.now _
  | true =>
    have hi := inB_iff.1 c
    have w : wrap64 (n - 1) = n - 1 := wr (by omega) (by omega)
    refine ⟨l, n, (rd_T51 l (n - 1)).f2, a, t, Ev.bind hx (Ev.bind hE ?_), hl, hm⟩
    simp only [e2, e3, e4, e5, Option.bind_some, spec_l1In_eq, c, if_true, w, if_pos (show 0 ≤ n - 1 by omega), if_pos (show n - 1 < (l.length : Int) by omega)]
    exact Ev.now _

theorem laws_contains_ev (v : List Int) (p : Int) (h : v.length ≤ 1048576) (hp : p ∈ v) : Ev (fun k => laws_contains.f k v p) true := by
  have e : findB v.length (fun i => decide (rd v (i : Int) = p)) (fun _ => true) false = true := by
    rw [findB_any]
    unfold anyN
    obtain ⟨i, hi, rfl⟩ := List.getElem_of_mem hp
    refine List.any_eq_true.2 ⟨i, List.mem_range.2 hi, decide_eq_true ?_⟩
    unfold rd
    simp [hi]
  rw [← e]
  unfold laws_contains.f
  refine ev_find v.length _ (fun _ => true) false (fun k i => laws_contains.l0 k v p i) ?_ ?_
  · refine Ev.succ ?_
    simp only [laws_contains.l0, Int.lt_irrefl, if_false]
    exact Ev.now _
  · intro i hi
    have h1 : ((i : Int) < (v.length : Int)) = True := eq_true (by omega)
    have h2 : (0 ≤ (i : Int)) = True := eq_true (by omega)
    constructor
    · intro hq r hr
      refine Ev.succ ?_
      simp only [laws_contains.l0, h1, h2, if_true, if_neg (of_decide_eq_false hq), wr1 hi (by omega)]
      exact hr
    · intro hq
      refine Ev.succ ?_
      simp only [laws_contains.l0, h1, h2, if_true, if_pos (of_decide_eq_true hq)]
      exact Ev.now _

/-- What each link of a chain allows; the last one has no parent. -/
def linkP (l : List S51) (a t y : Int) : Prop := (rd_T51 l (y - 1)).f6 = false ∧ ¬ (rd_T51 l (y - 1)).f4 < t ∧ hasI (rd_T51 l (y - 1)).f3 a = true
def okC (l : List S51) (a t : Int) : List Int → Prop
  | [] => True
  | [y] => linkP l a t y ∧ (rd_T51 l (y - 1)).f5 = 0
  | y :: z :: r => linkP l a t y ∧ (rd_T51 l (z - 1)).f2 = (rd_T51 l (y - 1)).f1 ∧ okC l a t (z :: r)
theorem okC_at (l : List S51) (a t : Int) : ∀ (c : List Int), okC l a t c → ∀ (i : Nat) (y : Int), c[i]? = some y → linkP l a t y ∧ (∀ z, c[i + 1]? = some z → (rd_T51 l (z - 1)).f2 = (rd_T51 l (y - 1)).f1) ∧ (i + 1 = c.length → (rd_T51 l (y - 1)).f5 = 0)
  | [], _, i, y, h => by simp at h
  | [x], hc, i, y, h => by
    match i, h with
    | 0, h =>
      obtain rfl : x = y := by simpa using h
      exact ⟨hc.1, fun z hz => by simp at hz, fun _ => hc.2⟩
    | i + 1, h => simp at h
  | x :: z :: r, hc, i, y, h => by
    match i, h with
    | 0, h =>
      obtain rfl : x = y := by simpa using h
      refine ⟨hc.1, fun w hw => ?_, fun e => by simp at e⟩
      obtain rfl : z = w := by simpa using hw
      exact hc.2.1
    | i + 1, h =>
      have h2 : (z :: r)[i]? = some y := by simpa using h
      obtain ⟨q1, q2, q3⟩ := okC_at l a t (z :: r) hc.2.2 i y h2
      exact ⟨q1, fun w hw => q2 w (by simpa using hw), fun e => q3 (by simpa using e)⟩
theorem hasI_iff {l : List Int} {a : Int} : hasI l a = true ↔ a ∈ l := by
  unfold hasI
  rw [List.any_eq_true]
  constructor
  · rintro ⟨x, hx, e⟩; rw [decide_eq_true_eq] at e; rw [e]; exact hx
  · intro h; exact ⟨a, h, by simp⟩
theorem under_has {v u : List Int} {a : Int} (h : underB v u = true) (ha : hasI v a = true) : hasI u a = true := by
  unfold underB at h
  rw [Bool.not_eq_true', List.any_eq_false] at h
  have := h a (hasI_iff.1 ha)
  simpa using this
theorem okC_chain {l : List S51} (hg : grantsB l = true) (a t : Int) : ∀ (n : Nat) (id : Int), 1 ≤ id → id ≤ n → n ≤ l.length → goodV l t n id = true → hasI (rd_T51 l (id - 1)).f3 a = true → okC l a t (chainV l n id)
  | 0, id, h1, h2, _, _, _ => by omega
  | n + 1, id, h1, h2, h3, hq, ha => by
    have hp := grants_parent hg id h1 (by omega)
    unfold goodV at hq
    by_cases c6 : (rd_T51 l (id - 1)).f6 = true
    · rw [if_pos c6] at hq; cases hq
    rw [if_neg c6] at hq
    by_cases c4 : t > (rd_T51 l (id - 1)).f4
    · rw [if_pos c4] at hq; cases hq
    rw [if_neg c4] at hq
    have hlink : linkP l a t id := ⟨(Bool.not_eq_true _).mp c6, fun h => c4 h, ha⟩
    unfold chainV
    rw [if_neg (show ¬ id ≤ 0 by omega)]
    by_cases c5 : (rd_T51 l (id - 1)).f5 = 0
    · have e : chainV l n (rd_T51 l (id - 1)).f5 = [] := by
        rw [c5]
        cases n with
        | zero => rfl
        | succ m => unfold chainV; rw [if_pos (Int.le_refl 0)]
      rw [e]
      exact ⟨hlink, c5⟩
    · rw [if_neg c5] at hq
      simp only [Bool.and_eq_true, decide_eq_true_eq] at hq
      have ih := okC_chain hg a t n _ (by omega) (by omega) (by omega) hq.2.2 (under_has hq.2.1 ha)
      have e : ∃ r, chainV l n (rd_T51 l (id - 1)).f5 = (rd_T51 l (id - 1)).f5 :: r := by
        cases n with
        | zero => omega
        | succ m => exact ⟨_, by rw [chainV, if_neg (by omega)]⟩
      obtain ⟨r, e⟩ := e
      rw [e] at ih ⊢
      exact ⟨hlink, hq.1.symm, ih⟩
theorem chainV_le {l : List S51} (hg : grantsB l = true) : ∀ (n : Nat) (id : Int), id ≤ n → n ≤ l.length → ∀ y ∈ chainV l n id, y ≤ id
  | 0, _, _, _, y, hy => by simp [chainV] at hy
  | n + 1, id, h2, h3, y, hy => by
    unfold chainV at hy
    by_cases c : id ≤ 0
    · rw [if_pos c] at hy; simp at hy
    · rw [if_neg c] at hy
      rcases List.mem_cons.1 hy with rfl | hy
      · omega
      · have hp := grants_parent hg id (by omega) (by omega)
        have := chainV_le hg n _ (by omega) (by omega) y hy
        omega
theorem rd_set_ne (l : List S51) (x : S51) {i j : Int} (h0 : 0 ≤ i) (h1 : 0 ≤ j) (h : i ≠ j) : rd_T51 (l.set i.toNat x) j = rd_T51 l j := by
  unfold rd_T51
  rw [List.getD_eq_getElem?_getD, List.getD_eq_getElem?_getD, List.getElem?_set_ne (by omega)]
theorem rd_set_eq (l : List S51) (x : S51) {i : Int} (h0 : 0 ≤ i) (h1 : i < (l.length : Int)) : rd_T51 (l.set i.toNat x) i = x := by
  unfold rd_T51
  rw [List.getD_eq_getElem?_getD, List.getElem?_set_self (by omega)]; rfl
theorem taken_bad {l : List S51} (hg : grantsB l = true) (t y : Int) (x : S51) (hx : x.f6 = true) (hy : 1 ≤ y) : ∀ (n : Nat) (id : Int), id ≤ n → n ≤ l.length → y ∈ chainV l n id → goodV (l.set (y - 1).toNat x) t n id = false
  | 0, _, _, _, h => by simp [chainV] at h
  | n + 1, id, h2, h3, h => by
    unfold chainV at h
    by_cases c : id ≤ 0
    · rw [if_pos c] at h; simp at h
    rw [if_neg c] at h
    unfold goodV
    by_cases e : y = id
    · subst e
      rw [rd_set_eq l x (show 0 ≤ y - 1 by omega) (by omega), if_pos hx]
    · have hm : y ∈ chainV l n (rd_T51 l (id - 1)).f5 := by
        rcases List.mem_cons.1 h with h | h
        · exact absurd h e
        · exact h
      have hp := grants_parent hg id (by omega) (by omega)
      have hle := chainV_le hg n _ (by omega) (by omega) y hm
      rw [rd_set_ne l x (show 0 ≤ y - 1 by omega) (show 0 ≤ id - 1 by omega) (by omega)]
      split
      · rfl
      split
      · rfl
      split
      · rename_i c5
        omega
      · rw [taken_bad hg t y x hx hy n _ (by omega) (by omega) hm, Bool.and_false, Bool.and_false]
theorem taken_act {l : List S51} (hg : grantsB l = true) (t y p a id : Int) (hid : id ≤ (l.length : Int)) (hy : 1 ≤ y) (x : S51) (hx : x.f6 = true) (hm : y ∈ chainV l l.length id) : actV (l.set (y - 1).toNat x) id p a t = 0 := by
  unfold actV goodB
  rw [List.length_set, taken_bad hg t y x hx hy l.length id hid (Nat.le_refl _) hm]
  rw [if_neg (by simp)]
set_option maxHeartbeats 1000000 in
theorem deleg_loop (l : List S51) (id p a t : Int) (c : List Int) (hl : l.length ≤ 6) (hx : ∀ x ∈ l, x.f3.length ≤ 4) (hg : grantsB l = true) (hcl : c.length ≤ 6) (hat : ∀ (i : Nat) (y : Int), c[i]? = some y → linkP l a t y ∧ (∀ z, c[i + 1]? = some z → (rd_T51 l (z - 1)).f2 = (rd_T51 l (y - 1)).f1) ∧ (i + 1 = c.length → (rd_T51 l (y - 1)).f5 = 0)) (hno : ∀ y ∈ c, actV (l.set (y - 1).toNat (takenG (rd_T51 l (y - 1)))) id p a t = 0) (hne : 0 < c.length) (hin : ∀ y ∈ c, 1 ≤ y ∧ y ≤ (l.length : Int)) : Ev (fun k => laws_FnDelegated.l0 k l id p a t c 0) true := by
  have hsum := grants_sum 4 l hx
  have key : ∀ d i : Nat, c.length - i = d → i ≤ c.length → Ev (fun k => laws_FnDelegated.l0 k l id p a t c (i : Int)) true := by
    intro d
    induction d with
    | zero =>
      intro i hd hi
      obtain rfl : i = c.length := by omega
      obtain ⟨y, hy⟩ := getAt (l := c) (i := c.length - 1) (by omega)
      have hb := hin y (List.mem_of_getElem? hy)
      obtain ⟨_, _, q3⟩ := hat _ y hy
      have q := q3 (by omega)
      have ry := rd_nat _ _ _ hy
      have k1 : (0 ≤ ((c.length - 1 : Nat) : Int)) = True := eq_true (by omega)
      have k2 : (((c.length - 1 : Nat) : Int) < (c.length : Int)) = True := eq_true (by omega)
      have k3 : (0 ≤ y - 1) = True := eq_true (by omega)
      have k4 : (y - 1 < (l.length : Int)) = True := eq_true (by omega)
      have w1 : wrap64 ((c.length : Int) - 1) = ((c.length - 1 : Nat) : Int) := wrm hne (by omega)
      have w2 : wrap64 (y - 1) = y - 1 := wr (by clear w1; omega) (by clear w1; omega)
      refine Ev.succ ?_
      simp only [laws_FnDelegated.l0, Int.lt_irrefl, if_false, if_true, w1, ry, w2, k1, k2, k3, k4, q, beq_self_eq_true]
      exact Ev.now _
    | succ d ih =>
      intro i hd hi
      have hi' : i < c.length := by omega
      obtain ⟨y, hy⟩ := getAt (l := c) (i := i) hi'
      have hmem := List.mem_of_getElem? hy
      have hb := hin y hmem
      obtain ⟨⟨q6, q4, qa⟩, _, _⟩ := hat _ y hy
      have ry := rd_nat _ _ _ hy
      have h1 : ((i : Int) < (c.length : Int)) = True := eq_true (by omega)
      have h2 : (0 ≤ (i : Int)) = True := eq_true (by omega)
      have h3 : (0 ≤ y - 1) = True := eq_true (by omega)
      have h4 : (y - 1 < (l.length : Int)) = True := eq_true (by omega)
      obtain ⟨g, hgy⟩ := getAt (l := l) (i := (y - 1).toNat) (by omega)
      have eg : (((y - 1).toNat : Nat) : Int) = y - 1 := by omega
      have er := rd_at_T51 hgy
      rw [eg] at er
      have hg4 := hx g (List.mem_of_getElem? hgy)
      have ht : takeB l y = (l.set (y - 1).toNat (takenG (rd_T51 l (y - 1))), true) := by
        unfold takeB
        rw [if_pos ⟨hg, inB_iff.2 ⟨by omega, by omega⟩, q6⟩]
      have hsz := takeB_size l y
      rw [ht] at hsz
      have hact := hno y hmem
      have hnext := ih (i + 1) (by omega) (by omega)
      have sz1 : l.length + (l.map n51).sum ≤ 1048576 := by omega
      have sz2 : (l.set (y - 1).toNat (takenG (rd_T51 l (y - 1)))).length + ((l.set (y - 1).toNat (takenG (rd_T51 l (y - 1)))).map n51).sum ≤ 1048576 := by rw [show _ = _ from hsz]; exact sz1
      have hj : Ev (fun k => laws_FnDelegated.j2 k l id p a t c (i : Int) false) true := by
        have w3 := wr1 hi' (show c.length ≤ 9223372036854775807 by omega)
        refine Ev.succ ?_
        simp only [laws_FnDelegated.j2, Bool.false_eq_true, if_false, h1, h2, if_true, ry]
        refine Ev.bind (impl_TakeBack_ev l y sz1) ?_
        rw [ht]
        simp only [if_true]
        refine Ev.bind (impl_MayActFor_ev _ id p a t sz2) ?_
        rw [hact]
        simp only [if_true, w3]
        exact hnext
      have gl : (rd_T51 l (y - 1)).f3.length ≤ 1048576 := by rw [er]; omega
      have w2 : wrap64 (y - 1) = y - 1 := wr (by omega) (by omega)
      refine Ev.succ ?_
      simp only [laws_FnDelegated.l0, h1, h2, h3, h4, if_true, ry, w2, q6, Bool.false_eq_true, if_false, if_neg q4]
      refine Ev.bind (laws_contains_ev _ a gl (hasI_iff.1 qa)) ?_
      simp only [if_true]
      by_cases c0 : i = 0
      · exact Ev.neg (by clear w2; omega) hj
      · obtain ⟨z, hz⟩ := getAt (l := c) (i := i - 1) (by omega)
        have hbz := hin z (List.mem_of_getElem? hz)
        obtain ⟨_, qz, _⟩ := hat _ z hz
        have qz := qz y (by rw [show i - 1 + 1 = i by omega]; exact hy)
        have rz := rd_nat _ _ _ hz
        have k0 : ((i : Int) > 0) = True := eq_true (by clear w2; omega)
        have k1 : (0 ≤ ((i - 1 : Nat) : Int)) = True := eq_true (by clear w2; omega)
        have k2 : (((i - 1 : Nat) : Int) < (c.length : Int)) = True := eq_true (by clear w2; omega)
        have k3 : (0 ≤ z - 1) = True := eq_true (by clear w2; omega)
        have k4 : (z - 1 < (l.length : Int)) = True := eq_true (by clear w2; omega)
        have w4 : wrap64 ((i : Int) - 1) = ((i - 1 : Nat) : Int) := wrm (by clear w2; omega) (by clear w2; omega)
        have w5 : wrap64 (z - 1) = z - 1 := wr (by clear w2 w4; omega) (by clear w2 w4; omega)
        simp only [k0, k1, k2, k3, k4, if_true, w4, rz, w5, qz, bne_self_eq_false]
        exact hj
  exact key c.length 0 (by omega) (by omega)
theorem FnDelegated : laws_FnDelegated.Pure := by
  intro s h1 h2
  refine Ev.rounds ?_
  unfold laws_FnDelegated.f laws_big.f
  simp only [Option.bind_some, decide_eq_true_eq]
  by_cases c : (s.length : Int) > 1048576
  · simp only [if_pos c]; exact Ev.now _
  simp only [if_neg c]
  obtain ⟨l, id, p, a, t, hd, hl, hx⟩ := spec_DrawMayActFor_ev s (by omega)
  have hsum := grants_sum 4 l hx
  have hsz : l.length + (l.map n51).sum ≤ 1048576 := by omega
  refine Ev.bind hd ?_
  refine Ev.bind (impl_MayActFor_ev l id p a t hsz) ?_
  dsimp only
  by_cases c0 : actV l id p a t = 0
  · refine Ev.pos c0 ?_
    refine Ev.bind (spec_MayActFor_ev l id p a t hsz) ?_
    rw [c0]
    exact Ev.now _
  · refine Ev.neg c0 ?_
    unfold actV at c0
    by_cases cg : goodB l id t = true
    rotate_left
    · rw [if_neg cg] at c0; exact absurd rfl c0
    rw [if_pos cg] at c0
    by_cases cp : (rd_T51 l (id - 1)).f2 = p
    rotate_left
    · rw [if_neg cp] at c0; exact absurd rfl c0
    rw [if_pos cp] at c0
    by_cases ca : hasI (rd_T51 l (id - 1)).f3 a = true
    rotate_left
    · rw [if_neg ca] at c0; exact absurd rfl c0
    rw [if_pos ca] at c0
    have er : actV l id p a t = rootV l id := by unfold actV; rw [if_pos cg, if_pos cp, if_pos ca]
    unfold goodB at cg
    simp only [Bool.and_eq_true] at cg
    obtain ⟨g1, g2, g3, g4⟩ := cg
    have hi := inB_iff.1 g2
    have hch : chainB l id = chainV l l.length id := by unfold chainB; rw [if_pos g1, if_pos g2]
    have hok := okC_chain g1 a t l.length id (by omega) (by omega) (Nat.le_refl _) g4 ca
    have hin := chainB_in l id
    have hhead : ∃ r, chainV l l.length id = id :: r := by
      obtain ⟨m, hm⟩ : ∃ m, l.length = m + 1 := ⟨l.length - 1, by omega⟩
      rw [hm]
      exact ⟨_, by rw [chainV, if_neg (by omega)]⟩
    obtain ⟨r, hr⟩ := hhead
    refine Ev.bind (impl_ChainOf_ev l id hsz) ?_
    rw [hch]
    rw [hch] at hin
    have w1 : wrap64 (id - 1) = id - 1 := wr (by omega) (by omega)
    have hlen : 0 < ((chainV l l.length id).length : Int) := by rw [hr]; simp only [List.length_cons]; omega
    have hrd0 : rd (chainV l l.length id) 0 = id := by rw [hr]; rfl
    have hloop := deleg_loop l id p a t _ hl hx g1 (by have := chainV_length l l.length id; omega) (okC_at l a t _ hok) (fun y hy => taken_act g1 t y p a id (by omega) (hin y hy).1 _ rfl hy) (by omega) hin
    have hk : kindB (rootV l id) 1 = true := by
      have hlast := chainB_last l id (by rw [hch]; omega)
      unfold rootV
      rw [if_neg (by rw [hch]; omega)]
      generalize rd (chainB l id) (((chainB l id).length : Int) - 1) = y at hlast ⊢
      have hgs := g1
      simp only [grantsB, Bool.and_eq_true] at hgs
      have h3 := (allN_iff _ _).1 hgs.1 (y - 1).toNat (by omega)
      have e : (((y - 1).toNat : Nat) : Int) = y - 1 := by omega
      simp only [grP, grX, Bool.and_eq_true, e] at h3
      exact h3.2.1
    simp only [if_neg (show ¬ ((chainV l l.length id).length : Int) = 0 by omega), if_pos hlen, if_pos hrd0, w1, if_pos (show 0 ≤ id - 1 by omega), if_pos (show id - 1 < (l.length : Int) by omega), if_pos cp, impl_HasKind_eq, Option.bind_some, er, hk, if_true]
    refine Ev.bind (impl_RootOf_ev l id hsz) ?_
    simp only [bne_self_eq_false]
    refine Ev.succ ?_
    simp only [laws_FnDelegated.j0, Bool.false_eq_true, if_false]
    exact hloop

end Go.Proofs.Ytplfbjbbnjlnkaa.Pure
