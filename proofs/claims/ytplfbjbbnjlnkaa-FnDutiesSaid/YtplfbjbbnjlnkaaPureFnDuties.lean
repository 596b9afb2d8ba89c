/- The law FnDuties answers true for all arguments, over numbers and lists alone: what each function computes, and that program and reference compute the same. No condition. -/
import Derived.Test.YtplfbjbbnjlnkaaQFnDutiesx7
import Derived.Test.YtplfbjbbnjlnkaaL
namespace Go.Proofs.Ytplfbjbbnjlnkaa.Pure
open Go.RowKit Go.Proofs.Ytplfbjbbnjlnkaa.QFnDuties Go.Proofs.YtplfbjbbnjlnkaaL Go.Proofs.YtplfbjbbnjlnkaaW.PrintWords Go.Proofs.YtplfbjbbnjlnkaaW.PrintLast
set_option linter.unusedVariables false
set_option linter.unusedSimpArgs false

theorem rd_at_T117 {l : List S117} {i : Nat} {x : S117} (h : l[i]? = some x) : rd_T117 l (i : Int) = x := getD_nat l _ i x h
theorem rd_at_T129 {l : List S129} {i : Nat} {x : S129} (h : l[i]? = some x) : rd_T129 l (i : Int) = x := getD_nat l _ i x h
def eqT117 (x y : S117) : Bool := (x.f0 == y.f0) && ((x.f1 == y.f1) && ((x.f2 == y.f2) && ((x.f3 == y.f3))))
def eqT129 (x y : S129) : Bool := (x.f0 == y.f0) && ((x.f1 == y.f1) && ((x.f2 == y.f2)))

theorem impl_InRange_eq (a b c : Int) : impl_InRange.f a b c = some (inB a b c) := by
  unfold impl_InRange.f
  rw [ite_dand]; rfl

theorem impl_IsName_eq (a : Int) : impl_IsName.f a = some (nameB a) := by
  unfold impl_IsName.f
  rw [impl_InRange_eq]; rfl

theorem impl_KindOf_eq (a : Int) : impl_KindOf.f a = some (if nameB a = true then a / 10 else 0) := by
  unfold impl_KindOf.f
  rw [impl_IsName_eq, Option.bind_some]
  cases h : nameB a with
  | true => simp only [if_true, name_div h]
  | false => rfl

theorem impl_HasKind_eq (a b : Int) : impl_HasKind.f a b = some (kindB a b) := by
  unfold impl_HasKind.f kindB
  rw [impl_IsName_eq, impl_KindOf_eq, Option.bind_some]
  cases h : nameB a with
  | true => simp only [if_true, Option.bind_some, Bool.true_and]
  | false => rfl

theorem impl_IsTime_eq (a : Int) : impl_IsTime.f a = some (timeB a) := by
  unfold impl_IsTime.f
  rw [impl_InRange_eq]; rfl

theorem impl_IsUse_eq (a b c d : Int) : impl_IsUse.f a b c d = some (kindB a 1 && (kindB c 4 && (inB b 0 5 && timeB d))) := by
  unfold impl_IsUse.f
  simp only [impl_HasKind_eq, impl_InRange_eq, impl_IsTime_eq, Option.bind_some, ite_and]

def apP (l : List S129) (a b o : Int) (i : Nat) : Bool := (a == (rd_T129 l (i : Int)).f0 && (b == (rd_T129 l (i : Int)).f1 && (o == (rd_T129 l (i : Int)).f2)))
def apartB (l : List S129) (a b o : Int) : Bool := anyN l.length (apP l a b o) || anyN l.length (apP l b a o)
theorem slicesIndex_Apart_ev (l : List S129) (a b o : Int) (h : l.length ≤ 1048576) : Ev (fun k => impl_Apart_184.f k l a b o) (findB l.length (apP l a b o) (fun i => (i : Int)) (-1)) := by
  unfold impl_Apart_184.f
  refine ev_find l.length (apP l a b o) _ _ (fun k i => impl_Apart_184.l0 k l (l.length : Int) i a b o) ?_ ?_
  · refine Ev.succ ?_
    simp only [impl_Apart_184.l0, Int.lt_irrefl, if_false]
    exact Ev.now _
  · intro i hi
    have h1 : ((i : Int) < (l.length : Int)) = True := eq_true (by omega)
    have h2 : (0 ≤ (i : Int)) = True := eq_true (by omega)
    have h3 := wr1 hi (show l.length ≤ 9223372036854775807 by omega)
    constructor
    · intro hp r hr
      unfold apP at hp
      refine Ev.succ ?_
      simp only [impl_Apart_184.l0, h1, h2, if_true, h3, hp, Bool.false_eq_true, if_false]
      exact hr
    · intro hp
      unfold apP at hp
      refine Ev.succ ?_
      simp only [impl_Apart_184.l0, h1, h2, if_true, h3, hp]
      exact Ev.now _

theorem slicesContains_Apart_ev (l : List S129) (a b o : Int) (h : l.length ≤ 1048576) : Ev (fun k => impl_Apart_148.f k l a b o) (anyN l.length (apP l a b o)) := by
  unfold impl_Apart_148.f
  rw [← findB_ge]
  exact Ev.bind (slicesIndex_Apart_ev l a b o h) (Ev.now _)

theorem impl_AreApart_ev (l : List S129) (a b o : Int) (h : l.length ≤ 1048576) : Ev (fun k => impl_AreApart.f k l a b o) (apartB l a b o) := by
  unfold impl_AreApart.f apartB
  refine Ev.bind (slicesContains_Apart_ev l a b o h) ?_
  cases anyN l.length (apP l a b o) with
  | true => exact Ev.now _
  | false =>
    simp only [Bool.false_eq_true, if_false, Bool.false_or]
    exact Ev.bind (slicesContains_Apart_ev l b a o h) (Ev.now _)

def mayP (l : List S129) (p a o : Int) (x : S117) : Bool := x.f0 == p && (x.f2 == o && apartB l x.f1 a o)
theorem impl_MayDo_ev (l : List S129) (u : List S117) (p a o : Int) (h : l.length ≤ 1048576) : Ev (fun k => impl_MayDo.f k l u p a o) (!u.any (mayP l p a o)) := by
  unfold impl_MayDo.f
  rw [← idxV_any]
  refine Ev.bind (ev_idxO (fun k => cl151.p k l p a o) (mayP l p a o) u 0 (fun x _ => ?_)) (Ev.now _)
  unfold cl151.p mayP
  by_cases c1 : x.f0 = p
  · by_cases c2 : x.f2 = o
    · simp only [if_pos c1, if_pos c2, c1, c2, beq_self_eq_true, Bool.true_and]
      exact impl_AreApart_ev l x.f1 a o h
    · simp only [if_pos c1, if_neg c2, c1, beq_self_eq_true, Bool.true_and, beq_eq_false_iff_ne.mpr c2, Bool.false_and]
      exact Ev.now _
  · simp only [if_neg c1, beq_eq_false_iff_ne.mpr c1, Bool.false_and]
    exact Ev.now _

def useB (x : S117) : Bool := kindB x.f0 1 && (kindB x.f2 4 && (inB x.f1 0 5 && timeB x.f3))
def addV (l : List S129) (u : List S117) (x : S117) : List S117 × Bool :=
  if useB x = true then (if (!u.any (mayP l x.f0 x.f1 x.f2)) = true then (if (u.length : Int) ≥ 40 then (u, false) else (u ++ [x], true)) else (u, false)) else (u, false)
theorem addV_length (l : List S129) (u : List S117) (x : S117) : (addV l u x).1.length ≤ u.length + 1 := by
  unfold addV
  repeat' split
  all_goals simp
theorem impl_AddUse_ev (l : List S129) (u : List S117) (x : S117) (h : l.length ≤ 1048576) (hu : u.length ≤ 1048576) : Ev (fun k => impl_AddUse.f k l u x.f0 x.f1 x.f2 x.f3) (addV l u x) := by
  unfold impl_AddUse.f addV useB
  simp only [Option.bind_some, List.nil_append, List.length_nil, Nat.zero_add, if_pos (show u.length < 4398046511104 by omega), impl_IsUse_eq]
  generalize (kindB x.f0 1 && (kindB x.f2 4 && (inB x.f1 0 5 && timeB x.f3))) = ub
  cases ub with
  | false => exact Ev.now _
  | true =>
    simp only [if_true]
    refine Ev.bind (impl_MayDo_ev l u x.f0 x.f1 x.f2 h) ?_
    cases u.any (mayP l x.f0 x.f1 x.f2) with
    | true => exact Ev.now _
    | false =>
      simp only [Bool.not_false, if_true]
      by_cases c : (u.length : Int) ≥ 40
      · simp only [if_pos c]; exact Ev.now _
      · simp only [if_neg c]; exact Ev.now _

def stepM (l : List S129) (s : List S117 × List S117) (x : S117) : List S117 × List S117 :=
  ((addV l s.1 x).1, if (addV l s.1 x).2 = true then s.2 else s.2 ++ [x])
def mergeV (l : List S129) (a b : List S117) : List S117 × List S117 := b.foldl (stepM l) (a, [])
theorem addV_bound (l : List S129) (u : List S117) (x : S117) (h : u.length ≤ 1048576) : (addV l u x).1.length ≤ 1048576 := by
  unfold addV
  repeat' split
  all_goals (try simp only [List.length_append, List.length_singleton])
  all_goals omega
theorem addV_keep (l : List S129) (u : List S117) (x : S117) (h : (addV l u x).2 = false) : (addV l u x).1 = u := by
  revert h
  unfold addV
  repeat' split
  all_goals simp
theorem mergeV_bound (l : List S129) (b : List S117) : ∀ s : List S117 × List S117, s.1.length ≤ 1048576 → (b.foldl (stepM l) s).1.length ≤ 1048576 ∧ (b.foldl (stepM l) s).2.length ≤ s.2.length + b.length := by
  induction b with
  | nil => intro s h; exact ⟨h, by simp⟩
  | cons x b ih =>
    intro s h
    have h2 : (stepM l s x).2.length ≤ s.2.length + 1 := by unfold stepM; dsimp only; split <;> simp
    have := ih (stepM l s x) (addV_bound l s.1 x h)
    simp only [List.foldl_cons, List.length_cons]
    exact ⟨this.1, by omega⟩
theorem impl_MergeUses_ev (l : List S129) (a b : List S117) (h : l.length ≤ 1048576) (ha : a.length ≤ 1048576) (hb : b.length ≤ 1048576) : Ev (fun k => impl_MergeUses.f k l a b) (mergeV l a b) := by
  unfold impl_MergeUses.f mergeV
  simp only [Option.bind_some, List.nil_append, List.length_nil, Nat.zero_add, if_pos (show a.length < 4398046511104 by omega)]
  refine ev_fold b (stepM l) id (fun i s => s.1.length ≤ 1048576 ∧ s.2.length ≤ i) (fun k s i => impl_MergeUses.l0 k l s.1 s.2 b (b.length : Int) i) ?_ ?_ ?_ (a, []) ⟨ha, by simp⟩
  · intro s _
    refine Ev.succ ?_
    simp only [impl_MergeUses.l0, Int.lt_irrefl, if_false]
    exact Ev.now _
  · intro i x s hx hs
    refine ⟨addV_bound l s.1 x hs.1, ?_⟩
    have hs2 := hs.2
    unfold stepM; dsimp only; split
    · omega
    · rw [List.length_append, List.length_singleton]; omega
  · intro i x s r hx hs hr
    have hi := lt_of_get hx
    have h1 : ((i : Int) < (b.length : Int)) = True := eq_true (by omega)
    have h2 : (0 ≤ (i : Int)) = True := eq_true (by omega)
    have h3 : (s.2.length < 4398046511104) = True := eq_true (by omega)
    refine Ev.succ ?_
    simp only [impl_MergeUses.l0, h1, h2, h3, if_true, rd_at_T117 hx, wr1 hi (by omega)]
    refine Ev.bind (impl_AddUse_ev l s.1 x h hs.1) ?_
    unfold stepM at hr
    dsimp only at hr
    cases c : (addV l s.1 x).2 with
    | true => simp only [c, if_true] at hr ⊢; exact hr
    | false => simp only [c, Bool.false_eq_true, if_false] at hr ⊢; exact hr

theorem laws_contains_ev (v : List Int) (p : Int) (h : v.length ≤ 1048576) (hp : p ∈ v) : Ev (fun k => laws_contains.f k v p) true := by
  have e : findB v.length (fun i => decide (rd v (i : Int) = p)) (fun _ => true) false = true := by
    rw [findB_any]
    unfold anyN
    obtain ⟨i, hi, rfl⟩ := List.getElem_of_mem hp
    refine List.any_eq_true.2 ⟨i, List.mem_range.2 hi, decide_eq_true ?_⟩
    unfold rd
    simp [hi]
  rw [← e]
  unfold laws_contains.f
  refine ev_find v.length _ (fun _ => true) false (fun k i => laws_contains.l0 k v p i) ?_ ?_
  · refine Ev.succ ?_
    simp only [laws_contains.l0, Int.lt_irrefl, if_false]
    exact Ev.now _
  · intro i hi
    have h1 : ((i : Int) < (v.length : Int)) = True := eq_true (by omega)
    have h2 : (0 ≤ (i : Int)) = True := eq_true (by omega)
    constructor
    · intro hq r hr
      refine Ev.succ ?_
      simp only [laws_contains.l0, h1, h2, if_true, if_neg (of_decide_eq_false hq), wr1 hi (by omega)]
      exact hr
    · intro hq
      refine Ev.succ ?_
      simp only [laws_contains.l0, h1, h2, if_true, if_pos (of_decide_eq_true hq)]
      exact Ev.now _

theorem slices_Sort_int_int_eq (l : List Int) (h : l.length < 2199023255552) : slices_Sort_int_int.f l = some (l.mergeSort fun x y => decide (x ≤ y)) := by
  unfold slices_Sort_int_int.f
  rw [if_pos h]

theorem slices_Compact_int_int_eq (l : List Int) (h : l.length < 2199023255552) : slices_Compact_int_int.f l = some (Go.Lib.compact l) := by
  unfold slices_Compact_int_int.f
  rw [if_pos h]

theorem mem_compactUpTo (d : Array Int) (x : Int) : ∀ m, x ∈ Go.Lib.compactUpTo d m ↔ ∃ j, j < m ∧ d[j]! = x
  | 0 => by simp [Go.Lib.compactUpTo]
  | m + 1 => by
    rw [Go.Lib.compactUpTo_succ, List.mem_append, mem_compactUpTo d x m]
    constructor
    · rintro (⟨j, hj, e⟩ | h)
      · exact ⟨j, by omega, e⟩
      · split at h
        · exact ⟨m, by omega, (List.mem_singleton.1 h).symm⟩
        · simp at h
    · rintro ⟨j, hj, e⟩
      by_cases hm : j = m
      · subst hm
        by_cases hk : Go.Lib.keeps d j = true
        · rw [if_pos hk]; exact .inr (by simp [e])
        · left
          unfold Go.Lib.keeps at hk
          have h0 : j ≠ 0 ∧ d[j]! = d[j - 1]! := by simpa using hk
          exact ⟨j - 1, by omega, by rw [← h0.2, e]⟩
      · exact .inl ⟨j, by omega, e⟩
theorem asc_compactUpTo (d : Array Int) (n : Nat) (hs : ∀ i j, i ≤ j → j < n → d[i]! ≤ d[j]!) : ∀ m, m ≤ n → (Go.Lib.compactUpTo d m).Pairwise (· < ·)
  | 0, _ => by simp [Go.Lib.compactUpTo]
  | m + 1, hm => by
    rw [Go.Lib.compactUpTo_succ, List.pairwise_append]
    refine ⟨asc_compactUpTo d n hs m (by omega), by split <;> simp, ?_⟩
    intro a ha b hb
    split at hb
    case isFalse => simp at hb
    case isTrue hk =>
    obtain rfl := List.mem_singleton.1 hb
    obtain ⟨j, hj, rfl⟩ := (mem_compactUpTo d a m).1 ha
    unfold Go.Lib.keeps at hk
    have h0 : m = 0 ∨ d[m]! ≠ d[m - 1]! := of_decide_eq_true hk
    have h1 := hs j (m - 1) (by omega) (by omega)
    have h2 := hs (m - 1) m (by omega) (by omega)
    rcases h0 with h0 | h0
    · omega
    · omega
theorem asc_ext : ∀ (a b : List Int), a.Pairwise (· < ·) → b.Pairwise (· < ·) → (∀ x, x ∈ a ↔ x ∈ b) → a = b
  | [], [], _, _, _ => rfl
  | [], y :: b, _, _, h => by have := (h y).2 (by simp); simp at this
  | x :: a, [], _, _, h => by have := (h x).1 (by simp); simp at this
  | x :: a, y :: b, ha, hb, h => by
    rw [List.pairwise_cons] at ha hb
    have hxy : x = y := by
      have h1 := (h x).1 (by simp)
      have h2 := (h y).2 (by simp)
      rcases List.mem_cons.1 h1 with e | e
      · exact e
      · rcases List.mem_cons.1 h2 with e2 | e2
        · exact e2.symm
        · have := hb.1 x e; have := ha.1 y e2; omega
    subst hxy
    rw [asc_ext a b ha.2 hb.2 (fun z => ⟨fun hz => ?_, fun hz => ?_⟩)]
    · rcases List.mem_cons.1 ((h z).1 (by simp [hz])) with e | e
      · have := ha.1 z hz; omega
      · exact e
    · rcases List.mem_cons.1 ((h z).2 (by simp [hz])) with e | e
      · have := hb.1 z hz; omega
      · exact e
theorem asc_sorted (l : List Int) : (Go.Lib.compact (l.mergeSort fun x y => decide (x ≤ y))).Pairwise (· < ·) ∧ ∀ x, x ∈ Go.Lib.compact (l.mergeSort fun x y => decide (x ≤ y)) ↔ x ∈ l := by
  have hp : (l.mergeSort fun x y => decide (x ≤ y)).Pairwise fun x y => decide (x ≤ y) = true := List.pairwise_mergeSort (fun a b c h1 h2 => by simp at h1 h2 ⊢; omega) (fun a b => by simp; omega) l
  have hm : ∀ x, x ∈ (l.mergeSort fun x y => decide (x ≤ y)) ↔ x ∈ l := fun x => List.mem_mergeSort
  generalize (l.mergeSort fun x y => decide (x ≤ y)) = s at hp hm
  unfold Go.Lib.compact
  have hs : ∀ i j, i ≤ j → j < s.length → s.toArray[i]! ≤ s.toArray[j]! := by
    intro i j hij hj
    rw [getElem!_pos _ _ (by simp; omega), getElem!_pos _ _ (by simpa using hj)]
    rcases Nat.lt_or_eq_of_le hij with h | h
    · have := List.pairwise_iff_getElem.1 hp i j (by omega) hj h
      simpa using this
    · subst h; exact Int.le_refl _
  refine ⟨asc_compactUpTo _ s.length hs _ (Nat.le_refl _), fun x => ?_⟩
  rw [mem_compactUpTo, ← hm x]
  constructor
  · rintro ⟨j, hj, rfl⟩
    rw [getElem!_pos _ _ (by simpa using hj)]; simp
  · intro h
    obtain ⟨j, hj, rfl⟩ := List.getElem_of_mem h
    exact ⟨j, hj, by rw [getElem!_pos _ _ (by simpa using hj)]; simp⟩
def usersN (f : Int → Bool) : Nat → List Int
  | 0 => []
  | d + 1 => if f (19 - d) = true then (19 - (d : Int)) :: usersN f d else usersN f d
theorem mem_usersN (f : Int → Bool) (x : Int) : ∀ d, x ∈ usersN f d ↔ 20 - (d : Int) ≤ x ∧ x ≤ 19 ∧ f x = true
  | 0 => by simp [usersN]; intros; omega
  | d + 1 => by
    unfold usersN
    split
    · rename_i h
      rw [List.mem_cons, mem_usersN f x d]
      constructor
      · rintro (rfl | ⟨h1, h2, h3⟩)
        · exact ⟨by omega, by omega, h⟩
        · exact ⟨by omega, h2, h3⟩
      · rintro ⟨h1, h2, h3⟩
        by_cases e : x = 19 - (d : Int)
        · exact .inl e
        · exact .inr ⟨by omega, h2, h3⟩
    · rename_i h
      rw [mem_usersN f x d]
      constructor
      · rintro ⟨h1, h2, h3⟩; exact ⟨by omega, h2, h3⟩
      · rintro ⟨h1, h2, h3⟩
        refine ⟨?_, h2, h3⟩
        by_cases e : x = 19 - (d : Int)
        · subst e; exact absurd h3 h
        · omega
theorem asc_usersN (f : Int → Bool) : ∀ d, (usersN f d).Pairwise (· < ·)
  | 0 => by simp [usersN]
  | d + 1 => by
    unfold usersN
    split
    · rw [List.pairwise_cons]
      exact ⟨fun x hx => by have := (mem_usersN f x d).1 hx; omega, asc_usersN f d⟩
    · exact asc_usersN f d
theorem usersN_len (f : Int → Bool) : ∀ d, (usersN f d).length ≤ d
  | 0 => by simp [usersN]
  | d + 1 => by unfold usersN; have := usersN_len f d; split <;> (try simp only [List.length_cons]) <;> omega
def useIs (a o p : Int) (u : S117) : Bool := decide (u.f0 = p) && (decide (u.f1 = a) && decide (u.f2 = o))
def hasU (l : List S117) (a o p : Int) : Bool := l.any (useIs a o p)
def usersV (l : List S117) (a o : Int) : List Int := usersN (hasU l a o) 10
def userStep (a o : Int) (s : List Int) (x : S117) : List Int := if x.f1 = a then (if x.f2 = o then (if inB x.f0 10 19 = true then s ++ [x.f0] else s) else s) else s
theorem userStep_len (a o : Int) (s : List Int) (x : S117) : (userStep a o s x).length ≤ s.length + 1 := by
  unfold userStep
  repeat' split
  all_goals (try rw [List.length_append, List.length_singleton]) <;> omega
theorem mem_userStep (a o : Int) (s : List Int) (x : S117) (p : Int) : p ∈ userStep a o s x ↔ p ∈ s ∨ (useIs a o p x = true ∧ 10 ≤ p ∧ p ≤ 19) := by
  unfold userStep useIs inB
  simp only [Bool.and_eq_true, decide_eq_true_eq]
  by_cases c1 : x.f1 = a
  · by_cases c2 : x.f2 = o
    · simp only [c1, c2, if_true, and_true]
      by_cases c3 : 10 ≤ x.f0 ∧ x.f0 ≤ 19
      · simp only [c3, and_self, if_true, List.mem_append, List.mem_singleton]
        constructor
        · rintro (h | rfl)
          · exact .inl h
          · exact .inr ⟨rfl, c3⟩
        · rintro (h | ⟨rfl, _⟩)
          · exact .inl h
          · exact .inr rfl
      · simp only [c3, if_false]
        constructor
        · exact fun h => .inl h
        · rintro (h | ⟨rfl, h⟩)
          · exact h
          · exact absurd h c3
    · simp only [c1, c2, if_true, if_false, and_false, false_and, or_false]
  · simp only [c1, if_false, false_and, and_false, or_false]
theorem mem_users (a o p : Int) : ∀ (l : List S117) (s : List Int), p ∈ l.foldl (userStep a o) s ↔ p ∈ s ∨ (l.any (useIs a o p) = true ∧ 10 ≤ p ∧ p ≤ 19)
  | [], s => by simp
  | x :: l, s => by
    rw [List.foldl_cons, mem_users a o p l, mem_userStep, List.any_cons, Bool.or_eq_true]
    constructor
    · rintro ((h | ⟨h, g⟩) | ⟨h, g⟩)
      · exact .inl h
      · exact .inr ⟨.inl h, g⟩
      · exact .inr ⟨.inr h, g⟩
    · rintro (h | ⟨h | h, g⟩)
      · exact .inl (.inl h)
      · exact .inl (.inr ⟨h, g⟩)
      · exact .inr ⟨h, g⟩
theorem users_eq (l : List S117) (a o : Int) : Go.Lib.compact ((l.foldl (userStep a o) []).mergeSort fun x y => decide (x ≤ y)) = usersV l a o := by
  obtain ⟨h1, h2⟩ := asc_sorted (l.foldl (userStep a o) [])
  refine asc_ext _ _ h1 (asc_usersN _ _) (fun p => ?_)
  rw [h2 p, mem_users a o p l []]
  unfold usersV
  rw [mem_usersN]
  unfold hasU
  constructor
  · rintro (h | ⟨h, g1, g2⟩)
    · simp at h
    · exact ⟨by omega, g2, h⟩
  · rintro ⟨g1, g2, h⟩
    exact .inr ⟨h, by omega, g2⟩
theorem impl_UsersOf_ev (l : List S117) (a o : Int) (h : l.length ≤ 1048576) : Ev (fun k => impl_UsersOf.f k l a o) (usersV l a o) := by
  rw [← users_eq]
  unfold impl_UsersOf.f
  refine ev_fold l (userStep a o) (fun s => Go.Lib.compact (s.mergeSort fun x y => decide (x ≤ y))) (fun i s => s.length ≤ i) (fun k s i => impl_UsersOf.l0 k a o s l (l.length : Int) i) ?_ ?_ ?_ [] (by simp)
  · intro s hs
    have hs' : s.length ≤ l.length := hs
    refine Ev.succ ?_
    simp only [impl_UsersOf.l0, Int.lt_irrefl, if_false]
    rw [slices_Sort_int_int_eq s (by omega), Option.bind_some, slices_Compact_int_int_eq _ (by rw [List.length_mergeSort]; omega), Option.bind_some]
    exact Ev.now _
  · intro i x s hx hs
    have := userStep_len a o s x
    show (userStep a o s x).length ≤ i + 1
    have hs' : s.length ≤ i := hs
    omega
  · intro i x s r hx hs hr
    have hi := lt_of_get hx
    have hs' : s.length ≤ i := hs
    have h1 : ((i : Int) < (l.length : Int)) = True := eq_true (by omega)
    have h2 : (0 ≤ (i : Int)) = True := eq_true (by omega)
    have h3 : (s.length < 17592186044416) = True := eq_true (by omega)
    refine Ev.succ ?_
    simp only [impl_UsersOf.l0, h1, h2, h3, if_true, rd_at_T117 hx, wr1 hi (by omega), impl_InRange_eq, Option.bind_some]
    unfold userStep at hr
    by_cases c : x.f1 = a
    · by_cases c2 : x.f2 = o
      · by_cases c3 : inB x.f0 10 19 = true
        · simp only [if_pos c, if_pos c2, if_pos c3] at hr ⊢; exact hr
        · simp only [if_pos c, if_pos c2, if_neg c3] at hr ⊢; exact hr
      · simp only [if_pos c, if_neg c2] at hr ⊢; exact hr
    · simp only [if_neg c] at hr ⊢; exact hr

theorem spec_l1New_ev (l : List Int) (h : l.length ≤ 1048576) : ∃ x, Ev (fun k => spec_l1New.f k l) (l, 0, x) := by
  have key : ∀ (n i : Nat) (a : Int), i + n = l.length → ∃ x, Ev (fun k => spec_l1New.l0 k l a (i : Int)) (l, 0, x) := by
    intro n
    induction n with
    | zero =>
      intro i a e
      obtain rfl : i = l.length := by omega
      refine ⟨a, Ev.succ ?_⟩
      simp only [spec_l1New.l0, Int.lt_irrefl, if_false]
      exact Ev.now _
    | succ n ih =>
      intro i a e
      have hi : i < l.length := by omega
      have h1 : ((i : Int) < (l.length : Int)) = True := eq_true (by omega)
      have h2 : (0 ≤ (i : Int)) = True := eq_true (by omega)
      by_cases c : (i : Int) < 4000
      · obtain ⟨x, hx⟩ := ih (i + 1) (Go.bits .and .i64 (wrap64 ((wrap64 ((wrap64 (a * 137)) + (wrap64 (rd l (i : Int))))) + 11)) 1073741823) (by omega)
        refine ⟨x, Ev.succ ?_⟩
        simp only [spec_l1New.l0, h1, h2, if_true, if_pos c, wr1 hi (by omega)]
        exact hx
      · refine ⟨a, Ev.succ ?_⟩
        simp only [spec_l1New.l0, h1, if_true, if_neg c]
        exact Ev.now _
  exact key l.length 0 _ (by omega)

/-- What a mask of eight bits leaves. -/
theorem and255 (a : Int) : 0 ≤ Go.bits .and .i64 a 255 ∧ Go.bits .and .i64 a 255 ≤ 255 := by
  show 0 ≤ IntKind.i64.wrap ((BitVec.ofInt 64 a &&& BitVec.ofInt 64 255).toNat : Int) ∧ IntKind.i64.wrap ((BitVec.ofInt 64 a &&& BitVec.ofInt 64 255).toNat : Int) ≤ 255
  have e : (BitVec.ofInt 64 255).toNat = 255 := by decide
  have h : (BitVec.ofInt 64 a &&& BitVec.ofInt 64 255).toNat ≤ 255 := by rw [BitVec.toNat_and, e]; exact Nat.and_le_right
  generalize (BitVec.ofInt 64 a &&& BitVec.ofInt 64 255).toNat = m at h ⊢
  have hw : IntKind.i64.wrap (m : Int) = (m : Int) := by
    rw [i64_w]
    exact wr (by omega) (by omega)
  rw [hw]
  omega
theorem spec_l1Byte_ok (s : List Int) (i h : Int) (h0 : 0 ≤ i) (h1 : i ≤ s.length) (hs : s.length ≤ 1048576) : ∃ x j h', spec_l1Byte.f s i h = some (x, j, h') ∧ 0 ≤ x ∧ x ≤ 255 ∧ 0 ≤ j ∧ j ≤ s.length := by
  unfold spec_l1Byte.f
  by_cases c : i < (s.length : Int)
  · rw [if_pos c, if_pos h0]
    have e : wrap64 (i + 1) = i + 1 := wr (by omega) (by omega)
    exact ⟨_, _, _, rfl, (and255 _).1, (and255 _).2, by omega, by omega⟩
  · rw [if_neg c]
    exact ⟨_, _, _, rfl, (and255 _).1, (and255 _).2, h0, h1⟩

theorem spec_l1Below_ok (s : List Int) (i h : Int) (h0 : 0 ≤ i) (h1 : i ≤ s.length) (hs : s.length ≤ 1048576) (n : Int) (n0 : 0 < n) (n1 : n ≤ 256) : ∃ x j h', spec_l1Below.f s i h n = some (x, j, h') ∧ 0 ≤ x ∧ x < n ∧ 0 ≤ j ∧ j ≤ s.length := by
  obtain ⟨x, j, h', e, x0, x1, j0, j1⟩ := spec_l1Byte_ok s i h h0 h1 hs
  unfold spec_l1Below.f
  rw [if_neg (by omega), if_pos n1, e, Option.bind_some, if_neg (by omega)]
  exact ⟨_, _, _, rfl, Int.tmod_nonneg _ x0, Int.tmod_lt_of_pos _ n0, j0, j1⟩

theorem spec_l5Name_ok (s : List Int) (i h : Int) (h0 : 0 ≤ i) (h1 : i ≤ s.length) (hs : s.length ≤ 1048576) (a : Int) : ∃ x j h', spec_l5Name.f s i h a = some (x, j, h') ∧ 0 ≤ j ∧ j ≤ s.length := by
  obtain ⟨x, j, g, e, _, _, j0, j1⟩ := spec_l1Below_ok s i h h0 h1 hs 3 (by omega) (by omega)
  unfold spec_l5Name.f
  rw [e, Option.bind_some]
  exact ⟨_, _, _, rfl, j0, j1⟩

theorem spec_l31Apart_ev (s : List Int) (i h : Int) (h0 : 0 ≤ i) (h1 : i ≤ s.length) (hs : s.length ≤ 1048576) : ∃ v j g, Ev (fun k => spec_l31Apart.f k s i h) (v, j, g) ∧ v.length ≤ 10 ∧ 0 ≤ j ∧ j ≤ s.length := by
  have key : ∀ (m : Nat) (v : List S129) (i h : Int), 0 ≤ i → i ≤ s.length → v.length + m ≤ 10 → ∃ v' j g, Ev (fun k => spec_l31Apart.l0 k v (m : Int) s i h) (v', j, g) ∧ v'.length ≤ 10 ∧ 0 ≤ j ∧ j ≤ s.length := by
    intro m
    induction m with
    | zero =>
      intro v i h i0 i1 hv
      refine ⟨v, i, h, Ev.succ ?_, by omega, i0, i1⟩
      have hz : (((0 : Nat) : Int) > 0) = False := eq_false (by omega)
      simp only [spec_l31Apart.l0, hz, if_false]
      exact Ev.now _
    | succ m ih =>
      intro v i h i0 i1 hv
      obtain ⟨a, i2, g2, e2, _, _, i20, i21⟩ := spec_l1Below_ok s i h i0 i1 hs 3 (by omega) (by omega)
      obtain ⟨b, i3, g3, e3, _, _, i30, i31⟩ := spec_l1Below_ok s i2 g2 i20 i21 hs 3 (by omega) (by omega)
      obtain ⟨o, i4, g4, e4, i40, i41⟩ := spec_l5Name_ok s i3 g3 i30 i31 hs 4
      obtain ⟨v', j, g, hE, hv', j0, j1⟩ := ih (v ++ [⟨a, b, o⟩]) i4 g4 i40 i41 (by rw [List.length_append, List.length_singleton]; omega)
      refine ⟨v', j, g, Ev.succ ?_, hv', j0, j1⟩
      have hp : (((m + 1 : Nat) : Int) > 0) = True := eq_true (by omega)
      have hw : wrap64 (((m + 1 : Nat) : Int) - 1) = (m : Int) := by rw [wr (by omega) (by omega)]; omega
      simp only [spec_l31Apart.l0, hp, if_true, e2, e3, e4, Option.bind_some, if_pos (show v.length < 5864062014805 by omega), hw]
      exact hE
  obtain ⟨n, i1, g1, e1, n0, n1, i10, i11⟩ := spec_l1Below_ok s i h h0 h1 hs 4 (by omega) (by omega)
  obtain ⟨m, rfl⟩ : ∃ m : Nat, n = (m : Int) := ⟨n.toNat, by omega⟩
  obtain ⟨v, j, g, hE, hv, j0, j1⟩ := key m [] i1 g1 i10 i11 (by simp; omega)
  refine ⟨v, j, g, ?_, hv, j0, j1⟩
  unfold spec_l31Apart.f
  simp only [e1, Option.bind_some]
  exact hE

theorem spec_l1In_eq (a b c : Int) : spec_l1In.f a b c = some (inB a b c) := by
  unfold spec_l1In.f
  rw [ite_dand]; rfl

theorem spec_IsTime_eq (a : Int) : spec_IsTime.f a = some (timeB a) := by
  unfold spec_IsTime.f
  rw [spec_l1In_eq]; rfl

theorem spec_IsName_eq (a : Int) : spec_IsName.f a = some (nameB a) := by
  unfold spec_IsName.f
  rw [spec_l1In_eq]; rfl

theorem spec_HasKind_eq (a b : Int) : spec_HasKind.f a b = some (kindB a b) := by
  unfold spec_HasKind.f kindB
  rw [spec_IsName_eq, Option.bind_some]
  cases h : nameB a with
  | true => simp only [if_true, name_div h, Bool.true_and]
  | false => rfl

theorem spec_IsUse_eq (a b c d : Int) : spec_IsUse.f a b c d = some (kindB a 1 && (kindB c 4 && (inB b 0 5 && timeB d))) := by
  unfold spec_IsUse.f
  simp only [spec_HasKind_eq, spec_l1In_eq, spec_IsTime_eq, Option.bind_some, ite_and]

theorem anyN_or (n : Nat) (p q : Nat → Bool) : anyN n (fun i => p i || q i) = (anyN n p || anyN n q) := by
  unfold anyN
  rw [Bool.eq_iff_iff]
  simp only [List.any_eq_true, Bool.or_eq_true]
  constructor
  · rintro ⟨i, hi, h | h⟩
    · exact .inl ⟨i, hi, h⟩
    · exact .inr ⟨i, hi, h⟩
  · rintro (⟨i, hi, h⟩ | ⟨i, hi, h⟩)
    · exact ⟨i, hi, .inl h⟩
    · exact ⟨i, hi, .inr h⟩
theorem spec_AreApart_ev (l : List S129) (a b o : Int) (h : l.length ≤ 1048576) : Ev (fun k => spec_AreApart.f k l a b o) (apartB l a b o) := by
  unfold spec_AreApart.f apartB
  rw [← anyN_or, ← findB_any]
  refine ev_find l.length _ _ _ (fun k i => spec_AreApart.l0 k l a b o i) ?_ ?_
  · refine Ev.succ ?_
    simp only [spec_AreApart.l0, Int.lt_irrefl, if_false]
    exact Ev.now _
  · intro i hi
    have h1 : ((i : Int) < (l.length : Int)) = True := eq_true (by omega)
    have h2 : (0 ≤ (i : Int)) = True := eq_true (by omega)
    have h3 := wr1 hi (show l.length ≤ 9223372036854775807 by omega)
    constructor
    · intro hp r hr
      simp only [apP, Bool.or_eq_false_iff, Bool.and_eq_false_iff, beq_eq_false_iff_ne, ne_eq] at hp
      refine Ev.succ ?_
      simp only [spec_AreApart.l0, h1, h2, if_true, h3]
      repeat' refine Ev.ite (fun c => ?_) (fun c => ?_)
      all_goals first | exact hr | (exfalso; omega)
    · intro hp
      simp only [apP, Bool.or_eq_true, Bool.and_eq_true, beq_iff_eq] at hp
      refine Ev.succ ?_
      simp only [spec_AreApart.l0, h1, h2, if_true, h3]
      repeat' refine Ev.ite (fun c => ?_) (fun c => ?_)
      all_goals first | exact Ev.now _ | (exfalso; omega)

theorem spec_MayDo_ev (l : List S129) (u : List S117) (p a o : Int) (h : l.length ≤ 1048576) (hu : u.length ≤ 1048576) : Ev (fun k => spec_MayDo.f k l u p a o) (!u.any (mayP l p a o)) := by
  unfold spec_MayDo.f
  rw [← idxV_any]
  refine ev_idx u (mayP l p a o) (fun i => !decide (i ≥ 0)) (fun k i => spec_MayDo.l0 k l u p a o i) ?_ ?_
  · refine Ev.succ ?_
    simp only [spec_MayDo.l0, Int.lt_irrefl, if_false]
    exact Ev.now _
  · intro i x hx
    have hi := lt_of_get hx
    have h1 : ((i : Int) < (u.length : Int)) = True := eq_true (by omega)
    have h2 : (0 ≤ (i : Int)) = True := eq_true (by omega)
    have h3 : decide ((i : Int) ≥ 0) = true := decide_eq_true (by omega)
    refine ⟨fun hp r hr => ?_, fun hp => ?_⟩
    · refine Ev.succ ?_
      simp only [spec_MayDo.l0, h1, h2, if_true, rd_at_T117 hx, wr1 hi (by omega)]
      refine Ev.ite (fun c1 => Ev.ite (fun c2 => ?_) (fun _ => hr)) (fun _ => hr)
      have hq : apartB l x.f1 a o = false := by
        simp only [mayP, c1, c2, beq_self_eq_true, Bool.true_and] at hp
        exact hp
      refine Ev.bind (spec_AreApart_ev l x.f1 a o h) ?_
      simp only [hq, Bool.false_eq_true, if_false]
      exact hr
    · simp only [mayP, Bool.and_eq_true, beq_iff_eq] at hp
      refine Ev.succ ?_
      simp only [spec_MayDo.l0, h1, h2, if_true, rd_at_T117 hx, if_pos hp.1, if_pos hp.2.1, h3]
      refine Ev.bind (spec_AreApart_ev l x.f1 a o h) ?_
      simp only [hp.2.2, if_true]
      exact Ev.now _

theorem spec_AddUse_ev (l : List S129) (u : List S117) (x : S117) (h : l.length ≤ 1048576) (hu : u.length ≤ 1048576) : Ev (fun k => spec_AddUse.f k l u x.f0 x.f1 x.f2 x.f3) (addV l u x) := by
  unfold spec_AddUse.f addV useB
  simp only [Option.bind_some, List.nil_append, List.length_nil, Nat.zero_add, if_pos (show u.length < 4398046511104 by omega), spec_IsUse_eq]
  generalize (kindB x.f0 1 && (kindB x.f2 4 && (inB x.f1 0 5 && timeB x.f3))) = ub
  cases ub with
  | false => exact Ev.now _
  | true =>
    simp only [if_true]
    refine Ev.bind (spec_MayDo_ev l u x.f0 x.f1 x.f2 h hu) ?_
    cases u.any (mayP l x.f0 x.f1 x.f2) with
    | true => exact Ev.now _
    | false =>
      simp only [Bool.not_false, if_true]
      by_cases c : (u.length : Int) ≥ 40
      · simp only [if_pos c]; exact Ev.now _
      · simp only [if_neg c]; exact Ev.now _

theorem spec_l31Use_ok (s : List Int) (i h : Int) (h0 : 0 ≤ i) (h1 : i ≤ s.length) (hs : s.length ≤ 1048576) : ∃ p a o t j h', spec_l31Use.f s i h = some (p, a, o, t, j, h') ∧ 0 ≤ j ∧ j ≤ s.length := by
  obtain ⟨p, i1, g1, e1, i10, i11⟩ := spec_l5Name_ok s i h h0 h1 hs 1
  obtain ⟨a, i2, g2, e2, _, _, i20, i21⟩ := spec_l1Below_ok s i1 g1 i10 i11 hs 3 (by omega) (by omega)
  obtain ⟨o, i3, g3, e3, i30, i31⟩ := spec_l5Name_ok s i2 g2 i20 i21 hs 4
  obtain ⟨t, i4, g4, e4, _, _, i40, i41⟩ := spec_l1Below_ok s i3 g3 i30 i31 hs 30 (by omega) (by omega)
  refine ⟨p, a, o, t, i4, g4, ?_, i40, i41⟩
  unfold spec_l31Use.f
  simp only [e1, e2, e3, e4, Option.bind_some]

theorem spec_l31Uses_ev (s : List Int) (i h : Int) (h0 : 0 ≤ i) (h1 : i ≤ s.length) (hs : s.length ≤ 1048576) (l : List S129) (hl : l.length ≤ 1048576) : ∃ v j g, Ev (fun k => spec_l31Uses.f k s i h l) (v, j, g) ∧ v.length ≤ 10 ∧ 0 ≤ j ∧ j ≤ s.length := by
  have key : ∀ (m : Nat) (v : List S117) (i h : Int), 0 ≤ i → i ≤ s.length → v.length + m ≤ 10 → ∃ v' j g, Ev (fun k => spec_l31Uses.l0 k l v (m : Int) s i h) (v', j, g) ∧ v'.length ≤ 10 ∧ 0 ≤ j ∧ j ≤ s.length := by
    intro m
    induction m with
    | zero =>
      intro v i h i0 i1 hv
      refine ⟨v, i, h, Ev.succ ?_, by omega, i0, i1⟩
      have hz : (((0 : Nat) : Int) > 0) = False := eq_false (by omega)
      simp only [spec_l31Uses.l0, hz, if_false]
      exact Ev.now _
    | succ m ih =>
      intro v i h i0 i1 hv
      obtain ⟨p, a, o, t, i2, g2, e2, i20, i21⟩ := spec_l31Use_ok s i h i0 i1 hs
      have hA := addV_length l v ⟨p, a, o, t⟩
      obtain ⟨v', j, g, hE, hv', j0, j1⟩ := ih (addV l v ⟨p, a, o, t⟩).1 i2 g2 i20 i21 (by omega)
      refine ⟨v', j, g, Ev.succ ?_, hv', j0, j1⟩
      have hp : (((m + 1 : Nat) : Int) > 0) = True := eq_true (by omega)
      have hw : wrap64 (((m + 1 : Nat) : Int) - 1) = (m : Int) := by rw [wr (by omega) (by omega)]; omega
      simp only [spec_l31Uses.l0, hp, if_true, e2, Option.bind_some, hw]
      exact Ev.bind (spec_AddUse_ev l v ⟨p, a, o, t⟩ hl (by omega)) hE
  obtain ⟨n, i1, g1, e1, n0, n1, i10, i11⟩ := spec_l1Below_ok s i h h0 h1 hs 7 (by omega) (by omega)
  obtain ⟨m, rfl⟩ : ∃ m : Nat, n = (m : Int) := ⟨n.toNat, by omega⟩
  obtain ⟨v, j, g, hE, hv, j0, j1⟩ := key m [] i1 g1 i10 i11 (by simp; omega)
  refine ⟨v, j, g, ?_, hv, j0, j1⟩
  unfold spec_l31Uses.f
  simp only [e1, Option.bind_some]
  exact hE

theorem spec_l1Once_ok (s : List Int) (i h : Int) (h0 : 0 ≤ i) (h1 : i ≤ s.length) (hs : s.length ≤ 1048576) (n : Int) (n0 : 0 < n) (n1 : n ≤ 256) : ∃ x j h', spec_l1Once.f s i h n = some (x, j, h') ∧ 0 ≤ j ∧ j ≤ s.length := by
  obtain ⟨x, j, g, e, _, _, j0, j1⟩ := spec_l1Below_ok s i h h0 h1 hs n n0 n1
  unfold spec_l1Once.f
  rw [e, Option.bind_some]
  exact ⟨_, _, _, rfl, j0, j1⟩

theorem spec_l1Int_ok (s : List Int) (i h : Int) (h0 : 0 ≤ i) (h1 : i ≤ s.length) (hs : s.length ≤ 1048576) (l : List Int) (n0 : 0 < l.length) (n1 : l.length ≤ 256) : ∃ x j h', spec_l1Int.f s i h l = some (x, j, h') ∧ 0 ≤ j ∧ j ≤ s.length := by
  obtain ⟨x, j, h', e, x0, x1, j0, j1⟩ := spec_l1Below_ok s i h h0 h1 hs (l.length : Int) (by omega) (by omega)
  unfold spec_l1Int.f
  rw [e, Option.bind_some, if_pos x0, if_pos x1]
  exact ⟨_, _, _, rfl, j0, j1⟩

theorem spec_l5Any_ok (s : List Int) (i h : Int) (h0 : 0 ≤ i) (h1 : i ≤ s.length) (hs : s.length ≤ 1048576) : ∃ x j h', spec_l5Any.f s i h = some (x, j, h') ∧ 0 ≤ j ∧ j ≤ s.length := by
  obtain ⟨b, i1, g1, e1, i10, i11⟩ := spec_l1Once_ok s i h h0 h1 hs 6 (by omega) (by omega)
  obtain ⟨x, i2, g2, e2, i20, i21⟩ := spec_l1Int_ok s i1 g1 i10 i11 hs [(-1), 9, 10, 49, 50, 19] (by simp) (by simp)
  obtain ⟨c, i3, g3, e3, _, _, i30, i31⟩ := spec_l1Below_ok s i1 g1 i10 i11 hs 4 (by omega) (by omega)
  obtain ⟨y, i4, g4, e4, i40, i41⟩ := spec_l5Name_ok s i3 g3 i30 i31 hs (wrap64 (1 + c))
  unfold spec_l5Any.f
  simp only [e1, Option.bind_some]
  cases b with
  | true => exact ⟨x, i2, g2, by simp only [if_true, e2, Option.bind_some], i20, i21⟩
  | false => exact ⟨y, i4, g4, by simp only [Bool.false_eq_true, if_false, e3, e4, Option.bind_some], i40, i41⟩

theorem spec_l4Time_ok (s : List Int) (i h : Int) (h0 : 0 ≤ i) (h1 : i ≤ s.length) (hs : s.length ≤ 1048576) : ∃ x j h', spec_l4Time.f s i h = some (x, j, h') ∧ 0 ≤ j ∧ j ≤ s.length := by
  obtain ⟨b, i1, g1, e1, i10, i11⟩ := spec_l1Once_ok s i h h0 h1 hs 8 (by omega) (by omega)
  obtain ⟨x, i2, g2, e2, i20, i21⟩ := spec_l1Int_ok s i1 g1 i10 i11 hs [(-1), 0, 10000, 10001, 9223372036854775807, (-9223372036854775808)] (by simp) (by simp)
  obtain ⟨c, i3, g3, e3, _, _, i30, i31⟩ := spec_l1Below_ok s i1 g1 i10 i11 hs 40 (by omega) (by omega)
  unfold spec_l4Time.f
  simp only [e1, Option.bind_some]
  cases b with
  | true => exact ⟨x, i2, g2, by simp only [if_true, e2, Option.bind_some], i20, i21⟩
  | false => exact ⟨c, i3, g3, by simp only [Bool.false_eq_true, if_false, e3, Option.bind_some], i30, i31⟩

theorem spec_DrawIsUse_ev (l : List Int) (h : l.length ≤ 1048576) : ∃ p a o t, Ev (fun k => spec_DrawIsUse.f k l) (p, a, o, t) := by
  obtain ⟨x, hx⟩ := spec_l1New_ev l h
  obtain ⟨p, a, o, t, i1, g1, e1, i10, i11⟩ := spec_l31Use_ok l 0 x (by omega) (by omega) h
  obtain ⟨b, i2, g2, e2, _, _, i20, i21⟩ := spec_l1Below_ok l i1 g1 i10 i11 h 6 (by omega) (by omega)
  obtain ⟨y, i3, g3, e3, _, _⟩ := spec_l5Any_ok l i2 g2 i20 i21 h
  obtain ⟨z, i4, g4, e4, _, _⟩ := spec_l1Int_ok l i2 g2 i20 i21 h [(-1), 5, 6] (by simp) (by simp)
  obtain ⟨u, i5, g5, e5, _, _⟩ := spec_l4Time_ok l i2 g2 i20 i21 h
  unfold spec_DrawIsUse.f
  by_cases c0 : b = 0
  · exact ⟨y, a, o, t, Ev.bind hx (by simp only [e1, e2, e3, Option.bind_some, if_pos c0]; exact Ev.now _)⟩
  by_cases c1 : b = 1
  · exact ⟨p, a, y, t, Ev.bind hx (by simp only [e1, e2, e3, Option.bind_some, if_neg c0, if_pos c1]; exact Ev.now _)⟩
  by_cases c2 : b = 2
  · exact ⟨p, z, o, t, Ev.bind hx (by simp only [e1, e2, e4, Option.bind_some, if_neg c0, if_neg c1, if_pos c2]; exact Ev.now _)⟩
  by_cases c3 : b = 3
  · exact ⟨p, a, o, u, Ev.bind hx (by simp only [e1, e2, e5, Option.bind_some, if_neg c0, if_neg c1, if_neg c2, if_pos c3]; exact Ev.now _)⟩
  · exact ⟨p, a, o, t, Ev.bind hx (by simp only [e1, e2, Option.bind_some, if_neg c0, if_neg c1, if_neg c2, if_neg c3]; exact Ev.now _)⟩

theorem spec_DrawAddUse_ev (s : List Int) (h : s.length ≤ 1048576) : ∃ l v p a o t, Ev (fun k => spec_DrawAddUse.f k s) (l, v, p, a, o, t) ∧ l.length ≤ 1048576 ∧ v.length ≤ 1048576 := by
  obtain ⟨x, hx⟩ := spec_l1New_ev s h
  obtain ⟨l, i1, g1, hl, l1, i10, i11⟩ := spec_l31Apart_ev s 0 x (by omega) (by omega) h
  obtain ⟨v, i2, g2, hv, v1, i20, i21⟩ := spec_l31Uses_ev s i1 g1 i10 i11 h l (by omega)
  obtain ⟨b, i3, g3, e3, _, _⟩ := spec_l1Once_ok s i2 g2 i20 i21 h 10 (by omega) (by omega)
  obtain ⟨p, a, o, t, hd⟩ := spec_DrawIsUse_ev s h
  have key : ∀ (d : Nat) (v : List S117), 40 - v.length = d → v.length ≤ 40 → ∃ v', Ev (fun k => spec_DrawAddUse.l0 k s l v) (l, v', p, a, o, t) ∧ v'.length ≤ 1048576 := by
    intro d
    induction d with
    | zero =>
      intro v hd' hv'
      refine ⟨v, Ev.succ ?_, by omega⟩
      have hz : ((v.length : Int) < 40) = False := eq_false (by omega)
      simp only [spec_DrawAddUse.l0, hz, if_false]
      exact Ev.bind hd (Ev.now _)
    | succ d ih =>
      intro v hd' hv'
      obtain ⟨v', hE, hv''⟩ := ih (v ++ [⟨15, 0, 45, 0⟩]) (by rw [List.length_append, List.length_singleton]; omega) (by rw [List.length_append, List.length_singleton]; omega)
      refine ⟨v', Ev.succ ?_, hv''⟩
      have hp : ((v.length : Int) < 40) = True := eq_true (by omega)
      simp only [spec_DrawAddUse.l0, hp, if_true, if_pos (show v.length < 4398046511104 by omega)]
      exact hE
  unfold spec_DrawAddUse.f
  cases b with
  | true =>
    obtain ⟨v', hE, hv'⟩ := key _ v rfl (by omega)
    refine ⟨l, v', p, a, o, t, ?_, by omega, hv'⟩
    refine Ev.bind hx ?_
    refine Ev.bind hl ?_
    refine Ev.bind hv ?_
    simp only [e3, Option.bind_some, if_true]
    exact hE
  | false =>
    refine ⟨l, v, p, a, o, t, ?_, by omega, by omega⟩
    refine Ev.bind hx ?_
    refine Ev.bind hl ?_
    refine Ev.bind hv ?_
    simp only [e3, Option.bind_some, Bool.false_eq_true, if_false]
    exact Ev.bind hd (Ev.now _)

def sepB (l : List S129) (u : List S117) : Bool := allN u.length (fun i => !(u.take i).any (mayP l (rd_T117 u (i : Int)).f0 (rd_T117 u (i : Int)).f1 (rd_T117 u (i : Int)).f2))
theorem apartB_comm (l : List S129) (a b o : Int) : apartB l a b o = apartB l b a o := by unfold apartB; rw [Bool.or_comm]
theorem take_any (l : List S129) (u : List S117) (p a o : Int) (i : Nat) (hi : i ≤ u.length) : (u.take i).any (mayP l p a o) = anyN i (fun k => mayP l p a o (rd_T117 u (k : Int))) := by
  rw [← anyN_take u z117 (mayP l p a o) i hi]
  simp [rd_T117]
theorem impl_IsSeparate_ev (l : List S129) (u : List S117) (h : l.length ≤ 1048576) (hu : u.length ≤ 1048576) : Ev (fun k => impl_IsSeparate.f k l u) (sepB l u) := by
  unfold impl_IsSeparate.f sepB
  rw [← Bool.and_true (allN _ _)]
  refine ev_all u.length _ true (fun k i => impl_IsSeparate.l0 k l u u (u.length : Int) i) ?_ ?_
  · refine Ev.succ ?_
    simp only [impl_IsSeparate.l0, Int.lt_irrefl, if_false]
    exact Ev.now _
  · intro i hi
    have h1 : ((i : Int) < (u.length : Int)) = True := eq_true (by omega)
    have h2 : (0 ≤ (i : Int)) = True := eq_true (by omega)
    have h3 := wr1 hi (show u.length ≤ 9223372036854775807 by omega)
    have h4 : ((i : Int) ≤ (u.length : Int)) = True := eq_true (by omega)
    constructor
    · intro hp r hr
      refine Ev.succ ?_
      simp only [impl_IsSeparate.l0, h1, h2, h4, if_true, h3, Int.toNat_natCast]
      refine Ev.bind (impl_MayDo_ev l (u.take i) _ _ _ h) ?_
      simp only [hp, if_true]
      exact hr
    · intro hp
      refine Ev.succ ?_
      simp only [impl_IsSeparate.l0, h1, h2, h4, if_true, h3, Int.toNat_natCast]
      refine Ev.bind (impl_MayDo_ev l (u.take i) _ _ _ h) ?_
      simp only [hp, Bool.false_eq_true, if_false]
      exact Ev.now _

theorem spec_DrawMergeUses_ev (s : List Int) (h : s.length ≤ 1048576) : ∃ l a b, Ev (fun k => spec_DrawMergeUses.f k s) (l, a, b) ∧ l.length ≤ 1048576 ∧ a.length ≤ 1048576 ∧ b.length ≤ 1048576 := by
  obtain ⟨x, hx⟩ := spec_l1New_ev s h
  obtain ⟨l, i1, g1, hl, l1, i10, i11⟩ := spec_l31Apart_ev s 0 x (by omega) (by omega) h
  obtain ⟨a, i2, g2, ha, a1, i20, i21⟩ := spec_l31Uses_ev s i1 g1 i10 i11 h l (by omega)
  obtain ⟨b, i3, g3, hb, b1, i30, i31⟩ := spec_l31Uses_ev s i2 g2 i20 i21 h l (by omega)
  refine ⟨l, a, b, ?_, by omega, by omega, by omega⟩
  unfold spec_DrawMergeUses.f
  refine Ev.bind hx ?_
  refine Ev.bind hl ?_
  refine Ev.bind ha ?_
  refine Ev.bind hb ?_
  exact Ev.now _

theorem addV_ok (l : List S129) (u : List S117) (x : S117) (h : (addV l u x).2 = true) : (addV l u x).1 = u ++ [x] ∧ useB x = true := by
  revert h
  unfold addV
  split
  · split
    · split
      · intro h; cases h
      · rename_i hb _ _; exact fun _ => ⟨rfl, hb⟩
    · intro h; cases h
  · intro h; cases h
theorem sep_add (l : List S129) (u : List S117) (x : S117) (h : sepB l u = true) : sepB l (addV l u x).1 = true := by
  unfold addV
  split
  · split
    · split
      · exact h
      · rename_i hm _
        unfold sepB at h ⊢
        rw [allN_iff] at h ⊢
        intro i hi
        rw [List.length_append, List.length_singleton] at hi
        by_cases c : i < u.length
        · have h1 := h i c
          have e1 : u[i]? = some u[i] := List.getElem?_eq_getElem c
          have e2 : (u ++ [x])[i]? = some u[i] := by rw [List.getElem?_append_left c]; exact e1
          rw [rd_at_T117 e1] at h1
          rw [rd_at_T117 e2, List.take_append_of_le_length (by omega)]
          exact h1
        · obtain rfl : i = u.length := by omega
          have e2 : (u ++ [x])[u.length]? = some x := by simp
          rw [rd_at_T117 e2, List.take_left' rfl]
          exact hm
    · exact h
  · exact h
theorem user_in (l : List S129) (u : List S117) (x : S117) (h : (addV l u x).2 = true) : x.f0 ∈ usersV (addV l u x).1 x.f1 x.f2 := by
  obtain ⟨e, hb⟩ := addV_ok l u x h
  rw [e]
  unfold usersV
  rw [mem_usersN]
  have hk : x.f0 / 10 = 1 := by
    unfold useB kindB at hb
    simp only [Bool.and_eq_true, beq_iff_eq] at hb
    exact hb.1.2
  refine ⟨by omega, by omega, ?_⟩
  unfold hasU useIs
  simp
theorem merge_len (l : List S129) : ∀ (b : List S117) (s : List S117 × List S117), (b.foldl (stepM l) s).1.length + (b.foldl (stepM l) s).2.length = s.1.length + s.2.length + b.length
  | [], s => by simp
  | x :: b, s => by
    rw [List.foldl_cons, merge_len l b]
    unfold stepM
    dsimp only
    cases c : (addV l s.1 x).2 with
    | true =>
      rw [(addV_ok l s.1 x c).1, if_pos rfl]
      simp only [List.length_append, List.length_cons, List.length_nil]; omega
    | false =>
      rw [addV_keep l s.1 x c, if_neg (by decide)]
      simp only [List.length_append, List.length_cons, List.length_nil]; omega
def barred (l : List S129) (u : List S117) (y : S117) : Prop := 40 ≤ u.length ∨ useB y = false ∨ u.any (mayP l y.f0 y.f1 y.f2) = true
theorem barred_more (l : List S129) (u : List S117) (x y : S117) (h : barred l u y) : barred l (addV l u x).1 y := by
  have key : ∀ v, barred l (u ++ v) y := by
    intro v
    rcases h with h | h | h
    · exact .inl (by rw [List.length_append]; omega)
    · exact .inr (.inl h)
    · exact .inr (.inr (by rw [List.any_append, h]; rfl))
  cases c : (addV l u x).2 with
  | true => rw [(addV_ok l u x c).1]; exact key _
  | false => rw [addV_keep l u x c]; exact h
theorem barred_new (l : List S129) (u : List S117) (x : S117) (h : (addV l u x).2 = false) : barred l u x := by
  revert h
  unfold addV barred
  split
  · split
    · split
      · intro _; exact .inl (by omega)
      · intro h; cases h
    · rename_i hm; intro _; exact .inr (.inr (by simpa using hm))
  · rename_i hb; intro _; exact .inr (.inl (by simpa using hb))
theorem merge_barred (l : List S129) : ∀ (b : List S117) (s : List S117 × List S117), (∀ y ∈ s.2, barred l s.1 y) → ∀ y ∈ (b.foldl (stepM l) s).2, barred l (b.foldl (stepM l) s).1 y
  | [], s, h => h
  | x :: b, s, h => by
    rw [List.foldl_cons]
    refine merge_barred l b _ ?_
    unfold stepM
    dsimp only
    intro y hy
    cases c : (addV l s.1 x).2 with
    | true =>
      rw [c, if_pos rfl] at hy
      exact barred_more l s.1 x y (h y hy)
    | false =>
      rw [c, if_neg (by decide)] at hy
      rcases List.mem_append.1 hy with hy | hy
      · exact barred_more l s.1 x y (h y hy)
      · obtain rfl := List.mem_singleton.1 hy
        exact barred_more l s.1 y y (barred_new l s.1 y c)
theorem duties_loop (L : List S129) (m left : List S117) (hL : L.length ≤ 1048576) (hm : m.length ≤ 1048576) (hl : left.length ≤ 1048576) (hb : ∀ y ∈ left, barred L m y) : Ev (fun k => laws_FnDuties.l0 k L m left 0) true := by
  have key : ∀ d i : Nat, left.length - i = d → i ≤ left.length → Ev (fun k => laws_FnDuties.l0 k L m left (i : Int)) true := by
    intro d
    induction d with
    | zero =>
      intro i hd hi
      obtain rfl : i = left.length := by omega
      refine Ev.succ ?_
      simp only [laws_FnDuties.l0, Int.lt_irrefl, if_false]
      refine Ev.succ ?_
      simp only [laws_FnDuties.j2, Bool.false_eq_true, if_false]
      exact Ev.now _
    | succ d ih =>
      intro i hd hi
      have hi' : i < left.length := by omega
      have hx : left[i]? = some left[i] := List.getElem?_eq_getElem hi'
      have hq := hb left[i] (List.getElem_mem hi')
      generalize left[i] = x at hx hq
      have h1 : ((i : Int) < (left.length : Int)) = True := eq_true (by omega)
      have h2 : (0 ≤ (i : Int)) = True := eq_true (by omega)
      have hn := ih (i + 1) (by omega) (by omega)
      refine Ev.succ ?_
      simp only [laws_FnDuties.l0, h1, if_true]
      by_cases c : (m.length : Int) < 40
      · simp only [c, decide_true]
        refine Ev.succ ?_
        simp only [laws_FnDuties.j2, if_true, h1, h2, rd_at_T117 hx, impl_IsUse_eq, Option.bind_some, wr1 hi' (by omega)]
        change Ev (fun k => if useB x = true then ((impl_MayDo.f k L m x.f0 x.f1 x.f2).bind fun t => if t = true then some false else laws_FnDuties.l0 k L m left ((i + 1 : Nat) : Int)) else laws_FnDuties.l0 k L m left ((i + 1 : Nat) : Int)) true
        by_cases cu : useB x = true
        · simp only [if_pos cu]
          refine Ev.bind (impl_MayDo_ev L m x.f0 x.f1 x.f2 hL) ?_
          have ha : m.any (mayP L x.f0 x.f1 x.f2) = true := by
            rcases hq with h | h | h
            · omega
            · rw [h] at cu; cases cu
            · exact h
          simp only [ha, Bool.not_true, Bool.false_eq_true, if_false]
          exact hn
        · simp only [if_neg cu]
          exact hn
      · simp only [c, decide_false]
        refine Ev.succ ?_
        simp only [laws_FnDuties.j2, Bool.false_eq_true, if_false]
        exact Ev.now _
  exact key left.length 0 (by omega) (by omega)
theorem FnDuties : laws_FnDuties.Pure := by
  intro l h1 h2
  refine Ev.rounds ?_
  unfold laws_FnDuties.f laws_big.f
  simp only [Option.bind_some, decide_eq_true_eq]
  by_cases c : (l.length : Int) > 1048576
  · simp only [if_pos c]; exact Ev.now _
  simp only [if_neg c]
  have hl : l.length ≤ 1048576 := by omega
  obtain ⟨L, U, p, a, o, t, hd, hL, hU⟩ := spec_DrawAddUse_ev l hl
  have hj0 : Ev (fun k => laws_FnDuties.j0 k l false) true := by
    obtain ⟨L, A, B, hm, hL, hA, hB⟩ := spec_DrawMergeUses_ev l hl
    refine Ev.succ ?_
    simp only [laws_FnDuties.j0, Bool.false_eq_true, if_false]
    refine Ev.bind hm ?_
    refine Ev.bind (impl_MergeUses_ev L A B hL hA hB) ?_
    have e := merge_len L B (A, [])
    have hbd := mergeV_bound L B (A, []) hA
    have hbr := merge_barred L B (A, []) (fun y hy => by simp at hy)
    change (mergeV L A B).1.length + (mergeV L A B).2.length = _ at e
    change (mergeV L A B).1.length ≤ _ ∧ (mergeV L A B).2.length ≤ _ at hbd
    change ∀ y ∈ (mergeV L A B).2, barred L (mergeV L A B).1 y at hbr
    simp only [List.length_nil] at e hbd
    refine Ev.pos (by dsimp only; congr 1; omega) ?_
    exact duties_loop L _ _ hL hbd.1 (by omega) hbr
  have hb := addV_bound L U ⟨p, a, o, t⟩ hU
  have us : Ev (fun k => if (addV L U ⟨p, a, o, t⟩).2 = true then ((impl_UsersOf.f k (addV L U ⟨p, a, o, t⟩).1 a o).bind fun t389 => ((laws_contains.f k t389 p).bind fun t392 => (laws_FnDuties.j0 k l (!t392)))) else (laws_FnDuties.j0 k l false)) true := by
    by_cases c : (addV L U ⟨p, a, o, t⟩).2 = true
    · simp only [if_pos c]
      refine Ev.bind (impl_UsersOf_ev _ a o hb) ?_
      have hn := usersN_len (hasU (addV L U ⟨p, a, o, t⟩).1 a o) 10
      refine Ev.bind (laws_contains_ev _ p (by unfold usersV; omega) (user_in L U ⟨p, a, o, t⟩ c)) ?_
      exact hj0
    · simp only [if_neg c]; exact hj0
  refine Ev.bind hd ?_
  refine Ev.bind (impl_AddUse_ev L U ⟨p, a, o, t⟩ hL hU) ?_
  refine Ev.bind (impl_IsSeparate_ev L U hL hU) ?_
  cases hs : sepB L U with
  | false => simp only [Bool.false_eq_true, if_false]; exact us
  | true =>
    simp only [if_true]
    refine Ev.bind (impl_AreApart_ev L a a o hL) ?_
    cases apartB L a a o with
    | true => simp only [if_true]; exact us
    | false =>
      simp only [Bool.false_eq_true, if_false]
      refine Ev.bind (impl_IsSeparate_ev L _ hL hb) ?_
      simp only [sep_add L U _ hs, if_true]
      exact us

end Go.Proofs.Ytplfbjbbnjlnkaa.Pure
