/- The law FnExactMergeUses answers true for all arguments, over numbers and lists alone: what each function computes, and that program and reference compute the same. No condition. -/
import Derived.Test.YtplfbjbbnjlnkaaQFnExactMergeUsesx7
import Derived.Test.YtplfbjbbnjlnkaaL
namespace Go.Proofs.Ytplfbjbbnjlnkaa.Pure
open Go.RowKit Go.Proofs.Ytplfbjbbnjlnkaa.QFnExactMergeUses Go.Proofs.YtplfbjbbnjlnkaaL Go.Proofs.YtplfbjbbnjlnkaaW.PrintWords Go.Proofs.YtplfbjbbnjlnkaaW.PrintLast
set_option linter.unusedVariables false
set_option linter.unusedSimpArgs false

def cv131 (x : S131) : S129 := ⟨x.f0, x.f1, x.f2⟩
def cv133 (x : S133) : S117 := ⟨x.f0, x.f1, x.f2, x.f3⟩
theorem rd_at_T131 {l : List S131} {i : Nat} {x : S131} (h : l[i]? = some x) : rd_T131 l (i : Int) = x := getD_nat l _ i x h
theorem rd_at_T133 {l : List S133} {i : Nat} {x : S133} (h : l[i]? = some x) : rd_T133 l (i : Int) = x := getD_nat l _ i x h
theorem rd_at_T129 {l : List S129} {i : Nat} {x : S129} (h : l[i]? = some x) : rd_T129 l (i : Int) = x := getD_nat l _ i x h
theorem rd_at_T117 {l : List S117} {i : Nat} {x : S117} (h : l[i]? = some x) : rd_T117 l (i : Int) = x := getD_nat l _ i x h

theorem laws_szApartS_le (l : List (S131)) (hl : l.length ≤ maxLen) (a : Int) (h0 : 0 ≤ a) (ha : a ≤ 1048576) : ∃ r, laws_szApartS.f l a = some r ∧ r ≤ 1048576 ∧ (0 ≤ r → r + (l.length : Nat) ≤ a) := by
  unfold laws_szApartS.f
  unfold maxLen at hl
  rw [wr (by omega) (by omega)]
  split
  · exact ⟨_, rfl, by omega, by omega⟩
  · exact ⟨_, rfl, by omega, by omega⟩

theorem laws_szUseS_le (l : List (S133)) (hl : l.length ≤ maxLen) (a : Int) (h0 : 0 ≤ a) (ha : a ≤ 1048576) : ∃ r, laws_szUseS.f l a = some r ∧ r ≤ 1048576 ∧ (0 ≤ r → r + (l.length : Nat) ≤ a) := by
  unfold laws_szUseS.f
  unfold maxLen at hl
  rw [wr (by omega) (by omega)]
  split
  · exact ⟨_, rfl, by omega, by omega⟩
  · exact ⟨_, rfl, by omega, by omega⟩

theorem spec_l1In_eq (a b c : Int) : spec_l1In.f a b c = some (inB a b c) := by
  unfold spec_l1In.f
  rw [ite_dand]; rfl

theorem spec_IsTime_eq (a : Int) : spec_IsTime.f a = some (timeB a) := by
  unfold spec_IsTime.f
  rw [spec_l1In_eq]; rfl

theorem spec_IsName_eq (a : Int) : spec_IsName.f a = some (nameB a) := by
  unfold spec_IsName.f
  rw [spec_l1In_eq]; rfl

theorem spec_HasKind_eq (a b : Int) : spec_HasKind.f a b = some (kindB a b) := by
  unfold spec_HasKind.f kindB
  rw [spec_IsName_eq, Option.bind_some]
  cases h : nameB a with
  | true => simp only [if_true, name_div h, Bool.true_and]
  | false => rfl

theorem spec_IsUse_eq (a b c d : Int) : spec_IsUse.f a b c d = some (kindB a 1 && (kindB c 4 && (inB b 0 5 && timeB d))) := by
  unfold spec_IsUse.f
  simp only [spec_HasKind_eq, spec_l1In_eq, spec_IsTime_eq, Option.bind_some, ite_and]

def apP (l : List S129) (a b o : Int) (i : Nat) : Bool := (a == (rd_T129 l (i : Int)).f0 && (b == (rd_T129 l (i : Int)).f1 && (o == (rd_T129 l (i : Int)).f2)))
def apartB (l : List S129) (a b o : Int) : Bool := anyN l.length (apP l a b o) || anyN l.length (apP l b a o)
theorem anyN_or (n : Nat) (p q : Nat → Bool) : anyN n (fun i => p i || q i) = (anyN n p || anyN n q) := by
  unfold anyN
  rw [Bool.eq_iff_iff]
  simp only [List.any_eq_true, Bool.or_eq_true]
  constructor
  · rintro ⟨i, hi, h | h⟩
    · exact .inl ⟨i, hi, h⟩
    · exact .inr ⟨i, hi, h⟩
  · rintro (⟨i, hi, h⟩ | ⟨i, hi, h⟩)
    · exact ⟨i, hi, .inl h⟩
    · exact ⟨i, hi, .inr h⟩
theorem spec_AreApart_ev (l : List S129) (a b o : Int) (h : l.length ≤ 1048576) : Ev (fun k => spec_AreApart.f k l a b o) (apartB l a b o) := by
  unfold spec_AreApart.f apartB
  rw [← anyN_or, ← findB_any]
  refine ev_find l.length _ _ _ (fun k i => spec_AreApart.l0 k l a b o i) ?_ ?_
  · refine Ev.succ ?_
    simp only [spec_AreApart.l0, Int.lt_irrefl, if_false]
    exact Ev.now _
  · intro i hi
    have h1 : ((i : Int) < (l.length : Int)) = True := eq_true (by omega)
    have h2 : (0 ≤ (i : Int)) = True := eq_true (by omega)
    have h3 := wr1 hi (show l.length ≤ 9223372036854775807 by omega)
    constructor
    · intro hp r hr
      simp only [apP, Bool.or_eq_false_iff, Bool.and_eq_false_iff, beq_eq_false_iff_ne, ne_eq] at hp
      refine Ev.succ ?_
      simp only [spec_AreApart.l0, h1, h2, if_true, h3]
      repeat' refine Ev.ite (fun c => ?_) (fun c => ?_)
      all_goals first | exact hr | (exfalso; omega)
    · intro hp
      simp only [apP, Bool.or_eq_true, Bool.and_eq_true, beq_iff_eq] at hp
      refine Ev.succ ?_
      simp only [spec_AreApart.l0, h1, h2, if_true, h3]
      repeat' refine Ev.ite (fun c => ?_) (fun c => ?_)
      all_goals first | exact Ev.now _ | (exfalso; omega)

def mayP (l : List S129) (p a o : Int) (x : S117) : Bool := x.f0 == p && (x.f2 == o && apartB l x.f1 a o)
theorem spec_MayDo_ev (l : List S129) (u : List S117) (p a o : Int) (h : l.length ≤ 1048576) (hu : u.length ≤ 1048576) : Ev (fun k => spec_MayDo.f k l u p a o) (!u.any (mayP l p a o)) := by
  unfold spec_MayDo.f
  rw [← idxV_any]
  refine ev_idx u (mayP l p a o) (fun i => !decide (i ≥ 0)) (fun k i => spec_MayDo.l0 k l u p a o i) ?_ ?_
  · refine Ev.succ ?_
    simp only [spec_MayDo.l0, Int.lt_irrefl, if_false]
    exact Ev.now _
  · intro i x hx
    have hi := lt_of_get hx
    have h1 : ((i : Int) < (u.length : Int)) = True := eq_true (by omega)
    have h2 : (0 ≤ (i : Int)) = True := eq_true (by omega)
    have h3 : decide ((i : Int) ≥ 0) = true := decide_eq_true (by omega)
    refine ⟨fun hp r hr => ?_, fun hp => ?_⟩
    · refine Ev.succ ?_
      simp only [spec_MayDo.l0, h1, h2, if_true, rd_at_T117 hx, wr1 hi (by omega)]
      refine Ev.ite (fun c1 => Ev.ite (fun c2 => ?_) (fun _ => hr)) (fun _ => hr)
      have hq : apartB l x.f1 a o = false := by
        simp only [mayP, c1, c2, beq_self_eq_true, Bool.true_and] at hp
        exact hp
      refine Ev.bind (spec_AreApart_ev l x.f1 a o h) ?_
      simp only [hq, Bool.false_eq_true, if_false]
      exact hr
    · simp only [mayP, Bool.and_eq_true, beq_iff_eq] at hp
      refine Ev.succ ?_
      simp only [spec_MayDo.l0, h1, h2, if_true, rd_at_T117 hx, if_pos hp.1, if_pos hp.2.1, h3]
      refine Ev.bind (spec_AreApart_ev l x.f1 a o h) ?_
      simp only [hp.2.2, if_true]
      exact Ev.now _

def useB (x : S117) : Bool := kindB x.f0 1 && (kindB x.f2 4 && (inB x.f1 0 5 && timeB x.f3))
def addV (l : List S129) (u : List S117) (x : S117) : List S117 × Bool :=
  if useB x = true then (if (!u.any (mayP l x.f0 x.f1 x.f2)) = true then (if (u.length : Int) ≥ 40 then (u, false) else (u ++ [x], true)) else (u, false)) else (u, false)
theorem addV_length (l : List S129) (u : List S117) (x : S117) : (addV l u x).1.length ≤ u.length + 1 := by
  unfold addV
  repeat' split
  all_goals simp
theorem spec_AddUse_ev (l : List S129) (u : List S117) (x : S117) (h : l.length ≤ 1048576) (hu : u.length ≤ 1048576) : Ev (fun k => spec_AddUse.f k l u x.f0 x.f1 x.f2 x.f3) (addV l u x) := by
  unfold spec_AddUse.f addV useB
  simp only [Option.bind_some, List.nil_append, List.length_nil, Nat.zero_add, if_pos (show u.length < 4398046511104 by omega), spec_IsUse_eq]
  generalize (kindB x.f0 1 && (kindB x.f2 4 && (inB x.f1 0 5 && timeB x.f3))) = ub
  cases ub with
  | false => exact Ev.now _
  | true =>
    simp only [if_true]
    refine Ev.bind (spec_MayDo_ev l u x.f0 x.f1 x.f2 h hu) ?_
    cases u.any (mayP l x.f0 x.f1 x.f2) with
    | true => exact Ev.now _
    | false =>
      simp only [Bool.not_false, if_true]
      by_cases c : (u.length : Int) ≥ 40
      · simp only [if_pos c]; exact Ev.now _
      · simp only [if_neg c]; exact Ev.now _

def stepM (l : List S129) (s : List S117 × List S117) (x : S117) : List S117 × List S117 :=
  ((addV l s.1 x).1, if (addV l s.1 x).2 = true then s.2 else s.2 ++ [x])
def mergeV (l : List S129) (a b : List S117) : List S117 × List S117 := b.foldl (stepM l) (a, [])
theorem addV_bound (l : List S129) (u : List S117) (x : S117) (h : u.length ≤ 1048576) : (addV l u x).1.length ≤ 1048576 := by
  unfold addV
  repeat' split
  all_goals (try simp only [List.length_append, List.length_singleton])
  all_goals omega
theorem addV_keep (l : List S129) (u : List S117) (x : S117) (h : (addV l u x).2 = false) : (addV l u x).1 = u := by
  revert h
  unfold addV
  repeat' split
  all_goals simp
theorem mergeV_bound (l : List S129) (b : List S117) : ∀ s : List S117 × List S117, s.1.length ≤ 1048576 → (b.foldl (stepM l) s).1.length ≤ 1048576 ∧ (b.foldl (stepM l) s).2.length ≤ s.2.length + b.length := by
  induction b with
  | nil => intro s h; exact ⟨h, by simp⟩
  | cons x b ih =>
    intro s h
    have h2 : (stepM l s x).2.length ≤ s.2.length + 1 := by unfold stepM; dsimp only; split <;> simp
    have := ih (stepM l s x) (addV_bound l s.1 x h)
    simp only [List.foldl_cons, List.length_cons]
    exact ⟨this.1, by omega⟩
theorem spec_MergeUses_ev (l : List S129) (a b : List S117) (h : l.length ≤ 1048576) (ha : a.length ≤ 1048576) (hb : b.length ≤ 1048576) : Ev (fun k => spec_MergeUses.f k l a b) (mergeV l a b) := by
  unfold spec_MergeUses.f mergeV
  simp only [Option.bind_some, List.nil_append, List.length_nil, Nat.zero_add, if_pos (show a.length < 4398046511104 by omega)]
  refine ev_fold b (stepM l) id (fun i s => s.1.length ≤ 1048576 ∧ s.2.length ≤ i) (fun k s i => spec_MergeUses.l0 k l b s.1 s.2 i) ?_ ?_ ?_ (a, []) ⟨ha, by simp⟩
  · intro s _
    refine Ev.succ ?_
    simp only [spec_MergeUses.l0, Int.lt_irrefl, if_false]
    exact Ev.now _
  · intro i x s hx hs
    refine ⟨addV_bound l s.1 x hs.1, ?_⟩
    have hs2 := hs.2
    unfold stepM; dsimp only; split
    · omega
    · rw [List.length_append, List.length_singleton]; omega
  · intro i x s r hx hs hr
    have hi := lt_of_get hx
    have h1 : ((i : Int) < (b.length : Int)) = True := eq_true (by omega)
    have h2 : (0 ≤ (i : Int)) = True := eq_true (by omega)
    have h3 : (s.2.length < 4398046511104) = True := eq_true (by omega)
    refine Ev.succ ?_
    simp only [spec_MergeUses.l0, h1, h2, h3, if_true, rd_at_T117 hx, wr1 hi (by omega)]
    refine Ev.bind (spec_AddUse_ev l s.1 x h hs.1) ?_
    unfold stepM at hr
    dsimp only at hr
    cases c : (addV l s.1 x).2 with
    | true => simp only [c, if_true] at hr ⊢; exact hr
    | false =>
      simp only [c, Bool.false_eq_true, if_false] at hr ⊢
      rw [addV_keep l s.1 x c] at hr
      exact hr

theorem laws_toApart_eq (x : S131) : laws_toApart.f x.f0 x.f1 x.f2 = some ((cv131 x).f0, (cv131 x).f1, (cv131 x).f2) := by
  unfold laws_toApart.f
  first | rfl | (simp only [Option.bind_some]; rfl)

theorem laws_toApartS_ev (l : List (S131)) (h : l.length ≤ 1048576) : Ev (fun k => laws_toApartS.f k l) (l.map cv131) := by
  unfold laws_toApartS.f
  refine Ev.pos (by omega) (Ev.pos (by omega) ?_)
  refine ev_fill l cv131 (fun k out i => laws_toApartS.l0 k l out i) ?_ ?_ _ (by simp)
  · intro out ho
    refine Ev.succ ?_
    simp only [laws_toApartS.l0, Int.lt_irrefl, if_false]
    exact Ev.now _
  · intro i x out r hx ho hr
    have hi := lt_of_get hx
    have h1 : ((i : Int) < (l.length : Int)) = True := eq_true (by omega)
    have h2 : (0 ≤ (i : Int)) = True := eq_true (by omega)
    have h3 : ((i : Int) < (out.length : Int)) = True := eq_true (by omega)
    refine Ev.succ ?_
    simp only [laws_toApartS.l0, h1, h2, h3, if_true, rd_at_T131 hx, wr1 hi (by omega), Int.toNat_natCast, laws_toApart_eq x, Option.bind_some]
    exact hr

theorem laws_toUse_eq (x : S133) : laws_toUse.f x.f0 x.f1 x.f2 x.f3 = some ((cv133 x).f0, (cv133 x).f1, (cv133 x).f2, (cv133 x).f3) := by
  unfold laws_toUse.f
  first | rfl | (simp only [Option.bind_some]; rfl)

theorem laws_toUseS_ev (l : List (S133)) (h : l.length ≤ 1048576) : Ev (fun k => laws_toUseS.f k l) (l.map cv133) := by
  unfold laws_toUseS.f
  refine Ev.pos (by omega) (Ev.pos (by omega) ?_)
  refine ev_fill l cv133 (fun k out i => laws_toUseS.l0 k l out i) ?_ ?_ _ (by simp)
  · intro out ho
    refine Ev.succ ?_
    simp only [laws_toUseS.l0, Int.lt_irrefl, if_false]
    exact Ev.now _
  · intro i x out r hx ho hr
    have hi := lt_of_get hx
    have h1 : ((i : Int) < (l.length : Int)) = True := eq_true (by omega)
    have h2 : (0 ≤ (i : Int)) = True := eq_true (by omega)
    have h3 : ((i : Int) < (out.length : Int)) = True := eq_true (by omega)
    refine Ev.succ ?_
    simp only [laws_toUseS.l0, h1, h2, h3, if_true, rd_at_T133 hx, wr1 hi (by omega), Int.toNat_natCast, laws_toUse_eq x, Option.bind_some]
    exact hr

theorem impl_InRange_eq (a b c : Int) : impl_InRange.f a b c = some (inB a b c) := by
  unfold impl_InRange.f
  rw [ite_dand]; rfl

theorem impl_IsName_eq (a : Int) : impl_IsName.f a = some (nameB a) := by
  unfold impl_IsName.f
  rw [impl_InRange_eq]; rfl

theorem impl_KindOf_eq (a : Int) : impl_KindOf.f a = some (if nameB a = true then a / 10 else 0) := by
  unfold impl_KindOf.f
  rw [impl_IsName_eq, Option.bind_some]
  cases h : nameB a with
  | true => simp only [if_true, name_div h]
  | false => rfl

theorem impl_HasKind_eq (a b : Int) : impl_HasKind.f a b = some (kindB a b) := by
  unfold impl_HasKind.f kindB
  rw [impl_IsName_eq, impl_KindOf_eq, Option.bind_some]
  cases h : nameB a with
  | true => simp only [if_true, Option.bind_some, Bool.true_and]
  | false => rfl

theorem impl_IsTime_eq (a : Int) : impl_IsTime.f a = some (timeB a) := by
  unfold impl_IsTime.f
  rw [impl_InRange_eq]; rfl

theorem impl_IsUse_eq (a b c d : Int) : impl_IsUse.f a b c d = some (kindB a 1 && (kindB c 4 && (inB b 0 5 && timeB d))) := by
  unfold impl_IsUse.f
  simp only [impl_HasKind_eq, impl_InRange_eq, impl_IsTime_eq, Option.bind_some, ite_and]

theorem slicesIndex_Apart_ev (l : List S129) (a b o : Int) (h : l.length ≤ 1048576) : Ev (fun k => impl_Apart_184.f k l a b o) (findB l.length (apP l a b o) (fun i => (i : Int)) (-1)) := by
  unfold impl_Apart_184.f
  refine ev_find l.length (apP l a b o) _ _ (fun k i => impl_Apart_184.l0 k l (l.length : Int) i a b o) ?_ ?_
  · refine Ev.succ ?_
    simp only [impl_Apart_184.l0, Int.lt_irrefl, if_false]
    exact Ev.now _
  · intro i hi
    have h1 : ((i : Int) < (l.length : Int)) = True := eq_true (by omega)
    have h2 : (0 ≤ (i : Int)) = True := eq_true (by omega)
    have h3 := wr1 hi (show l.length ≤ 9223372036854775807 by omega)
    constructor
    · intro hp r hr
      unfold apP at hp
      refine Ev.succ ?_
      simp only [impl_Apart_184.l0, h1, h2, if_true, h3, hp, Bool.false_eq_true, if_false]
      exact hr
    · intro hp
      unfold apP at hp
      refine Ev.succ ?_
      simp only [impl_Apart_184.l0, h1, h2, if_true, h3, hp]
      exact Ev.now _

theorem slicesContains_Apart_ev (l : List S129) (a b o : Int) (h : l.length ≤ 1048576) : Ev (fun k => impl_Apart_148.f k l a b o) (anyN l.length (apP l a b o)) := by
  unfold impl_Apart_148.f
  rw [← findB_ge]
  exact Ev.bind (slicesIndex_Apart_ev l a b o h) (Ev.now _)

theorem impl_AreApart_ev (l : List S129) (a b o : Int) (h : l.length ≤ 1048576) : Ev (fun k => impl_AreApart.f k l a b o) (apartB l a b o) := by
  unfold impl_AreApart.f apartB
  refine Ev.bind (slicesContains_Apart_ev l a b o h) ?_
  cases anyN l.length (apP l a b o) with
  | true => exact Ev.now _
  | false =>
    simp only [Bool.false_eq_true, if_false, Bool.false_or]
    exact Ev.bind (slicesContains_Apart_ev l b a o h) (Ev.now _)

theorem impl_MayDo_ev (l : List S129) (u : List S117) (p a o : Int) (h : l.length ≤ 1048576) : Ev (fun k => impl_MayDo.f k l u p a o) (!u.any (mayP l p a o)) := by
  unfold impl_MayDo.f
  rw [← idxV_any]
  refine Ev.bind (ev_idxO (fun k => cl151.p k l p a o) (mayP l p a o) u 0 (fun x _ => ?_)) (Ev.now _)
  unfold cl151.p mayP
  by_cases c1 : x.f0 = p
  · by_cases c2 : x.f2 = o
    · simp only [if_pos c1, if_pos c2, c1, c2, beq_self_eq_true, Bool.true_and]
      exact impl_AreApart_ev l x.f1 a o h
    · simp only [if_pos c1, if_neg c2, c1, beq_self_eq_true, Bool.true_and, beq_eq_false_iff_ne.mpr c2, Bool.false_and]
      exact Ev.now _
  · simp only [if_neg c1, beq_eq_false_iff_ne.mpr c1, Bool.false_and]
    exact Ev.now _

theorem impl_AddUse_ev (l : List S129) (u : List S117) (x : S117) (h : l.length ≤ 1048576) (hu : u.length ≤ 1048576) : Ev (fun k => impl_AddUse.f k l u x.f0 x.f1 x.f2 x.f3) (addV l u x) := by
  unfold impl_AddUse.f addV useB
  simp only [Option.bind_some, List.nil_append, List.length_nil, Nat.zero_add, if_pos (show u.length < 4398046511104 by omega), impl_IsUse_eq]
  generalize (kindB x.f0 1 && (kindB x.f2 4 && (inB x.f1 0 5 && timeB x.f3))) = ub
  cases ub with
  | false => exact Ev.now _
  | true =>
    simp only [if_true]
    refine Ev.bind (impl_MayDo_ev l u x.f0 x.f1 x.f2 h) ?_
    cases u.any (mayP l x.f0 x.f1 x.f2) with
    | true => exact Ev.now _
    | false =>
      simp only [Bool.not_false, if_true]
      by_cases c : (u.length : Int) ≥ 40
      · simp only [if_pos c]; exact Ev.now _
      · simp only [if_neg c]; exact Ev.now _

theorem impl_MergeUses_ev (l : List S129) (a b : List S117) (h : l.length ≤ 1048576) (ha : a.length ≤ 1048576) (hb : b.length ≤ 1048576) : Ev (fun k => impl_MergeUses.f k l a b) (mergeV l a b) := by
  unfold impl_MergeUses.f mergeV
  simp only [Option.bind_some, List.nil_append, List.length_nil, Nat.zero_add, if_pos (show a.length < 4398046511104 by omega)]
  refine ev_fold b (stepM l) id (fun i s => s.1.length ≤ 1048576 ∧ s.2.length ≤ i) (fun k s i => impl_MergeUses.l0 k l s.1 s.2 b (b.length : Int) i) ?_ ?_ ?_ (a, []) ⟨ha, by simp⟩
  · intro s _
    refine Ev.succ ?_
    simp only [impl_MergeUses.l0, Int.lt_irrefl, if_false]
    exact Ev.now _
  · intro i x s hx hs
    refine ⟨addV_bound l s.1 x hs.1, ?_⟩
    have hs2 := hs.2
    unfold stepM; dsimp only; split
    · omega
    · rw [List.length_append, List.length_singleton]; omega
  · intro i x s r hx hs hr
    have hi := lt_of_get hx
    have h1 : ((i : Int) < (b.length : Int)) = True := eq_true (by omega)
    have h2 : (0 ≤ (i : Int)) = True := eq_true (by omega)
    have h3 : (s.2.length < 4398046511104) = True := eq_true (by omega)
    refine Ev.succ ?_
    simp only [impl_MergeUses.l0, h1, h2, h3, if_true, rd_at_T117 hx, wr1 hi (by omega)]
    refine Ev.bind (impl_AddUse_ev l s.1 x h hs.1) ?_
    unfold stepM at hr
    dsimp only at hr
    cases c : (addV l s.1 x).2 with
    | true => simp only [c, if_true] at hr ⊢; exact hr
    | false => simp only [c, Bool.false_eq_true, if_false] at hr ⊢; exact hr

theorem laws_eqUse_refl (x : S117) : laws_eqUse.f x.f0 x.f1 x.f2 x.f3 x.f0 x.f1 x.f2 x.f3 = some true := by
  unfold laws_eqUse.f
  simp

theorem laws_eqUseS_refl (l : List (S117)) (h : l.length ≤ 1048576) : Ev (fun k => laws_eqUseS.f k l l) true := by
  unfold laws_eqUseS.f
  refine Ev.pos rfl ?_
  refine ev_walk l (fun k i => laws_eqUseS.l0 k l l i) true ?_ ?_
  · refine Ev.succ ?_
    simp only [laws_eqUseS.l0, Int.lt_irrefl, if_false]
    exact Ev.now _
  · intro i x hx hr
    have hi := lt_of_get hx
    have h1 : ((i : Int) < (l.length : Int)) = True := eq_true (by omega)
    have h2 : (0 ≤ (i : Int)) = True := eq_true (by omega)
    refine Ev.succ ?_
    simp only [laws_eqUseS.l0, h1, h2, if_true, rd_at_T117 hx, wr1 hi (by omega), laws_eqUse_refl x, Option.bind_some]
    exact hr

theorem laws_eqApart_refl (x : S129) : laws_eqApart.f x.f0 x.f1 x.f2 x.f0 x.f1 x.f2 = some true := by
  unfold laws_eqApart.f
  simp

theorem laws_eqApartS_refl (l : List (S129)) (h : l.length ≤ 1048576) : Ev (fun k => laws_eqApartS.f k l l) true := by
  unfold laws_eqApartS.f
  refine Ev.pos rfl ?_
  refine ev_walk l (fun k i => laws_eqApartS.l0 k l l i) true ?_ ?_
  · refine Ev.succ ?_
    simp only [laws_eqApartS.l0, Int.lt_irrefl, if_false]
    exact Ev.now _
  · intro i x hx hr
    have hi := lt_of_get hx
    have h1 : ((i : Int) < (l.length : Int)) = True := eq_true (by omega)
    have h2 : (0 ≤ (i : Int)) = True := eq_true (by omega)
    refine Ev.succ ?_
    simp only [laws_eqApartS.l0, h1, h2, if_true, rd_at_T129 hx, wr1 hi (by omega), laws_eqApart_refl x, Option.bind_some]
    exact hr

def mk129 (x : S129) (n : Int) : S129 × Int := ((⟨n, wrap64 (n + 1), wrap64 ((wrap64 (n + 1)) + 1)⟩ : S129), wrap64 ((wrap64 ((wrap64 (n + 1)) + 1)) + 1))
theorem mk129_up (x : S129) (n : Int) (h0 : 0 ≤ n) (h : n + (3 : Nat) ≤ 4611686018427387904) : (mk129 x n).2 = n + (3 : Nat) := by
  have e0 : wrap64 (n + 1) = n + 1 := wr (by omega) (by omega)
  have e1 : wrap64 (n + 1 + 1) = n + 1 + 1 := wr (by omega) (by omega)
  have e2 : wrap64 (n + 1 + 1 + 1) = n + 1 + 1 + 1 := wr (by omega) (by omega)
  simp only [mk129, e0, e1, e2]
  omega
theorem laws_markApartS_ev (l : List (S129)) (h : l.length ≤ 9223372036854775807) (n : Int) : Ev (fun k => laws_markApartS.f k l n) ((acc mk129 l n).2, (acc mk129 l n).1) := by
  unfold laws_markApartS.f
  refine ev_mark mk129 (fun k l n i => laws_markApartS.l0 k l n i) l.length ?_ ?_ l rfl n
  · intro l' n hl
    refine Ev.succ ?_
    simp only [laws_markApartS.l0, hl, Int.lt_irrefl, if_false]
    exact Ev.now _
  · intro l' i x n r hl hx hr
    have hi := lt_of_get hx
    have h1 : ((i : Int) < (l'.length : Int)) = True := eq_true (by omega)
    have h2 : (0 ≤ (i : Int)) = True := eq_true (by omega)
    refine Ev.succ ?_
    simp only [laws_markApartS.l0, h1, h2, if_true, wr1 hi (by omega), Int.toNat_natCast, Option.bind_some, List.set_set, rd_T129, List.getD_eq_getElem?_getD, List.getElem?_set_self hi, Option.getD_some, hx]
    exact hr

def mk117 (x : S117) (n : Int) : S117 × Int := ((⟨n, wrap64 (n + 1), wrap64 ((wrap64 (n + 1)) + 1), wrap64 ((wrap64 ((wrap64 (n + 1)) + 1)) + 1)⟩ : S117), wrap64 ((wrap64 ((wrap64 ((wrap64 (n + 1)) + 1)) + 1)) + 1))
theorem mk117_up (x : S117) (n : Int) (h0 : 0 ≤ n) (h : n + (4 : Nat) ≤ 4611686018427387904) : (mk117 x n).2 = n + (4 : Nat) := by
  have e0 : wrap64 (n + 1) = n + 1 := wr (by omega) (by omega)
  have e1 : wrap64 (n + 1 + 1) = n + 1 + 1 := wr (by omega) (by omega)
  have e2 : wrap64 (n + 1 + 1 + 1) = n + 1 + 1 + 1 := wr (by omega) (by omega)
  have e3 : wrap64 (n + 1 + 1 + 1 + 1) = n + 1 + 1 + 1 + 1 := wr (by omega) (by omega)
  simp only [mk117, e0, e1, e2, e3]
  omega
theorem laws_markUseS_ev (l : List (S117)) (h : l.length ≤ 9223372036854775807) (n : Int) : Ev (fun k => laws_markUseS.f k l n) ((acc mk117 l n).2, (acc mk117 l n).1) := by
  unfold laws_markUseS.f
  refine ev_mark mk117 (fun k l n i => laws_markUseS.l0 k l n i) l.length ?_ ?_ l rfl n
  · intro l' n hl
    refine Ev.succ ?_
    simp only [laws_markUseS.l0, hl, Int.lt_irrefl, if_false]
    exact Ev.now _
  · intro l' i x n r hl hx hr
    have hi := lt_of_get hx
    have h1 : ((i : Int) < (l'.length : Int)) = True := eq_true (by omega)
    have h2 : (0 ≤ (i : Int)) = True := eq_true (by omega)
    refine Ev.succ ?_
    simp only [laws_markUseS.l0, h1, h2, if_true, wr1 hi (by omega), Int.toNat_natCast, Option.bind_some, List.set_set, rd_T117, List.getD_eq_getElem?_getD, List.getElem?_set_self hi, Option.getD_some, hx]
    exact hr

theorem laws_heldUseS_ev (l : List (S117)) (n : Int) (h0 : 0 ≤ n) (hB : n + ((l.map fun _ => 4).sum : Nat) ≤ 4611686018427387904) (h : l.length ≤ 9223372036854775807) : Ev (fun k => laws_heldUseS.f k (acc mk117 l n).1 n) (acc mk117 l n).2 := by
  unfold laws_heldUseS.f
  refine ev_held mk117 (fun _ => 4) 4611686018427387904 mk117_up (fun k l n i => laws_heldUseS.l0 k l n i) l.length ?_ ?_ l rfl n h0 hB
  · intro l' n hl
    refine Ev.succ ?_
    simp only [laws_heldUseS.l0, hl, Int.lt_irrefl, if_false]
    exact Ev.now _
  · intro l' i x n r hl h0 hB hx hr
    have hi := lt_of_get hx
    have h1 : ((i : Int) < (l'.length : Int)) = True := eq_true (by omega)
    have h2 : (0 ≤ (i : Int)) = True := eq_true (by omega)
    refine Ev.succ ?_
    simp only [laws_heldUseS.l0, h1, h2, if_true, wr1 hi (by omega), rd_at_T117 hx]
    simp only [mk117, if_true]
    exact hr

theorem FnExactMergeUses : laws_FnExactMergeUses.Pure := by
  intro l a b h1 h2 h1' h2' h1'' h2''
  refine Ev.rounds ?_
  unfold laws_FnExactMergeUses.f
  obtain ⟨r, e, hr1, hr⟩ := laws_szApartS_le l h1 1048576 (by omega) (by omega)
  simp only [e, Option.bind_some]
  by_cases c : r < 0
  · simp only [if_pos c]; exact Ev.now _
  simp only [if_neg c]
  have hb := hr (by omega)
  have hm : (l.map cv131).length ≤ 1048576 := by rw [List.length_map]; omega
  obtain ⟨r', e', hr1', hr'⟩ := laws_szUseS_le a h1' r (by omega) (by omega)
  simp only [e', Option.bind_some]
  by_cases c' : r' < 0
  · simp only [if_pos c']; exact Ev.now _
  simp only [if_neg c']
  have hb' := hr' (by omega)
  have hm' : (a.map cv133).length ≤ 1048576 := by rw [List.length_map]; omega
  obtain ⟨r'', e'', hr1'', hr''⟩ := laws_szUseS_le b h1'' r' (by omega) (by omega)
  simp only [e'', Option.bind_some]
  by_cases c'' : r'' < 0
  · simp only [if_pos c'']; exact Ev.now _
  simp only [if_neg c'']
  have hb'' := hr'' (by omega)
  have hm'' : (b.map cv133).length ≤ 1048576 := by rw [List.length_map]; omega
  have hS := spec_MergeUses_ev (l.map cv131) (a.map cv133) (b.map cv133) hm hm' hm''
  have hI := impl_MergeUses_ev (l.map cv131) (a.map cv133) (b.map cv133) hm hm' hm''
  have hl := mergeV_bound (l.map cv131) (b.map cv133) (a.map cv133, []) hm'
  change (mergeV (l.map cv131) (a.map cv133) (b.map cv133)).1.length ≤ _ ∧ (mergeV (l.map cv131) (a.map cv133) (b.map cv133)).2.length ≤ _ at hl
  generalize mergeV (l.map cv131) (a.map cv133) (b.map cv133) = v at hS hI hl
  obtain ⟨hv1, hv2'⟩ := hl
  have hv2 : v.2.length ≤ 1048576 := by simp only [List.length_nil] at hv2'; omega
  have hA : (acc mk129 (l.map cv131) 1).2 = 1 + (((l.map cv131).map fun _ => 3).sum : Nat) := acc_count _ _ _ mk129_up _ 1 (by omega) (by rw [sum_const]; omega)
  rw [sum_const] at hA
  have hB : (acc mk117 (a.map cv133) (acc mk129 (l.map cv131) 1).2).2 = (acc mk129 (l.map cv131) 1).2 + (((a.map cv133).map fun _ => 4).sum : Nat) := acc_count _ _ _ mk117_up _ _ (by omega) (by rw [sum_const]; omega)
  rw [sum_const] at hB
  have hn1 : ((acc mk117 (b.map cv133) (acc mk117 (a.map cv133) (acc mk129 (l.map cv131) 1).2).2).2 < 0) = False := acc_nonneg2 _ _ _ mk117_up _ _ (by omega) (by rw [sum_const]; omega)
  have hG : (acc mk117 v.1 1).2 = 1 + ((v.1.map fun _ => 4).sum : Nat) := acc_count _ _ _ mk117_up _ 1 (by omega) (by rw [sum_const]; omega)
  rw [sum_const] at hG
  have hn2 : ((acc mk117 v.1 1).2 < 0) = False := acc_nonneg _ _ _ mk117_up _ (by rw [sum_const]; omega)
  have hn3 : ((acc mk117 v.2 (acc mk117 v.1 1).2).2 < 0) = False := acc_nonneg2 _ _ _ mk117_up _ _ (by omega) (by rw [sum_const]; omega)
  repeat (first
    | exact Ev.now _
    | ((first | refine Ev.bind (laws_toApartS_ev l (by omega)) ?_ | refine Ev.bind (laws_toUseS_ev a (by omega)) ?_ | refine Ev.bind (laws_toUseS_ev b (by omega)) ?_ | refine Ev.bind (hS) ?_ | refine Ev.bind (hI) ?_ | refine Ev.bind (laws_eqApartS_refl _ hm) ?_ | refine Ev.bind (laws_eqUseS_refl _ hm') ?_ | refine Ev.bind (laws_eqUseS_refl _ hm'') ?_ | refine Ev.bind (laws_eqUseS_refl _ hv1) ?_ | refine Ev.bind (laws_eqUseS_refl _ hv2) ?_ | refine Ev.bind (laws_markApartS_ev _ (by omega) _) ?_ | refine Ev.bind (laws_markUseS_ev _ (by omega) _) ?_ | refine Ev.bind (laws_heldUseS_ev v.1 1 (by omega) (by rw [sum_const]; omega) (by omega)) ?_ | refine Ev.bind (laws_heldUseS_ev v.2 (acc mk117 v.1 1).2 (by omega) (by rw [sum_const]; omega) (by omega)) ?_); try simp only [if_true, if_false, bne_self_eq_false, Bool.false_eq_true, Bool.not_true, hn1, hn2, hn3])
    | (refine Ev.succ ?_; simp only [laws_FnExactMergeUses.j0, if_true, if_false, bne_self_eq_false, Bool.false_eq_true, Bool.not_true, hn1, hn2, hn3])
    | (refine Ev.succ ?_; simp only [laws_FnExactMergeUses.j1, if_true, if_false, bne_self_eq_false, Bool.false_eq_true, Bool.not_true, hn1, hn2, hn3])
    | (refine Ev.succ ?_; simp only [laws_FnExactMergeUses.j2, if_true, if_false, bne_self_eq_false, Bool.false_eq_true, Bool.not_true, hn1, hn2, hn3]))

end Go.Proofs.Ytplfbjbbnjlnkaa.Pure
