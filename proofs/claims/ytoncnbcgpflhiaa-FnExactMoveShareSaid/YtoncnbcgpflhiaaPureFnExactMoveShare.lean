/- The law FnExactMoveShare answers true for all arguments, over numbers and lists alone: what each function computes, and that program and reference compute the same. No condition. -/
import Derived.Test.YtoncnbcgpflhiaaQFnExactMoveSharex4
import Derived.Test.YtoncnbcgpflhiaaL
namespace Go.Proofs.Ytoncnbcgpflhiaa.Pure
open Go.RowKit Go.Proofs.Ytoncnbcgpflhiaa.QFnExactMoveShare Go.Proofs.YtoncnbcgpflhiaaL Go.Proofs.YtoncnbcgpflhiaaW.PrintWords Go.Proofs.YtoncnbcgpflhiaaW.PrintLast
set_option linter.unusedVariables false
set_option linter.unusedSimpArgs false

def cv134 (x : S134) : S132 := ⟨x.f0, x.f1⟩
theorem rd_at_T134 {l : List S134} {i : Nat} {x : S134} (h : l[i]? = some x) : rd_T134 l (i : Int) = x := getD_nat l _ i x h
theorem rd_at_T132 {l : List S132} {i : Nat} {x : S132} (h : l[i]? = some x) : rd_T132 l (i : Int) = x := getD_nat l _ i x h

theorem laws_szShareS_le (l : List (S134)) (hl : l.length ≤ maxLen) (a : Int) (h0 : 0 ≤ a) (ha : a ≤ 1048576) : ∃ r, laws_szShareS.f l a = some r ∧ r ≤ 1048576 ∧ (0 ≤ r → r + (l.length : Nat) ≤ a) := by
  unfold laws_szShareS.f
  unfold maxLen at hl
  rw [wr (by omega) (by omega)]
  split
  · exact ⟨_, rfl, by omega, by omega⟩
  · exact ⟨_, rfl, by omega, by omega⟩

theorem spec_l32Find_ev (l : List S132) (a : Int) (h : l.length ≤ 1048576) : Ev (fun k => spec_l32Find.f k l a) (idxV (fun x => x.f0 == a) l 0) := by
  unfold spec_l32Find.f
  refine ev_idx l (fun x => x.f0 == a) id (fun k i => spec_l32Find.l0 k l a i) ?_ ?_
  · refine Ev.succ ?_
    simp only [spec_l32Find.l0, Int.lt_irrefl, if_false]
    exact Ev.now _
  · intro i x hx
    have hi := lt_of_get hx
    have h1 : ((i : Int) < (l.length : Int)) = True := eq_true (by omega)
    have h2 : (0 ≤ (i : Int)) = True := eq_true (by omega)
    refine ⟨fun hp r hr => ?_, fun hp => ?_⟩
    · refine Ev.succ ?_
      simp only [spec_l32Find.l0, h1, h2, if_true, rd_at_T132 hx, wr1 hi (by omega), if_neg (show ¬ x.f0 = a by simpa using hp)]
      exact hr
    · refine Ev.succ ?_
      simp only [spec_l32Find.l0, h1, h2, if_true, rd_at_T132 hx, if_pos (show x.f0 = a by simpa using hp)]
      exact Ev.now _

theorem spec_Min_eq (a b : Int) : spec_Min.f a b = some (if b < a then b else a) := by
  unfold spec_Min.f; split <;> rfl

theorem spec_Max_eq (a b : Int) : spec_Max.f a b = some (if b > a then b else a) := by
  unfold spec_Max.f; split <;> rfl

/-- What a share counts. -/
def shV (x : S132) : Int := if (if x.f1 > 0 then x.f1 else 0) < 101 then (if x.f1 > 0 then x.f1 else 0) else 101
theorem shV_range (x : S132) : 0 ≤ shV x ∧ shV x ≤ 101 := by unfold shV; split <;> split <;> omega
def sumS (l : List S132) : Int := l.foldl (fun s x => s + shV x) 0
theorem spec_SumShares_ev (l : List S132) (h : l.length ≤ 1048576) : Ev (fun k => spec_SumShares.f k l) (sumS l) := by
  unfold spec_SumShares.f sumS
  refine ev_fold l (fun s x => s + shV x) id (fun i s => 0 ≤ s ∧ s ≤ 101 * i) (fun k s i => spec_SumShares.l0 k l s i) ?_ ?_ ?_ 0 ⟨by omega, by omega⟩
  · intro s _
    refine Ev.succ ?_
    simp only [spec_SumShares.l0, Int.lt_irrefl, if_false]
    exact Ev.now _
  · intro i x s hx hs
    have := shV_range x
    exact ⟨by omega, by omega⟩
  · intro i x s r hx hs hr
    have hi := lt_of_get hx
    have h1 : ((i : Int) < (l.length : Int)) = True := eq_true (by omega)
    have h2 : (0 ≤ (i : Int)) = True := eq_true (by omega)
    have hv := shV_range x
    refine Ev.succ ?_
    simp only [spec_SumShares.l0, h1, h2, if_true, spec_Max_eq, spec_Min_eq, Option.bind_some, rd_at_T132 hx, wr1 hi (by omega)]
    rw [← shV, wr (by omega) (by omega)]
    exact hr

/-- A share is in order at its place. -/
def shP (l : List S132) (i : Nat) : Bool := !decide ((rd_T132 l (i : Int)).f1 < 0) && (decide (i = 0) || decide ((rd_T132 l ((i - 1 : Nat) : Int)).f0 < (rd_T132 l (i : Int)).f0))
def shB (l : List S132) : Bool := allN l.length (shP l) && (decide ((l.length : Int) ≤ 6) && decide (sumS l ≤ 100))
theorem spec_AreShares_ev (l : List S132) (h : l.length ≤ 1048576) : Ev (fun k => spec_AreShares.f k l) (shB l) := by
  unfold spec_AreShares.f shB
  refine ev_all l.length (shP l) _ (fun k i => spec_AreShares.l0 k l i) ?_ ?_
  · refine Ev.succ ?_
    simp only [spec_AreShares.l0, Int.lt_irrefl, if_false]
    by_cases c : (l.length : Int) ≤ 6
    · simp only [if_pos c, decide_eq_true c, Bool.true_and]
      exact Ev.bind (spec_SumShares_ev l h) (Ev.now _)
    · simp only [if_neg c, decide_eq_false c, Bool.false_and]; exact Ev.now _
  · intro i hi
    have h1 : ((i : Int) < (l.length : Int)) = True := eq_true (by omega)
    have h2 : (0 ≤ (i : Int)) = True := eq_true (by omega)
    have h3 := wr1 hi (show l.length ≤ 9223372036854775807 by omega)
    constructor
    · intro hp r hr
      simp only [shP, Bool.and_eq_true, Bool.or_eq_true, Bool.not_eq_true', decide_eq_true_eq, decide_eq_false_iff_not] at hp
      refine Ev.succ ?_
      simp only [spec_AreShares.l0, h1, h2, if_true, if_neg hp.1, h3]
      by_cases c : i = 0
      · exact Ev.neg (by omega) hr
      · simp only [if_pos (show (i : Int) > 0 by omega), wrm (show 0 < i by omega) (by omega), if_pos (show 0 ≤ ((i - 1 : Nat) : Int) by omega), if_pos (show ((i - 1 : Nat) : Int) < (l.length : Int) by omega)]
        exact Ev.neg (by have := hp.2; omega) hr
    · intro hp
      refine Ev.succ ?_
      simp only [spec_AreShares.l0, h1, h2, if_true, h3]
      by_cases c0 : (rd_T132 l (i : Int)).f1 < 0
      · simp only [if_pos c0]; exact Ev.now _
      · simp only [shP, c0, decide_false, Bool.not_false, Bool.true_and, Bool.or_eq_false_iff, decide_eq_false_iff_not] at hp
        simp only [if_neg c0, if_pos (show (i : Int) > 0 by omega), wrm (show 0 < i by omega) (by omega), if_pos (show 0 ≤ ((i - 1 : Nat) : Int) by omega), if_pos (show ((i - 1 : Nat) : Int) < (l.length : Int) by omega)]
        exact Ev.pos (by omega) (Ev.now _)

/-- The shares behind a take, and whether it is taken. -/
def takeV (l : List S132) (a n : Int) : List S132 × Bool :=
  if shB l = true then (if n < 0 then (l, false) else if idxV (fun x => x.f0 == a) l 0 < 0 then (l, false) else if (rd_T132 l (idxV (fun x => x.f0 == a) l 0)).f1 < n then (l, false)
    else (l.set (idxV (fun x => x.f0 == a) l 0).toNat ⟨(rd_T132 l (idxV (fun x => x.f0 == a) l 0)).f0, wrap64 ((rd_T132 l (idxV (fun x => x.f0 == a) l 0)).f1 - n)⟩, true)) else (l, false)
theorem takeV_length (l : List S132) (a n : Int) : (takeV l a n).1.length = l.length := by
  unfold takeV; repeat' split
  all_goals simp
theorem idxV_in {α : Type} (p : α → Bool) (l : List α) (h : ¬ idxV p l 0 < 0) : 0 ≤ idxV p l 0 ∧ idxV p l 0 < (l.length : Int) := by
  rcases idxV_spec p l with ⟨h1, _⟩ | ⟨j, x, h1, h2, _⟩
  · omega
  · have := lt_of_get h2; omega
theorem spec_TakeShare_ev (l : List S132) (a n : Int) (h : l.length ≤ 1048576) : Ev (fun k => spec_TakeShare.f k l a n) (takeV l a n) := by
  unfold spec_TakeShare.f takeV
  simp only [Option.bind_some, List.nil_append, List.length_nil, Nat.zero_add, if_pos (show l.length < 8796093022208 by omega)]
  refine Ev.bind (spec_l32Find_ev l a h) ?_
  refine Ev.bind (spec_AreShares_ev l h) ?_
  cases shB l with
  | false => exact Ev.now _
  | true =>
    simp only [if_true]
    by_cases c1 : n < 0
    · simp only [if_pos c1]; exact Ev.now _
    by_cases c2 : idxV (fun x : S132 => x.f0 == a) l 0 < 0
    · simp only [if_neg c1, if_pos c2]; exact Ev.now _
    obtain ⟨i1, i2⟩ := idxV_in _ l c2
    by_cases c3 : (rd_T132 l (idxV (fun x => x.f0 == a) l 0)).f1 < n
    · simp only [if_neg c1, if_neg c2, if_pos i1, if_pos i2, if_pos c3]; exact Ev.now _
    · simp only [if_neg c1, if_neg c2, if_pos i1, if_pos i2, if_neg c3]; exact Ev.now _

def moveV (l : List S132) (a b n : Int) : List S132 × Bool :=
  if (takeV l a n).2 = true then (if idxV (fun x => x.f0 == b) l 0 < 0 then (l, false) else
    ((takeV l a n).1.set (idxV (fun x => x.f0 == b) l 0).toNat ⟨(rd_T132 (takeV l a n).1 (idxV (fun x => x.f0 == b) l 0)).f0, wrap64 ((rd_T132 (takeV l a n).1 (idxV (fun x => x.f0 == b) l 0)).f1 + n)⟩, true)) else (l, false)
theorem moveV_length (l : List S132) (a b n : Int) : (moveV l a b n).1.length = l.length := by
  unfold moveV
  repeat' split
  all_goals simp [takeV_length]
theorem spec_MoveShare_ev (l : List S132) (a b n : Int) (h : l.length ≤ 1048576) : Ev (fun k => spec_MoveShare.f k l a b n) (moveV l a b n) := by
  unfold spec_MoveShare.f moveV
  refine Ev.bind (spec_TakeShare_ev l a n h) ?_
  have hl := takeV_length l a n
  refine Ev.bind (spec_l32Find_ev l b h) ?_
  simp only [Option.bind_some, List.nil_append, List.length_nil, Nat.zero_add, if_pos (show l.length < 8796093022208 by omega)]
  cases (takeV l a n).2 with
  | false => exact Ev.now _
  | true =>
    simp only [if_true]
    by_cases c : idxV (fun x : S132 => x.f0 == b) l 0 < 0
    · simp only [if_pos c]; exact Ev.now _
    · obtain ⟨h1, h2⟩ := idxV_in _ l c
      simp only [if_neg c]
      exact Ev.pos h1 (Ev.pos (by omega) (Ev.now _))

theorem laws_toShare_eq (x : S134) : laws_toShare.f x.f0 x.f1 = some ((cv134 x).f0, (cv134 x).f1) := by
  unfold laws_toShare.f
  first | rfl | (simp only [Option.bind_some]; rfl)

theorem laws_toShareS_ev (l : List (S134)) (h : l.length ≤ 1048576) : Ev (fun k => laws_toShareS.f k l) (l.map cv134) := by
  unfold laws_toShareS.f
  refine Ev.pos (by omega) (Ev.pos (by omega) ?_)
  refine ev_fill l cv134 (fun k out i => laws_toShareS.l0 k l out i) ?_ ?_ _ (by simp)
  · intro out ho
    refine Ev.succ ?_
    simp only [laws_toShareS.l0, Int.lt_irrefl, if_false]
    exact Ev.now _
  · intro i x out r hx ho hr
    have hi := lt_of_get hx
    have h1 : ((i : Int) < (l.length : Int)) = True := eq_true (by omega)
    have h2 : (0 ≤ (i : Int)) = True := eq_true (by omega)
    have h3 : ((i : Int) < (out.length : Int)) = True := eq_true (by omega)
    refine Ev.succ ?_
    simp only [laws_toShareS.l0, h1, h2, h3, if_true, rd_at_T134 hx, wr1 hi (by omega), Int.toNat_natCast, laws_toShare_eq x, Option.bind_some]
    exact hr

theorem impl_SumShares_ev (l : List S132) (h : l.length ≤ 1048576) : Ev (fun k => impl_SumShares.f k l) (sumS l) := by
  unfold impl_SumShares.f sumS
  refine ev_fold l (fun s x => s + shV x) id (fun i s => 0 ≤ s ∧ s ≤ 101 * i) (fun k s i => impl_SumShares.l0 k s l (l.length : Int) i) ?_ ?_ ?_ 0 ⟨by omega, by omega⟩
  · intro s _
    refine Ev.succ ?_
    simp only [impl_SumShares.l0, Int.lt_irrefl, if_false]
    exact Ev.now _
  · intro i x s hx hs
    have := shV_range x
    exact ⟨by omega, by omega⟩
  · intro i x s r hx hs hr
    have hi := lt_of_get hx
    have h1 : ((i : Int) < (l.length : Int)) = True := eq_true (by omega)
    have h2 : (0 ≤ (i : Int)) = True := eq_true (by omega)
    have hv := shV_range x
    have e : mx (mn x.f1 101) 0 = shV x := by unfold mx mn shV; split <;> split <;> split <;> omega
    refine Ev.succ ?_
    simp only [impl_SumShares.l0, h1, h2, if_true, rd_at_T132 hx, wr1 hi (by omega), e]
    rw [wr (by omega) (by omega)]
    exact hr

theorem impl_AreShares_ev (l : List S132) (h : l.length ≤ 1048576) : Ev (fun k => impl_AreShares.f k l) (shB l) := by
  unfold impl_AreShares.f shB
  refine ev_all l.length (shP l) _ (fun k i => impl_AreShares.l0 k l l (l.length : Int) i) ?_ ?_
  · refine Ev.succ ?_
    simp only [impl_AreShares.l0, Int.lt_irrefl, if_false]
    by_cases c : (l.length : Int) ≤ 6
    · simp only [if_pos c, decide_eq_true c, Bool.true_and]
      exact Ev.bind (impl_SumShares_ev l h) (Ev.now _)
    · simp only [if_neg c, decide_eq_false c, Bool.false_and]; exact Ev.now _
  · intro i hi
    have h1 : ((i : Int) < (l.length : Int)) = True := eq_true (by omega)
    have h2 : (0 ≤ (i : Int)) = True := eq_true (by omega)
    have h3 := wr1 hi (show l.length ≤ 9223372036854775807 by omega)
    constructor
    · intro hp r hr
      simp only [shP, Bool.and_eq_true, Bool.or_eq_true, Bool.not_eq_true', decide_eq_true_eq, decide_eq_false_iff_not] at hp
      refine Ev.succ ?_
      simp only [impl_AreShares.l0, h1, h2, if_true, if_neg hp.1, h3]
      by_cases c : i = 0
      · exact Ev.neg (by omega) hr
      · simp only [if_pos (show (i : Int) > 0 by omega), wrm (show 0 < i by omega) (by omega), if_pos (show 0 ≤ ((i - 1 : Nat) : Int) by omega), if_pos (show ((i - 1 : Nat) : Int) < (l.length : Int) by omega)]
        exact Ev.neg (by have := hp.2; omega) hr
    · intro hp
      refine Ev.succ ?_
      simp only [impl_AreShares.l0, h1, h2, if_true, h3]
      by_cases c0 : (rd_T132 l (i : Int)).f1 < 0
      · simp only [if_pos c0]; exact Ev.now _
      · simp only [shP, c0, decide_false, Bool.not_false, Bool.true_and, Bool.or_eq_false_iff, decide_eq_false_iff_not] at hp
        simp only [if_neg c0, if_pos (show (i : Int) > 0 by omega), wrm (show 0 < i by omega) (by omega), if_pos (show 0 ≤ ((i - 1 : Nat) : Int) by omega), if_pos (show ((i - 1 : Nat) : Int) < (l.length : Int) by omega)]
        exact Ev.pos (by omega) (Ev.now _)

def atPt (a : Int) (x : S132) : Bool := x.f0 == a
theorem impl_shareOf_eq (l : List S132) (a : Int) : impl_shareOf.f l a = some (idxV (atPt a) l 0) := idxO_total (atPt a) l 0

theorem impl_TakeShare_ev (l : List S132) (a n : Int) (h : l.length ≤ 1048576) : Ev (fun k => impl_TakeShare.f k l a n) (takeV l a n) := by
  unfold impl_TakeShare.f takeV
  simp only [Option.bind_some, List.nil_append, List.length_nil, Nat.zero_add, if_pos (show l.length < 8796093022208 by omega)]
  rw [impl_shareOf_eq]
  simp only [Option.bind_some, show atPt a = (fun x : S132 => x.f0 == a) from rfl]
  refine Ev.bind (impl_AreShares_ev l h) ?_
  cases shB l with
  | false => exact Ev.now _
  | true =>
    simp only [if_true]
    by_cases c1 : n < 0
    · simp only [if_pos c1]; exact Ev.now _
    by_cases c2 : idxV (fun x : S132 => x.f0 == a) l 0 < 0
    · simp only [if_neg c1, if_pos c2]; exact Ev.now _
    obtain ⟨i1, i2⟩ := idxV_in _ l c2
    by_cases c3 : (rd_T132 l (idxV (fun x => x.f0 == a) l 0)).f1 < n
    · simp only [if_neg c1, if_neg c2, if_pos i1, if_pos i2, if_pos c3]; exact Ev.now _
    · simp only [if_neg c1, if_neg c2, if_pos i1, if_pos i2, if_neg c3]; exact Ev.now _

theorem impl_MoveShare_ev (l : List S132) (a b n : Int) (h : l.length ≤ 1048576) : Ev (fun k => impl_MoveShare.f k l a b n) (moveV l a b n) := by
  unfold impl_MoveShare.f moveV
  refine Ev.bind (impl_TakeShare_ev l a n h) ?_
  have hl := takeV_length l a n
  rw [impl_shareOf_eq]
  simp only [Option.bind_some, show atPt b = (fun x : S132 => x.f0 == b) from rfl]
  simp only [Option.bind_some, List.nil_append, List.length_nil, Nat.zero_add, if_pos (show l.length < 8796093022208 by omega)]
  cases (takeV l a n).2 with
  | false => exact Ev.now _
  | true =>
    simp only [if_true]
    by_cases c : idxV (fun x : S132 => x.f0 == b) l 0 < 0
    · simp only [if_pos c]; exact Ev.now _
    · obtain ⟨h1, h2⟩ := idxV_in _ l c
      simp only [if_neg c]
      exact Ev.pos h1 (Ev.pos (by omega) (Ev.now _))

theorem laws_eqShare_refl (x : S132) : laws_eqShare.f x.f0 x.f1 x.f0 x.f1 = some true := by
  unfold laws_eqShare.f
  simp

theorem laws_eqShareS_refl (l : List (S132)) (h : l.length ≤ 1048576) : Ev (fun k => laws_eqShareS.f k l l) true := by
  unfold laws_eqShareS.f
  refine Ev.pos rfl ?_
  refine ev_walk l (fun k i => laws_eqShareS.l0 k l l i) true ?_ ?_
  · refine Ev.succ ?_
    simp only [laws_eqShareS.l0, Int.lt_irrefl, if_false]
    exact Ev.now _
  · intro i x hx hr
    have hi := lt_of_get hx
    have h1 : ((i : Int) < (l.length : Int)) = True := eq_true (by omega)
    have h2 : (0 ≤ (i : Int)) = True := eq_true (by omega)
    refine Ev.succ ?_
    simp only [laws_eqShareS.l0, h1, h2, if_true, rd_at_T132 hx, wr1 hi (by omega), laws_eqShare_refl x, Option.bind_some]
    exact hr

def mk132 (x : S132) (n : Int) : S132 × Int := ((⟨n, wrap64 (n + 1)⟩ : S132), wrap64 ((wrap64 (n + 1)) + 1))
theorem mk132_up (x : S132) (n : Int) (h0 : 0 ≤ n) (h : n + (2 : Nat) ≤ 4611686018427387904) : (mk132 x n).2 = n + (2 : Nat) := by
  have e0 : wrap64 (n + 1) = n + 1 := wr (by omega) (by omega)
  have e1 : wrap64 (n + 1 + 1) = n + 1 + 1 := wr (by omega) (by omega)
  simp only [mk132, e0, e1]
  omega
theorem laws_markShareS_ev (l : List (S132)) (h : l.length ≤ 9223372036854775807) (n : Int) : Ev (fun k => laws_markShareS.f k l n) ((acc mk132 l n).2, (acc mk132 l n).1) := by
  unfold laws_markShareS.f
  refine ev_mark mk132 (fun k l n i => laws_markShareS.l0 k l n i) l.length ?_ ?_ l rfl n
  · intro l' n hl
    refine Ev.succ ?_
    simp only [laws_markShareS.l0, hl, Int.lt_irrefl, if_false]
    exact Ev.now _
  · intro l' i x n r hl hx hr
    have hi := lt_of_get hx
    have h1 : ((i : Int) < (l'.length : Int)) = True := eq_true (by omega)
    have h2 : (0 ≤ (i : Int)) = True := eq_true (by omega)
    refine Ev.succ ?_
    simp only [laws_markShareS.l0, h1, h2, if_true, wr1 hi (by omega), Int.toNat_natCast, Option.bind_some, List.set_set, rd_T132, List.getD_eq_getElem?_getD, List.getElem?_set_self hi, Option.getD_some, hx]
    exact hr

theorem laws_heldShareS_ev (l : List (S132)) (n : Int) (h0 : 0 ≤ n) (hB : n + ((l.map fun _ => 2).sum : Nat) ≤ 4611686018427387904) (h : l.length ≤ 9223372036854775807) : Ev (fun k => laws_heldShareS.f k (acc mk132 l n).1 n) (acc mk132 l n).2 := by
  unfold laws_heldShareS.f
  refine ev_held mk132 (fun _ => 2) 4611686018427387904 mk132_up (fun k l n i => laws_heldShareS.l0 k l n i) l.length ?_ ?_ l rfl n h0 hB
  · intro l' n hl
    refine Ev.succ ?_
    simp only [laws_heldShareS.l0, hl, Int.lt_irrefl, if_false]
    exact Ev.now _
  · intro l' i x n r hl h0 hB hx hr
    have hi := lt_of_get hx
    have h1 : ((i : Int) < (l'.length : Int)) = True := eq_true (by omega)
    have h2 : (0 ≤ (i : Int)) = True := eq_true (by omega)
    refine Ev.succ ?_
    simp only [laws_heldShareS.l0, h1, h2, if_true, wr1 hi (by omega), rd_at_T132 hx]
    simp only [mk132, if_true]
    exact hr

theorem FnExactMoveShare : laws_FnExactMoveShare.Pure := by
  intro l a b n h1 h2 _ _ _
  refine Ev.rounds ?_
  unfold laws_FnExactMoveShare.f
  obtain ⟨r, e, hr1, hr⟩ := laws_szShareS_le l h1 1048576 (by omega) (by omega)
  simp only [e, Option.bind_some]
  by_cases c : r < 0
  · simp only [if_pos c]; exact Ev.now _
  simp only [if_neg c]
  have hb := hr (by omega)
  have hm : (l.map cv134).length ≤ 1048576 := by rw [List.length_map]; omega
  have hS := spec_MoveShare_ev (l.map cv134) a b n hm
  have hI := impl_MoveShare_ev (l.map cv134) a b n hm
  have hl := moveV_length (l.map cv134) a b n 
  generalize moveV (l.map cv134) a b n  = v at hS hI hl
  have hv : v.1.length ≤ 1048576 := by omega
  have hn1 : ((acc mk132 (l.map cv134) 1).2 < 0) = False := acc_nonneg _ _ _ mk132_up _ (by rw [sum_const]; omega)
  have hn2 : ((acc mk132 v.1 1).2 < 0) = False := acc_nonneg _ _ _ mk132_up _ (by rw [sum_const]; omega)
  repeat (first
    | exact Ev.now _
    | ((first | refine Ev.bind (laws_toShareS_ev l (by omega)) ?_ | refine Ev.bind (hS) ?_ | refine Ev.bind (hI) ?_ | refine Ev.bind (laws_eqShareS_refl _ hm) ?_ | refine Ev.bind (laws_eqShareS_refl _ hv) ?_ | refine Ev.bind (laws_markShareS_ev _ (by omega) _) ?_ | refine Ev.bind (laws_heldShareS_ev _ 1 (by omega) (by rw [sum_const]; omega) (by omega)) ?_); try simp only [if_true, if_false, bne_self_eq_false, Bool.false_eq_true, hn1, hn2])
    | (refine Ev.succ ?_; simp only [laws_FnExactMoveShare.j0, if_true, if_false, bne_self_eq_false, Bool.false_eq_true, hn1, hn2])
    | (refine Ev.succ ?_; simp only [laws_FnExactMoveShare.j1, if_true, if_false, bne_self_eq_false, Bool.false_eq_true, hn1, hn2])
    | (refine Ev.succ ?_; simp only [laws_FnExactMoveShare.j2, if_true, if_false, bne_self_eq_false, Bool.false_eq_true, hn1, hn2]))

end Go.Proofs.Ytoncnbcgpflhiaa.Pure
