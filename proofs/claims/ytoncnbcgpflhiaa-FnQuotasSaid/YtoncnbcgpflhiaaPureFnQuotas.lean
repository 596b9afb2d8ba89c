/- The law FnQuotas answers true for all arguments, over numbers and lists alone: what each function computes, and that program and reference compute the same. No condition. -/
import Derived.Test.YtoncnbcgpflhiaaQFnQuotasx5
import Derived.Test.YtoncnbcgpflhiaaL
namespace Go.Proofs.Ytoncnbcgpflhiaa.Pure
open Go.RowKit Go.Proofs.Ytoncnbcgpflhiaa.QFnQuotas Go.Proofs.YtoncnbcgpflhiaaL Go.Proofs.YtoncnbcgpflhiaaW.PrintWords Go.Proofs.YtoncnbcgpflhiaaW.PrintLast
set_option linter.unusedVariables false
set_option linter.unusedSimpArgs false

theorem rd_at_T132 {l : List S132} {i : Nat} {x : S132} (h : l[i]? = some x) : rd_T132 l (i : Int) = x := getD_nat l _ i x h

/-- What a share counts. -/
def shV (x : S132) : Int := if (if x.f1 > 0 then x.f1 else 0) < 101 then (if x.f1 > 0 then x.f1 else 0) else 101
theorem shV_range (x : S132) : 0 ≤ shV x ∧ shV x ≤ 101 := by unfold shV; split <;> split <;> omega
def sumS (l : List S132) : Int := l.foldl (fun s x => s + shV x) 0
theorem impl_SumShares_ev (l : List S132) (h : l.length ≤ 1048576) : Ev (fun k => impl_SumShares.f k l) (sumS l) := by
  unfold impl_SumShares.f sumS
  refine ev_fold l (fun s x => s + shV x) id (fun i s => 0 ≤ s ∧ s ≤ 101 * i) (fun k s i => impl_SumShares.l0 k s l (l.length : Int) i) ?_ ?_ ?_ 0 ⟨by omega, by omega⟩
  · intro s _
    refine Ev.succ ?_
    simp only [impl_SumShares.l0, Int.lt_irrefl, if_false]
    exact Ev.now _
  · intro i x s hx hs
    have := shV_range x
    exact ⟨by omega, by omega⟩
  · intro i x s r hx hs hr
    have hi := lt_of_get hx
    have h1 : ((i : Int) < (l.length : Int)) = True := eq_true (by omega)
    have h2 : (0 ≤ (i : Int)) = True := eq_true (by omega)
    have hv := shV_range x
    have e : mx (mn x.f1 101) 0 = shV x := by unfold mx mn shV; split <;> split <;> split <;> omega
    refine Ev.succ ?_
    simp only [impl_SumShares.l0, h1, h2, if_true, rd_at_T132 hx, wr1 hi (by omega), e]
    rw [wr (by omega) (by omega)]
    exact hr

/-- A share is in order at its place. -/
def shP (l : List S132) (i : Nat) : Bool := !decide ((rd_T132 l (i : Int)).f1 < 0) && (decide (i = 0) || decide ((rd_T132 l ((i - 1 : Nat) : Int)).f0 < (rd_T132 l (i : Int)).f0))
def shB (l : List S132) : Bool := allN l.length (shP l) && (decide ((l.length : Int) ≤ 6) && decide (sumS l ≤ 100))
theorem impl_AreShares_ev (l : List S132) (h : l.length ≤ 1048576) : Ev (fun k => impl_AreShares.f k l) (shB l) := by
  unfold impl_AreShares.f shB
  refine ev_all l.length (shP l) _ (fun k i => impl_AreShares.l0 k l l (l.length : Int) i) ?_ ?_
  · refine Ev.succ ?_
    simp only [impl_AreShares.l0, Int.lt_irrefl, if_false]
    by_cases c : (l.length : Int) ≤ 6
    · simp only [if_pos c, decide_eq_true c, Bool.true_and]
      exact Ev.bind (impl_SumShares_ev l h) (Ev.now _)
    · simp only [if_neg c, decide_eq_false c, Bool.false_and]; exact Ev.now _
  · intro i hi
    have h1 : ((i : Int) < (l.length : Int)) = True := eq_true (by omega)
    have h2 : (0 ≤ (i : Int)) = True := eq_true (by omega)
    have h3 := wr1 hi (show l.length ≤ 9223372036854775807 by omega)
    constructor
    · intro hp r hr
      simp only [shP, Bool.and_eq_true, Bool.or_eq_true, Bool.not_eq_true', decide_eq_true_eq, decide_eq_false_iff_not] at hp
      refine Ev.succ ?_
      simp only [impl_AreShares.l0, h1, h2, if_true, if_neg hp.1, h3]
      by_cases c : i = 0
      · exact Ev.neg (by omega) hr
      · simp only [if_pos (show (i : Int) > 0 by omega), wrm (show 0 < i by omega) (by omega), if_pos (show 0 ≤ ((i - 1 : Nat) : Int) by omega), if_pos (show ((i - 1 : Nat) : Int) < (l.length : Int) by omega)]
        exact Ev.neg (by have := hp.2; omega) hr
    · intro hp
      refine Ev.succ ?_
      simp only [impl_AreShares.l0, h1, h2, if_true, h3]
      by_cases c0 : (rd_T132 l (i : Int)).f1 < 0
      · simp only [if_pos c0]; exact Ev.now _
      · simp only [shP, c0, decide_false, Bool.not_false, Bool.true_and, Bool.or_eq_false_iff, decide_eq_false_iff_not] at hp
        simp only [if_neg c0, if_pos (show (i : Int) > 0 by omega), wrm (show 0 < i by omega) (by omega), if_pos (show 0 ≤ ((i - 1 : Nat) : Int) by omega), if_pos (show ((i - 1 : Nat) : Int) < (l.length : Int) by omega)]
        exact Ev.pos (by omega) (Ev.now _)

def atPt (a : Int) (x : S132) : Bool := x.f0 == a
theorem impl_shareOf_eq (l : List S132) (a : Int) : impl_shareOf.f l a = some (idxV (atPt a) l 0) := idxO_total (atPt a) l 0

/-- The shares behind a take, and whether it is taken. -/
def takeV (l : List S132) (a n : Int) : List S132 × Bool :=
  if shB l = true then (if n < 0 then (l, false) else if idxV (fun x => x.f0 == a) l 0 < 0 then (l, false) else if (rd_T132 l (idxV (fun x => x.f0 == a) l 0)).f1 < n then (l, false)
    else (l.set (idxV (fun x => x.f0 == a) l 0).toNat ⟨(rd_T132 l (idxV (fun x => x.f0 == a) l 0)).f0, wrap64 ((rd_T132 l (idxV (fun x => x.f0 == a) l 0)).f1 - n)⟩, true)) else (l, false)
theorem takeV_length (l : List S132) (a n : Int) : (takeV l a n).1.length = l.length := by
  unfold takeV; repeat' split
  all_goals simp
theorem idxV_in {α : Type} (p : α → Bool) (l : List α) (h : ¬ idxV p l 0 < 0) : 0 ≤ idxV p l 0 ∧ idxV p l 0 < (l.length : Int) := by
  rcases idxV_spec p l with ⟨h1, _⟩ | ⟨j, x, h1, h2, _⟩
  · omega
  · have := lt_of_get h2; omega
theorem impl_TakeShare_ev (l : List S132) (a n : Int) (h : l.length ≤ 1048576) : Ev (fun k => impl_TakeShare.f k l a n) (takeV l a n) := by
  unfold impl_TakeShare.f takeV
  simp only [Option.bind_some, List.nil_append, List.length_nil, Nat.zero_add, if_pos (show l.length < 8796093022208 by omega)]
  rw [impl_shareOf_eq]
  simp only [Option.bind_some, show atPt a = (fun x : S132 => x.f0 == a) from rfl]
  refine Ev.bind (impl_AreShares_ev l h) ?_
  cases shB l with
  | false => exact Ev.now _
  | true =>
    simp only [if_true]
    by_cases c1 : n < 0
    · simp only [if_pos c1]; exact Ev.now _
    by_cases c2 : idxV (fun x : S132 => x.f0 == a) l 0 < 0
    · simp only [if_neg c1, if_pos c2]; exact Ev.now _
    obtain ⟨i1, i2⟩ := idxV_in _ l c2
    by_cases c3 : (rd_T132 l (idxV (fun x => x.f0 == a) l 0)).f1 < n
    · simp only [if_neg c1, if_neg c2, if_pos i1, if_pos i2, if_pos c3]; exact Ev.now _
    · simp only [if_neg c1, if_neg c2, if_pos i1, if_pos i2, if_neg c3]; exact Ev.now _

def moveV (l : List S132) (a b n : Int) : List S132 × Bool :=
  if (takeV l a n).2 = true then (if idxV (fun x => x.f0 == b) l 0 < 0 then (l, false) else
    ((takeV l a n).1.set (idxV (fun x => x.f0 == b) l 0).toNat ⟨(rd_T132 (takeV l a n).1 (idxV (fun x => x.f0 == b) l 0)).f0, wrap64 ((rd_T132 (takeV l a n).1 (idxV (fun x => x.f0 == b) l 0)).f1 + n)⟩, true)) else (l, false)
theorem moveV_length (l : List S132) (a b n : Int) : (moveV l a b n).1.length = l.length := by
  unfold moveV
  repeat' split
  all_goals simp [takeV_length]
theorem impl_MoveShare_ev (l : List S132) (a b n : Int) (h : l.length ≤ 1048576) : Ev (fun k => impl_MoveShare.f k l a b n) (moveV l a b n) := by
  unfold impl_MoveShare.f moveV
  refine Ev.bind (impl_TakeShare_ev l a n h) ?_
  have hl := takeV_length l a n
  rw [impl_shareOf_eq]
  simp only [Option.bind_some, show atPt b = (fun x : S132 => x.f0 == b) from rfl]
  simp only [Option.bind_some, List.nil_append, List.length_nil, Nat.zero_add, if_pos (show l.length < 8796093022208 by omega)]
  cases (takeV l a n).2 with
  | false => exact Ev.now _
  | true =>
    simp only [if_true]
    by_cases c : idxV (fun x : S132 => x.f0 == b) l 0 < 0
    · simp only [if_pos c]; exact Ev.now _
    · obtain ⟨h1, h2⟩ := idxV_in _ l c
      simp only [if_neg c]
      exact Ev.pos h1 (Ev.pos (by omega) (Ev.now _))

theorem spec_l1New_ev (l : List Int) (h : l.length ≤ 1048576) : ∃ x, Ev (fun k => spec_l1New.f k l) (l, 0, x) := by
  have key : ∀ (n i : Nat) (a : Int), i + n = l.length → ∃ x, Ev (fun k => spec_l1New.l0 k l a (i : Int)) (l, 0, x) := by
    intro n
    induction n with
    | zero =>
      intro i a e
      obtain rfl : i = l.length := by omega
      refine ⟨a, Ev.succ ?_⟩
      simp only [spec_l1New.l0, Int.lt_irrefl, if_false]
      exact Ev.now _
    | succ n ih =>
      intro i a e
      have hi : i < l.length := by omega
      have h1 : ((i : Int) < (l.length : Int)) = True := eq_true (by omega)
      have h2 : (0 ≤ (i : Int)) = True := eq_true (by omega)
      by_cases c : (i : Int) < 4000
      · obtain ⟨x, hx⟩ := ih (i + 1) (Go.bits .and .i64 (wrap64 ((wrap64 ((wrap64 (a * 137)) + (wrap64 (rd l (i : Int))))) + 11)) 1073741823) (by omega)
        refine ⟨x, Ev.succ ?_⟩
        simp only [spec_l1New.l0, h1, h2, if_true, if_pos c, wr1 hi (by omega)]
        exact hx
      · refine ⟨a, Ev.succ ?_⟩
        simp only [spec_l1New.l0, h1, if_true, if_neg c]
        exact Ev.now _
  exact key l.length 0 _ (by omega)

/-- What a mask of eight bits leaves. -/
theorem and255 (a : Int) : 0 ≤ Go.bits .and .i64 a 255 ∧ Go.bits .and .i64 a 255 ≤ 255 := by
  show 0 ≤ IntKind.i64.wrap ((BitVec.ofInt 64 a &&& BitVec.ofInt 64 255).toNat : Int) ∧ IntKind.i64.wrap ((BitVec.ofInt 64 a &&& BitVec.ofInt 64 255).toNat : Int) ≤ 255
  have e : (BitVec.ofInt 64 255).toNat = 255 := by decide
  have h : (BitVec.ofInt 64 a &&& BitVec.ofInt 64 255).toNat ≤ 255 := by rw [BitVec.toNat_and, e]; exact Nat.and_le_right
  generalize (BitVec.ofInt 64 a &&& BitVec.ofInt 64 255).toNat = m at h ⊢
  have hw : IntKind.i64.wrap (m : Int) = (m : Int) := by
    rw [i64_w]
    exact wr (by omega) (by omega)
  rw [hw]
  omega
theorem spec_l1Byte_ok (s : List Int) (i h : Int) (h0 : 0 ≤ i) (h1 : i ≤ s.length) (hs : s.length ≤ 1048576) : ∃ x j h', spec_l1Byte.f s i h = some (x, j, h') ∧ 0 ≤ x ∧ x ≤ 255 ∧ 0 ≤ j ∧ j ≤ s.length := by
  unfold spec_l1Byte.f
  by_cases c : i < (s.length : Int)
  · rw [if_pos c, if_pos h0]
    have e : wrap64 (i + 1) = i + 1 := wr (by omega) (by omega)
    exact ⟨_, _, _, rfl, (and255 _).1, (and255 _).2, by omega, by omega⟩
  · rw [if_neg c]
    exact ⟨_, _, _, rfl, (and255 _).1, (and255 _).2, h0, h1⟩

theorem spec_l1Below_ok (s : List Int) (i h : Int) (h0 : 0 ≤ i) (h1 : i ≤ s.length) (hs : s.length ≤ 1048576) (n : Int) (n0 : 0 < n) (n1 : n ≤ 256) : ∃ x j h', spec_l1Below.f s i h n = some (x, j, h') ∧ 0 ≤ x ∧ x < n ∧ 0 ≤ j ∧ j ≤ s.length := by
  obtain ⟨x, j, h', e, x0, x1, j0, j1⟩ := spec_l1Byte_ok s i h h0 h1 hs
  unfold spec_l1Below.f
  rw [if_neg (by omega), if_pos n1, e, Option.bind_some, if_neg (by omega)]
  exact ⟨_, _, _, rfl, Int.tmod_nonneg _ x0, Int.tmod_lt_of_pos _ n0, j0, j1⟩

theorem spec_l1Int_ok (s : List Int) (i h : Int) (h0 : 0 ≤ i) (h1 : i ≤ s.length) (hs : s.length ≤ 1048576) (l : List Int) (n0 : 0 < l.length) (n1 : l.length ≤ 256) : ∃ x j h', spec_l1Int.f s i h l = some (x, j, h') ∧ 0 ≤ j ∧ j ≤ s.length := by
  obtain ⟨x, j, h', e, x0, x1, j0, j1⟩ := spec_l1Below_ok s i h h0 h1 hs (l.length : Int) (by omega) (by omega)
  unfold spec_l1Int.f
  rw [e, Option.bind_some, if_pos x0, if_pos x1]
  exact ⟨_, _, _, rfl, j0, j1⟩

theorem spec_DrawSplitQuota_ev (l : List Int) (h : l.length ≤ 1048576) : ∃ t p, Ev (fun k => spec_DrawSplitQuota.f k l) (t, p) ∧ p.length ≤ 8 := by
  obtain ⟨x, hx⟩ := spec_l1New_ev l h
  obtain ⟨a, j, h', e, j0, j1⟩ := spec_l1Int_ok l 0 x (by omega) (by omega) h [0, 1, 7, 10, 100, 101, (-1)] (by simp) (by simp)
  obtain ⟨b, j', h'', e', b0, b1, j0', j1'⟩ := spec_l1Below_ok l j h' j0 j1 h 8 (by omega) (by omega)
  have key : ∀ (n : Nat) (i g : Int) (out : List Int), 0 ≤ i → i ≤ l.length → out.length + n ≤ 8 → ∃ p, Ev (fun k => spec_DrawSplitQuota.l0 k a out (n : Int) l i g) (a, p) ∧ p.length ≤ 8 := by
    intro n
    induction n with
    | zero =>
      intro i g out i0 i1 ho
      refine ⟨out, Ev.succ ?_, by omega⟩
      simp only [spec_DrawSplitQuota.l0]
      exact Ev.neg (by omega) (Ev.now _)
    | succ n ih =>
      intro i g out i0 i1 ho
      obtain ⟨u, i2, g2, e2, _, _, i20, i21⟩ := spec_l1Below_ok l i g i0 i1 h 2 (by omega) (by omega)
      obtain ⟨v, i3, g3, e3, _, _, i30, i31⟩ := spec_l1Below_ok l i2 g2 i20 i21 h 2 (by omega) (by omega)
      obtain ⟨p, hp, hl⟩ := ih i3 g3 (out ++ [wrap64 ((wrap64 (10 - ((n + 1 : Nat) : Int))) + (wrap64 (u * v)))]) i30 i31 (by rw [List.length_append, List.length_singleton]; omega)
      refine ⟨p, Ev.succ ?_, hl⟩
      have ew : wrap64 (((n + 1 : Nat) : Int) - 1) = (n : Int) := by rw [wr (by omega) (by omega)]; omega
      simp only [spec_DrawSplitQuota.l0, e2, e3, Option.bind_some, ew, if_pos (show ((n + 1 : Nat) : Int) > 0 by omega), if_pos (show out.length < 17592186044416 by omega)]
      exact hp
  obtain ⟨p, hp, hl⟩ := key b.toNat j' h'' [] j0' j1' (by simp; omega)
  refine ⟨a, p, ?_, hl⟩
  unfold spec_DrawSplitQuota.f
  refine Ev.bind hx ?_
  simp only [e, Option.bind_some, e']
  rw [Int.toNat_of_nonneg b0] at hp
  exact hp

theorem impl_InRange_eq (a b c : Int) : impl_InRange.f a b c = some (inB a b c) := by
  unfold impl_InRange.f
  rw [ite_dand]; rfl

def shareAt (t n i : Int) : Int := if i < Int.tmod t n then wrap64 (wrap64 (Int.tdiv t n) + 1) else wrap64 (Int.tdiv t n)
def stopB (l : List Int) (i : Nat) : Bool := !decide (i = 0) && decide (rd l ((i - 1 : Nat) : Int) ≥ rd l (i : Int))
def splitGo (t : Int) (l : List Int) : Nat → Nat → List S132 → List S132 × Bool
  | 0, _, out => (out, true)
  | f + 1, i, out => if stopB l i = true then ([], false) else splitGo t l f (i + 1) (out ++ [⟨rd l (i : Int), shareAt t (l.length : Int) (i : Int)⟩])
theorem splitGo_length (t : Int) (l : List Int) : ∀ f i out, (splitGo t l f i out).1.length ≤ out.length + f
  | 0, _, out => by simp [splitGo]
  | f + 1, i, out => by
    unfold splitGo
    split
    · simp
    · have := splitGo_length t l f (i + 1) (out ++ [⟨rd l (i : Int), shareAt t (l.length : Int) (i : Int)⟩])
      rw [List.length_append, List.length_singleton] at this
      omega
def splitV (t : Int) (l : List Int) : List S132 × Bool := if (inB t 0 100 && inB (l.length : Int) 1 6) = true then splitGo t l l.length 0 [] else ([], false)
theorem splitV_length (t : Int) (l : List Int) : (splitV t l).1.length ≤ l.length := by
  unfold splitV
  split
  · have := splitGo_length t l l.length 0 []
    rw [List.length_nil] at this
    omega
  · simp
theorem impl_SplitQuota_go (t : Int) (l : List Int) (h : l.length ≤ 1048576) : ∀ f i out, i + f = l.length → out.length ≤ i → Ev (fun k => impl_SplitQuota.l0 k t l out l (l.length : Int) (i : Int)) (splitGo t l f i out)
  | 0, i, out, e, ho => by
    obtain rfl : i = l.length := by omega
    refine Ev.succ ?_
    simp only [impl_SplitQuota.l0, Int.lt_irrefl, if_false]
    exact Ev.now _
  | f + 1, i, out, e, ho => by
    have hi : i < l.length := by omega
    have h1 : ((i : Int) < (l.length : Int)) = True := eq_true (by omega)
    have h2 : (0 ≤ (i : Int)) = True := eq_true (by omega)
    have h3 : ((l.length : Int) = 0) = False := eq_false (by omega)
    have h4 : (out.length < 8796093022208) = True := eq_true (by omega)
    have ih := impl_SplitQuota_go t l h f (i + 1) (out ++ [⟨rd l (i : Int), shareAt t (l.length : Int) (i : Int)⟩]) (by omega) (by rw [List.length_append, List.length_singleton]; omega)
    have hj : Ev (fun k => impl_SplitQuota.j2 k t l out (i : Int) (rd l (i : Int)) l (l.length : Int) (i : Int) (stopB l i)) (splitGo t l (f + 1) i out) := by
      refine Ev.succ ?_
      unfold splitGo
      simp only [impl_SplitQuota.j2, h3, h4, if_true, if_false, wr1 hi (by omega)]
      cases c : stopB l i with
      | true => simp only [if_true]; exact Ev.now _
      | false =>
        simp only [Bool.false_eq_true, if_false]
        unfold shareAt at ih ⊢
        by_cases c2 : (i : Int) < Int.tmod t (l.length : Int)
        · simp only [if_pos c2] at ih ⊢; exact ih
        · simp only [if_neg c2] at ih ⊢; exact ih
    refine Ev.succ ?_
    simp only [impl_SplitQuota.l0, h1, h2, if_true]
    by_cases c : i = 0
    · have hb : stopB l i = false := by unfold stopB; simp [c]
      rw [hb] at hj
      exact Ev.neg (by omega) hj
    · have hb : stopB l i = decide (rd l ((i - 1 : Nat) : Int) ≥ rd l (i : Int)) := by unfold stopB; simp [c]
      rw [hb] at hj
      simp only [if_pos (show (i : Int) > 0 by omega), wrm (show 0 < i by omega) (by omega), if_pos (show 0 ≤ ((i - 1 : Nat) : Int) by omega), if_pos (show ((i - 1 : Nat) : Int) < (l.length : Int) by omega)]
      exact hj
theorem impl_SplitQuota_ev (t : Int) (l : List Int) (h : l.length ≤ 1048576) : Ev (fun k => impl_SplitQuota.f k t l) (splitV t l) := by
  unfold impl_SplitQuota.f splitV
  have hg := impl_SplitQuota_go t l h l.length 0 [] (by omega) (by simp)
  simp only [Option.bind_some, impl_InRange_eq]
  cases c1 : inB t 0 100 with
  | false => refine Ev.succ ?_; simp only [impl_SplitQuota.j0, Bool.false_and, Bool.false_eq_true, if_false, if_true]; exact Ev.now _
  | true =>
    cases c2 : inB (l.length : Int) 1 6 with
    | false => refine Ev.succ ?_; simp only [impl_SplitQuota.j0, Bool.true_and, Bool.not_false, Bool.false_eq_true, if_false, if_true]; exact Ev.now _
    | true => refine Ev.succ ?_; simp only [impl_SplitQuota.j0, Bool.true_and, Bool.not_true, Bool.false_eq_true, if_false, if_true]; exact hg

theorem spec_l1In_eq (a b c : Int) : spec_l1In.f a b c = some (inB a b c) := by
  unfold spec_l1In.f
  rw [ite_dand]; rfl

theorem spec_SplitQuota_go (t : Int) (l : List Int) (h : l.length ≤ 1048576) : ∀ f i out, i + f = l.length → out.length ≤ i → Ev (fun k => spec_SplitQuota.l0 k t l out (i : Int)) (splitGo t l f i out)
  | 0, i, out, e, ho => by
    obtain rfl : i = l.length := by omega
    refine Ev.succ ?_
    simp only [spec_SplitQuota.l0, Int.lt_irrefl, if_false]
    exact Ev.now _
  | f + 1, i, out, e, ho => by
    have hi : i < l.length := by omega
    have h1 : ((i : Int) < (l.length : Int)) = True := eq_true (by omega)
    have h2 : (0 ≤ (i : Int)) = True := eq_true (by omega)
    have h3 : ((l.length : Int) = 0) = False := eq_false (by omega)
    have h4 : (out.length < 8796093022208) = True := eq_true (by omega)
    have ih := spec_SplitQuota_go t l h f (i + 1) (out ++ [⟨rd l (i : Int), shareAt t (l.length : Int) (i : Int)⟩]) (by omega) (by rw [List.length_append, List.length_singleton]; omega)
    have hj : Ev (fun k => spec_SplitQuota.j2 k t l out (i : Int) (stopB l i)) (splitGo t l (f + 1) i out) := by
      refine Ev.succ ?_
      unfold splitGo
      simp only [spec_SplitQuota.j2, h1, h2, h3, h4, if_true, if_false, wr1 hi (by omega)]
      cases c : stopB l i with
      | true => simp only [if_true]; exact Ev.now _
      | false =>
        simp only [Bool.false_eq_true, if_false]
        unfold shareAt at ih ⊢
        by_cases c2 : (i : Int) < Int.tmod t (l.length : Int)
        · simp only [if_pos c2] at ih ⊢; exact ih
        · simp only [if_neg c2] at ih ⊢; exact ih
    refine Ev.succ ?_
    simp only [spec_SplitQuota.l0, h1, h2, if_true]
    by_cases c : i = 0
    · have hb : stopB l i = false := by unfold stopB; simp [c]
      rw [hb] at hj
      exact Ev.neg (by omega) hj
    · have hb : stopB l i = decide (rd l ((i - 1 : Nat) : Int) ≥ rd l (i : Int)) := by unfold stopB; simp [c]
      rw [hb] at hj
      simp only [if_pos (show (i : Int) > 0 by omega), wrm (show 0 < i by omega) (by omega), if_pos (show 0 ≤ ((i - 1 : Nat) : Int) by omega), if_pos (show ((i - 1 : Nat) : Int) < (l.length : Int) by omega)]
      exact hj
theorem spec_SplitQuota_ev (t : Int) (l : List Int) (h : l.length ≤ 1048576) : Ev (fun k => spec_SplitQuota.f k t l) (splitV t l) := by
  unfold spec_SplitQuota.f splitV
  have hg := spec_SplitQuota_go t l h l.length 0 [] (by omega) (by simp)
  simp only [Option.bind_some, spec_l1In_eq]
  cases c1 : inB t 0 100 with
  | false => refine Ev.succ ?_; simp only [spec_SplitQuota.j0, Bool.false_and, Bool.false_eq_true, if_false, if_true]; exact Ev.now _
  | true =>
    cases c2 : inB (l.length : Int) 1 6 with
    | false => refine Ev.succ ?_; simp only [spec_SplitQuota.j0, Bool.true_and, Bool.not_false, Bool.false_eq_true, if_false, if_true]; exact Ev.now _
    | true => refine Ev.succ ?_; simp only [spec_SplitQuota.j0, Bool.true_and, Bool.not_true, Bool.false_eq_true, if_false, if_true]; exact hg

theorem split_some (a : Int) (h0 : 0 ≤ a) (h1 : a ≤ 100) : (splitV a [1]).1.length = 1 ∧ (splitV a [1, 2]).1.length = 2 ∧ (splitV a [1, 2, 3]).1.length = 3 := by
  have e : inB a 0 100 = true := by rw [inB_iff]; exact ⟨h0, h1⟩
  have s0 : ∀ l, stopB l 0 = false := fun l => rfl
  have s1 : stopB [1, 2] 1 = false := by decide
  have s2 : stopB [1, 2, 3] 1 = false := by decide
  have s3 : stopB [1, 2, 3] 2 = false := by decide
  have b1 : inB 1 1 6 = true := by decide
  have b2 : inB 2 1 6 = true := by decide
  have b3 : inB 3 1 6 = true := by decide
  refine ⟨?_, ?_, ?_⟩
  · simp [splitV, splitGo, e, s0, b1]
  · simp [splitV, splitGo, e, s0, s1, b2]
  · simp [splitV, splitGo, e, s0, s2, s3, b3]
theorem spec_l32Shares_ev (s : List Int) (i h : Int) (h0 : 0 ≤ i) (h1 : i ≤ s.length) (hs : s.length ≤ 1048576) : ∃ v j g, Ev (fun k => spec_l32Shares.f k s i h) (v, j, g) ∧ 1 ≤ v.length ∧ v.length ≤ 3 ∧ 0 ≤ j ∧ j ≤ s.length := by
  obtain ⟨a, i2, g2, e2, a0, a1, i20, i21⟩ := spec_l1Below_ok s i h h0 h1 hs 30 (by omega) (by omega)
  obtain ⟨b, i3, g3, e3, b0, b1, i30, i31⟩ := spec_l1Below_ok s i2 g2 i20 i21 hs 3 (by omega) (by omega)
  obtain ⟨n1, n2, n3⟩ := split_some a a0 (by omega)
  have hn : 1 ≤ (splitV a (([1, 2, 3] : List Int).take (1 + b).toNat)).1.length ∧ (splitV a (([1, 2, 3] : List Int).take (1 + b).toNat)).1.length ≤ 3 := by
    have hb : b = 0 ∨ b = 1 ∨ b = 2 := by omega
    rcases hb with rfl | rfl | rfl
    · show 1 ≤ (splitV a [1]).1.length ∧ (splitV a [1]).1.length ≤ 3; omega
    · show 1 ≤ (splitV a [1, 2]).1.length ∧ (splitV a [1, 2]).1.length ≤ 3; omega
    · show 1 ≤ (splitV a [1, 2, 3]).1.length ∧ (splitV a [1, 2, 3]).1.length ≤ 3; omega
  refine ⟨(splitV a (([1, 2, 3] : List Int).take (1 + b).toNat)).1, i3, g3, ?_, hn.1, hn.2, i30, i31⟩
  have ew : wrap64 (1 + b) = 1 + b := wr (by omega) (by omega)
  unfold spec_l32Shares.f
  simp only [e2, e3, Option.bind_some, ew, if_pos (show 0 ≤ 1 + b by omega), if_pos (show 1 + b ≤ (([1, 2, 3] : List Int).length : Int) by simp; omega)]
  refine Ev.bind (spec_SplitQuota_ev a (([1, 2, 3] : List Int).take (1 + b).toNat) (by simp; omega)) ?_
  simp only [List.length_nil, Nat.zero_add, List.nil_append, if_pos (show (splitV a (([1, 2, 3] : List Int).take (1 + b).toNat)).1.length < 8796093022208 by omega)]
  exact Ev.now _

theorem spec_l32Any_ev (s : List Int) (i h : Int) (h0 : 0 ≤ i) (h1 : i ≤ s.length) (hs : s.length ≤ 1048576) : ∃ v j g, Ev (fun k => spec_l32Any.f k s i h) (v, j, g) ∧ v.length ≤ 4 ∧ 0 ≤ j ∧ j ≤ s.length := by
  obtain ⟨v, i1, g1, hv, v1, v2, i10, i11⟩ := spec_l32Shares_ev s i h h0 h1 hs
  obtain ⟨b, i2, g2, e2, b0, b1, i20, i21⟩ := spec_l1Below_ok s i1 g1 i10 i11 hs 8 (by omega) (by omega)
  have hp : (0 < (v.length : Int)) = True := eq_true (by omega)
  by_cases c0 : b = 0
  · obtain ⟨x, i3, g3, e3, i30, i31⟩ := spec_l1Int_ok s i2 g2 i20 i21 hs [(-1), 100, 101, 9223372036854775807, (-9223372036854775808)] (by simp) (by simp)
    refine ⟨v.set (0 : Int).toNat ⟨(rd_T132 v 0).f0, x⟩, i3, g3, ?_, by rw [List.length_set]; omega, i30, i31⟩
    unfold spec_l32Any.f
    refine Ev.bind hv ?_
    simp only [e2, e3, Option.bind_some, if_pos c0, hp, if_true]
    exact Ev.now _
  by_cases c1 : b = 1
  · obtain ⟨x, i3, g3, e3, _, _, i30, i31⟩ := spec_l1Below_ok s i2 g2 i20 i21 hs 6 (by omega) (by omega)
    obtain ⟨y, i4, g4, e4, _, _, i40, i41⟩ := spec_l1Below_ok s i3 g3 i30 i31 hs 100 (by omega) (by omega)
    refine ⟨v ++ [⟨x, y⟩], i4, g4, ?_, by rw [List.length_append, List.length_singleton]; omega, i40, i41⟩
    unfold spec_l32Any.f
    refine Ev.bind hv ?_
    simp only [e2, e3, e4, Option.bind_some, if_neg c0, if_pos c1, if_pos (show v.length < 8796093022208 by omega)]
    exact Ev.now _
  by_cases c2 : b = 2
  · obtain ⟨x, i3, g3, e3, i30, i31⟩ := spec_l1Int_ok s i2 g2 i20 i21 hs [(-5), 2, 9] (by simp) (by simp)
    refine ⟨v.set (0 : Int).toNat ⟨x, (rd_T132 v 0).f1⟩, i3, g3, ?_, by rw [List.length_set]; omega, i30, i31⟩
    unfold spec_l32Any.f
    refine Ev.bind hv ?_
    simp only [e2, e3, Option.bind_some, if_neg c0, if_neg c1, if_pos c2, hp, if_true]
    exact Ev.now _
  · refine ⟨v, i2, g2, ?_, by omega, i20, i21⟩
    unfold spec_l32Any.f
    refine Ev.bind hv ?_
    simp only [e2, Option.bind_some, if_neg c0, if_neg c1, if_neg c2]
    exact Ev.now _

theorem spec_DrawTakeShare_ev (l : List Int) (h : l.length ≤ 1048576) : ∃ v p n, Ev (fun k => spec_DrawTakeShare.f k l) (v, p, n) ∧ v.length ≤ 1048576 := by
  obtain ⟨x, hx⟩ := spec_l1New_ev l h
  obtain ⟨v, i1, g1, hv, v1, i10, i11⟩ := spec_l32Any_ev l 0 x (by omega) (by omega) h
  obtain ⟨p, i2, g2, e2, _, _, i20, i21⟩ := spec_l1Below_ok l i1 g1 i10 i11 h 5 (by omega) (by omega)
  obtain ⟨n, i3, g3, e3, i30, i31⟩ := spec_l1Int_ok l i2 g2 i20 i21 h [0, 1, 3, 10, 30, (-1), 9223372036854775807] (by simp) (by simp)
  refine ⟨v, p, n, ?_, by omega⟩
  unfold spec_DrawTakeShare.f
  refine Ev.bind hx ?_
  refine Ev.bind hv ?_
  simp only [e2, e3, Option.bind_some]
  exact Ev.now _

theorem spec_Min_eq (a b : Int) : spec_Min.f a b = some (if b < a then b else a) := by
  unfold spec_Min.f; split <;> rfl

theorem spec_Max_eq (a b : Int) : spec_Max.f a b = some (if b > a then b else a) := by
  unfold spec_Max.f; split <;> rfl

theorem spec_SumShares_ev (l : List S132) (h : l.length ≤ 1048576) : Ev (fun k => spec_SumShares.f k l) (sumS l) := by
  unfold spec_SumShares.f sumS
  refine ev_fold l (fun s x => s + shV x) id (fun i s => 0 ≤ s ∧ s ≤ 101 * i) (fun k s i => spec_SumShares.l0 k l s i) ?_ ?_ ?_ 0 ⟨by omega, by omega⟩
  · intro s _
    refine Ev.succ ?_
    simp only [spec_SumShares.l0, Int.lt_irrefl, if_false]
    exact Ev.now _
  · intro i x s hx hs
    have := shV_range x
    exact ⟨by omega, by omega⟩
  · intro i x s r hx hs hr
    have hi := lt_of_get hx
    have h1 : ((i : Int) < (l.length : Int)) = True := eq_true (by omega)
    have h2 : (0 ≤ (i : Int)) = True := eq_true (by omega)
    have hv := shV_range x
    refine Ev.succ ?_
    simp only [spec_SumShares.l0, h1, h2, if_true, spec_Max_eq, spec_Min_eq, Option.bind_some, rd_at_T132 hx, wr1 hi (by omega)]
    rw [← shV, wr (by omega) (by omega)]
    exact hr

def leftV (l : List S132) (a : Int) : Int := if idxV (fun x => x.f0 == a) l 0 < 0 then 0 else (rd_T132 l (idxV (fun x => x.f0 == a) l 0)).f1
theorem impl_LeftAt_ev (l : List S132) (a : Int) : impl_LeftAt.f l a = some (leftV l a) := by
  unfold impl_LeftAt.f leftV
  rw [impl_shareOf_eq, Option.bind_some]
  show (if idxV (fun x : S132 => x.f0 == a) l 0 < 0 then _ else _) = _
  by_cases c : idxV (fun x : S132 => x.f0 == a) l 0 < 0
  · rw [if_pos c, if_pos c]
  · obtain ⟨h1, h2⟩ := idxV_in _ l c
    rw [if_neg c, if_neg c]
    show (if 0 ≤ idxV (fun x : S132 => x.f0 == a) l 0 then _ else _) = _
    rw [if_pos h1]
    show (if idxV (fun x : S132 => x.f0 == a) l 0 < (l.length : Int) then _ else _) = _
    rw [if_pos h2]; rfl

theorem spec_DrawMoveShare_ev (l : List Int) (h : l.length ≤ 1048576) : ∃ v a b n, Ev (fun k => spec_DrawMoveShare.f k l) (v, a, b, n) ∧ v.length ≤ 1048576 := by
  obtain ⟨v, p, n, hv, hl⟩ := spec_DrawTakeShare_ev l h
  refine ⟨v, p, (l.length : Int) % 5, n, ?_, hl⟩
  unfold spec_DrawMoveShare.f
  refine Ev.bind hv ?_
  exact Ev.now _

theorem sumS_from (l : List S132) : ∀ s : Int, l.foldl (fun s x => s + shV x) s = s + (l.map shV).sum := by
  induction l with
  | nil => intro s; simp
  | cons x l ih => intro s; simp only [List.foldl_cons, List.map_cons, List.sum_cons]; rw [ih]; omega
theorem sumS_eq (l : List S132) : sumS l = (l.map shV).sum := by unfold sumS; rw [sumS_from]; omega
theorem sum_set (x y : S132) : ∀ (l : List S132) (i : Nat), l[i]? = some y → ((l.set i x).map shV).sum = (l.map shV).sum - shV y + shV x
  | [], i, h => by simp at h
  | z :: l, 0, h => by
    simp only [List.getElem?_cons_zero, Option.some.injEq] at h
    subst h
    simp only [List.set_cons_zero, List.map_cons, List.sum_cons]
    omega
  | z :: l, i + 1, h => by
    simp only [List.getElem?_cons_succ] at h
    have := sum_set x y l i h
    simp only [List.set_cons_succ, List.map_cons, List.sum_cons]
    omega
theorem sumS_set {l : List S132} {i : Nat} {y : S132} (x : S132) (h : l[i]? = some y) : sumS (l.set i x) = sumS l - shV y + shV x := by
  rw [sumS_eq, sumS_eq]; exact sum_set x y l i h
theorem shV_le : ∀ (l : List S132) (i : Nat) (y : S132), l[i]? = some y → shV y ≤ (l.map shV).sum ∧ 0 ≤ (l.map shV).sum
  | [], i, y, h => by simp at h
  | z :: l, i, y, h => by
    have hz := shV_range z
    have h0 : ∀ l : List S132, 0 ≤ (l.map shV).sum := by
      intro l
      induction l with
      | nil => simp
      | cons x l ih => have := shV_range x; simp only [List.map_cons, List.sum_cons]; omega
    have hl := h0 l
    simp only [List.map_cons, List.sum_cons]
    cases i with
    | zero => simp only [List.getElem?_cons_zero, Option.some.injEq] at h; subst h; omega
    | succ i => simp only [List.getElem?_cons_succ] at h; have := (shV_le l i y h).1; omega
theorem shB_iff (l : List S132) : shB l = true ↔ (∀ i, i < l.length → shP l i = true) ∧ (l.length : Int) ≤ 6 ∧ sumS l ≤ 100 := by
  unfold shB
  simp only [Bool.and_eq_true, allN_iff, decide_eq_true_eq]
theorem shB_at {l : List S132} {i : Nat} {y : S132} (h : shB l = true) (hy : l[i]? = some y) : 0 ≤ y.f1 ∧ y.f1 ≤ 100 ∧ shV y = y.f1 := by
  obtain ⟨h1, h2, h3⟩ := (shB_iff l).1 h
  have hp := h1 i (lt_of_get hy)
  simp only [shP, rd_at_T132 hy, Bool.and_eq_true, Bool.not_eq_true', decide_eq_false_iff_not] at hp
  have hs := (shV_le l i y hy).1
  rw [← sumS_eq] at hs
  have h0 : 0 ≤ y.f1 := by have := hp.1; omega
  unfold shV at hs ⊢
  split at hs <;> split at hs <;> (simp_all; try omega)
theorem idxV_f0 (a : Int) : ∀ (l : List S132) (i : Int), idxV (fun x => x.f0 == a) l i = idxV (fun y : Int => y == a) (l.map fun x => x.f0) i
  | [], i => rfl
  | x :: l, i => by
    simp only [idxV, List.map_cons]
    rw [idxV_f0 a l]
theorem set_f0 {l : List S132} {i : Nat} {y x : S132} (h : l[i]? = some y) (e : x.f0 = y.f0) : (l.set i x).map (fun x => x.f0) = l.map (fun x => x.f0) := by
  apply List.ext_getElem?
  intro j
  simp only [List.getElem?_map, List.getElem?_set]
  split
  · rename_i c
    subst c
    have hl := lt_of_get h
    have hx : l[i] = y := by
      have h2 := List.getElem?_eq_getElem hl
      rw [h] at h2
      exact (Option.some.inj h2).symm
    simp [hl, hx, e]
  · rfl
theorem idxV_set {l : List S132} {i : Nat} {y x : S132} (h : l[i]? = some y) (e : x.f0 = y.f0) (a : Int) : idxV (fun x : S132 => x.f0 == a) (l.set i x) 0 = idxV (fun x : S132 => x.f0 == a) l 0 := by
  rw [idxV_f0, idxV_f0, set_f0 h e]
theorem rd_set {l : List S132} {i : Nat} {y : S132} (x : S132) (h : l[i]? = some y) (j : Nat) : rd_T132 (l.set i x) (j : Int) = if i = j then x else rd_T132 l (j : Int) := by
  have hl := lt_of_get h
  by_cases c : i = j
  · subst c
    rw [if_pos rfl]
    exact rd_at_T132 (by rw [List.getElem?_set]; simp [hl])
  · rw [if_neg c]
    simp only [rd_T132, Int.toNat_natCast, List.getD_eq_getElem?_getD, List.getElem?_set, if_neg c]
theorem shB_set {l : List S132} {i : Nat} {y x : S132} (h : shB l = true) (hy : l[i]? = some y) (e : x.f0 = y.f0) (h0 : 0 ≤ x.f1) (hs : sumS (l.set i x) ≤ 100) : shB (l.set i x) = true := by
  obtain ⟨h1, h2, h3⟩ := (shB_iff l).1 h
  refine (shB_iff _).2 ⟨?_, by rw [List.length_set]; exact h2, hs⟩
  intro j hj
  rw [List.length_set] at hj
  have hp := h1 j hj
  have er : ∀ j : Nat, (rd_T132 (l.set i x) (j : Int)).f0 = (rd_T132 l (j : Int)).f0 := by
    intro j
    rw [rd_set x hy j]
    split
    · rename_i c; subst c; rw [rd_at_T132 hy]; exact e
    · rfl
  unfold shP at hp ⊢
  rw [er, er]
  simp only [Bool.and_eq_true, Bool.not_eq_true', decide_eq_false_iff_not] at hp ⊢
  refine ⟨?_, hp.2⟩
  rw [rd_set x hy j]
  split
  · omega
  · exact hp.1
theorem idxV_hit (a : Int) (l : List S132) (h : ¬ idxV (fun x : S132 => x.f0 == a) l 0 < 0) : ∃ (j : Nat) (y : S132), idxV (fun x : S132 => x.f0 == a) l 0 = (j : Int) ∧ l[j]? = some y := by
  rcases idxV_spec (fun x : S132 => x.f0 == a) l with ⟨h1, _⟩ | ⟨j, x, h1, h2, _⟩
  · omega
  · exact ⟨j, x, h1, h2⟩
theorem shV_of {x : S132} (h0 : 0 ≤ x.f1) (h1 : x.f1 ≤ 100) : shV x = x.f1 := by
  unfold shV
  split <;> split <;> omega
theorem take_law (l : List S132) (a n : Int) (h : (takeV l a n).2 = true) : shB l = true ∧ shB (takeV l a n).1 = true ∧ 0 ≤ n ∧ n ≤ 100 ∧ sumS (takeV l a n).1 + n = sumS l ∧ leftV (takeV l a n).1 a + n = leftV l a ∧ 0 ≤ leftV l a ∧ leftV l a ≤ 100 := by
  unfold takeV at h ⊢
  cases hb : shB l with
  | false => simp [hb] at h
  | true =>
    simp only [hb, if_true] at h ⊢
    by_cases c1 : n < 0
    · simp [c1] at h
    by_cases c2 : idxV (fun x : S132 => x.f0 == a) l 0 < 0
    · simp [c1, c2] at h
    obtain ⟨j, y, e, hy⟩ := idxV_hit a l c2
    by_cases c3 : (rd_T132 l (idxV (fun x => x.f0 == a) l 0)).f1 < n
    · simp [c1, c2, c3] at h
    simp only [if_neg c1, if_neg c2, if_neg c3]
    rw [e] at c2 c3 ⊢
    rw [rd_at_T132 hy] at c3 ⊢
    obtain ⟨y0, y1, ys⟩ := shB_at hb hy
    have ew : wrap64 (y.f1 - n) = y.f1 - n := wr (by omega) (by omega)
    simp only [ew, Int.toNat_natCast]
    have hv : shV (⟨y.f0, y.f1 - n⟩ : S132) = y.f1 - n := shV_of (x := ⟨y.f0, y.f1 - n⟩) (by dsimp only; omega) (by dsimp only; omega)
    have hs := sumS_set (⟨y.f0, y.f1 - n⟩ : S132) hy
    have hle := ((shB_iff l).1 hb).2.2
    refine ⟨trivial, shB_set hb hy rfl (by dsimp only; omega) (by omega), by omega, by omega, by omega, ?_⟩
    unfold leftV
    rw [idxV_set (x := ⟨y.f0, y.f1 - n⟩) hy rfl, e, if_neg (by omega), if_neg (by omega), rd_set _ hy, if_pos rfl, rd_at_T132 hy]
    dsimp only
    omega
theorem move_law (l : List S132) (a b n : Int) (h : (moveV l a b n).2 = true) : shB (moveV l a b n).1 = true ∧ sumS (moveV l a b n).1 = sumS l := by
  unfold moveV at h ⊢
  cases ht : (takeV l a n).2 with
  | false => simp [ht] at h
  | true =>
    obtain ⟨hb, hb2, n0, n1, hs, _, _, _⟩ := take_law l a n ht
    simp only [ht, if_true] at h ⊢
    by_cases c2 : idxV (fun x : S132 => x.f0 == b) l 0 < 0
    · simp [c2] at h
    obtain ⟨j, y0, e, hy0⟩ := idxV_hit b l c2
    have hj := lt_of_get hy0
    rw [← takeV_length l a n] at hj
    obtain ⟨y, hy⟩ := getAt hj
    simp only [if_neg c2]
    rw [e, rd_at_T132 hy]
    obtain ⟨p0, p1, ps⟩ := shB_at hb2 hy
    have hle := ((shB_iff l).1 hb).2.2
    have hy2 := (shV_le _ j y hy).1
    rw [← sumS_eq] at hy2
    have ew : wrap64 (y.f1 + n) = y.f1 + n := wr (by omega) (by omega)
    simp only [ew, Int.toNat_natCast]
    have hv : shV (⟨y.f0, y.f1 + n⟩ : S132) = y.f1 + n := shV_of (x := ⟨y.f0, y.f1 + n⟩) (by dsimp only; omega) (by dsimp only; omega)
    have hs2 := sumS_set (⟨y.f0, y.f1 + n⟩ : S132) hy
    exact ⟨shB_set (x := ⟨y.f0, y.f1 + n⟩) hb2 hy rfl (by dsimp only; omega) (by omega), by omega⟩
def shareG (t : Int) (l : List Int) (j : Nat) : S132 := ⟨rd l (j : Int), shareAt t (l.length : Int) (j : Int)⟩
theorem splitGo_ok (t : Int) (l : List Int) : ∀ f i out, (splitGo t l f i out).2 = true → (splitGo t l f i out).1 = out ++ (List.range' i f).map (shareG t l) ∧ ∀ j, i ≤ j → j < i + f → stopB l j = false
  | 0, i, out, h => ⟨by simp [splitGo], fun j h1 h2 => by omega⟩
  | f + 1, i, out, h => by
    unfold splitGo at h ⊢
    cases c : stopB l i with
    | true => simp [c] at h
    | false =>
      simp only [c, Bool.false_eq_true, if_false] at h ⊢
      obtain ⟨h1, h2⟩ := splitGo_ok t l f (i + 1) _ h
      refine ⟨?_, fun j hj1 hj2 => ?_⟩
      · rw [h1, List.range'_succ, List.map_cons, List.append_assoc]
        rfl
      · by_cases hij : j = i
        · subst hij; exact c
        · exact h2 j (by omega) (by omega)
theorem shareAt_eq (t n i : Int) (h0 : 0 ≤ t) (h1 : t ≤ 100) (hn : 1 ≤ n) : shareAt t n i = t / n + (if i < t % n then 1 else 0) ∧ 0 ≤ t / n ∧ t / n ≤ 100 := by
  have a0 : 0 ≤ t / n := Int.ediv_nonneg h0 (by omega)
  have a1 : t / n ≤ t := Int.ediv_le_self n h0
  refine ⟨?_, a0, by omega⟩
  unfold shareAt
  rw [Int.tdiv_eq_ediv_of_nonneg h0, Int.tmod_eq_emod_of_nonneg h0, wr (x := t / n) (by omega) (by omega), wr (x := t / n + 1) (by omega) (by omega)]
  split <;> omega
theorem shareG_sum (t : Int) (l : List Int) (h0 : 0 ≤ t) (h1 : t ≤ 100) (hn : 1 ≤ l.length) (hn2 : l.length ≤ 6) : sumS ((List.range' 0 l.length).map (shareG t l)) = t := by
  rw [sumS_eq, List.map_map]
  have hv : ∀ j : Nat, (shV ∘ shareG t l) j = t / (l.length : Int) + (if (j : Int) < t % (l.length : Int) then 1 else 0) := by
    intro j
    obtain ⟨e, e0, e1⟩ := shareAt_eq t (l.length : Int) (j : Int) h0 h1 (by omega)
    have hs : 0 ≤ (shareG t l j).f1 ∧ (shareG t l j).f1 ≤ 101 := by
      show 0 ≤ shareAt t (l.length : Int) (j : Int) ∧ shareAt t (l.length : Int) (j : Int) ≤ 101
      rw [e]; split <;> omega
    have : shV (shareG t l j) = (shareG t l j).f1 := by unfold shV; split <;> split <;> omega
    show shV (shareG t l j) = _
    rw [this]
    exact e
  rw [show (shV ∘ shareG t l) = fun j : Nat => t / (l.length : Int) + (if (j : Int) < t % (l.length : Int) then 1 else 0) from funext hv]
  have hc : l.length = 1 ∨ l.length = 2 ∨ l.length = 3 ∨ l.length = 4 ∨ l.length = 5 ∨ l.length = 6 := by omega
  rcases hc with e | e | e | e | e | e <;> rw [e] <;> simp only [List.range', List.map_cons, List.map_nil, List.sum_cons, List.sum_nil, Nat.zero_add, Nat.reduceAdd] <;> (repeat' split) <;> omega
theorem split_law (t : Int) (l : List Int) (h : (splitV t l).2 = true) : shB (splitV t l).1 = true ∧ sumS (splitV t l).1 = t ∧ (splitV t l).1.length = l.length := by
  unfold splitV at h ⊢
  cases c : (inB t 0 100 && inB (l.length : Int) 1 6) with
  | false => simp [c] at h
  | true =>
    simp only [c, if_true] at h ⊢
    simp only [Bool.and_eq_true, inB_iff] at c
    obtain ⟨h1, h2⟩ := splitGo_ok t l l.length 0 [] h
    rw [h1, List.nil_append]
    have hs := shareG_sum t l c.1.1 c.1.2 (by omega) (by omega)
    refine ⟨(shB_iff _).2 ⟨?_, by simp; omega, by omega⟩, hs, by simp⟩
    intro j hj
    have hj : j < l.length := by simpa using hj
    have at_ : ∀ j : Nat, j < l.length → rd_T132 ((List.range' 0 l.length).map (shareG t l)) (j : Int) = shareG t l j := by
      intro j hj
      refine rd_at_T132 ?_
      simp [hj]
    obtain ⟨e, e0, e1⟩ := shareAt_eq t (l.length : Int) (j : Int) c.1.1 c.1.2 (by omega)
    unfold shP
    rw [at_ j hj, at_ (j - 1) (by omega)]
    simp only [Bool.and_eq_true, Bool.not_eq_true', decide_eq_false_iff_not, Bool.or_eq_true, decide_eq_true_eq]
    constructor
    · show ¬ shareAt t (l.length : Int) (j : Int) < 0
      rw [e]; split <;> omega
    · by_cases cj : j = 0
      · exact Or.inl cj
      · right
        have := h2 j (by omega) (by omega)
        simp only [stopB, Bool.and_eq_false_iff, Bool.not_eq_false', decide_eq_true_eq, decide_eq_false_iff_not] at this
        show rd l ((j - 1 : Nat) : Int) < rd l (j : Int)
        omega
theorem FnQuotas : laws_FnQuotas.Pure := by
  intro l h1 h2
  refine Ev.rounds ?_
  unfold laws_FnQuotas.f laws_big.f
  simp only [Option.bind_some, decide_eq_true_eq]
  by_cases c : (l.length : Int) > 1048576
  · simp only [if_pos c]; exact Ev.now _
  simp only [if_neg c]
  have hl : l.length ≤ 1048576 := by omega
  obtain ⟨t, p, hd, hp⟩ := spec_DrawSplitQuota_ev l hl
  obtain ⟨v, a, n, hv, hvl⟩ := spec_DrawTakeShare_ev l hl
  obtain ⟨m, a', b', n', hm, hml⟩ := spec_DrawMoveShare_ev l hl
  have hj1 : Ev (fun k => laws_FnQuotas.j1 k l false) true := by
    refine Ev.succ ?_
    simp only [laws_FnQuotas.j1, Bool.false_eq_true, if_false]
    refine Ev.bind hm ?_
    refine Ev.bind (impl_MoveShare_ev m a' b' n' hml) ?_
    cases hc : (moveV m a' b' n').2 with
    | false => simp only [Bool.false_eq_true, if_false]; exact Ev.now _
    | true =>
      obtain ⟨q1, q2⟩ := move_law m a' b' n' hc
      have hz : (moveV m a' b' n').1.length ≤ 1048576 := by rw [moveV_length]; exact hml
      simp only [if_true]
      refine Ev.bind (impl_AreShares_ev _ hz) ?_
      simp only [q1, if_true]
      refine Ev.bind (impl_SumShares_ev _ hz) ?_
      refine Ev.bind (impl_SumShares_ev _ hml) ?_
      simp only [q2, beq_self_eq_true]
      exact Ev.now _
  have hj0 : Ev (fun k => laws_FnQuotas.j0 k l false) true := by
    refine Ev.succ ?_
    simp only [laws_FnQuotas.j0, Bool.false_eq_true, if_false]
    refine Ev.bind hv ?_
    refine Ev.bind (impl_TakeShare_ev v a n hvl) ?_
    refine Ev.bind (impl_SumShares_ev v hvl) ?_
    refine Ev.bind (spec_SumShares_ev v hvl) ?_
    simp only [if_true]
    cases hc : (takeV v a n).2 with
    | false => simp only [Bool.false_eq_true, if_false]; exact hj1
    | true =>
      obtain ⟨q0, q1, n0, n1, q2, q3, q4, q5⟩ := take_law v a n hc
      have hz : (takeV v a n).1.length ≤ 1048576 := by rw [takeV_length]; exact hvl
      have hle := ((shB_iff v).1 q0).2.2
      have w0 : 0 ≤ sumS v := by
        have h0 : ∀ l : List S132, 0 ≤ (l.map shV).sum := by
          intro l
          induction l with
          | nil => simp
          | cons x l ih => have := shV_range x; simp only [List.map_cons, List.sum_cons]; omega
        rw [sumS_eq]; exact h0 v
      have e1 : wrap64 (sumS (takeV v a n).1 + n) = sumS v := by rw [q2]; exact wr (by omega) (by omega)
      have e2 : wrap64 (leftV (takeV v a n).1 a + n) = leftV v a := by rw [q3]; exact wr (by omega) (by omega)
      simp only [if_true]
      refine Ev.bind (impl_AreShares_ev _ hz) ?_
      simp only [q1, if_true]
      refine Ev.bind (impl_SumShares_ev _ hz) ?_
      refine Ev.bind (impl_SumShares_ev _ hvl) ?_
      simp only [e1, if_true, impl_LeftAt_ev, Option.bind_some, e2, bne_self_eq_false]
      exact hj1
  refine Ev.bind hd ?_
  refine Ev.bind (impl_SplitQuota_ev t p (by omega)) ?_
  cases hc : (splitV t p).2 with
  | false => simp only [Bool.false_eq_true, if_false]; exact hj0
  | true =>
    obtain ⟨q1, q2, q3⟩ := split_law t p hc
    have hz : (splitV t p).1.length ≤ 1048576 := by omega
    simp only [if_true]
    refine Ev.bind (impl_AreShares_ev _ hz) ?_
    simp only [q1, if_true]
    refine Ev.bind (impl_SumShares_ev _ hz) ?_
    simp only [q2, if_true, q3, bne_self_eq_false]
    exact hj0

end Go.Proofs.Ytoncnbcgpflhiaa.Pure
