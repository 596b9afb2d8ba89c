/- The law FnSavedAnswers answers true for all arguments, over numbers and lists alone: what each function computes, and that program and reference compute the same. No condition. -/
import Derived.Lib.RowBridge
import Derived.Test.YtomgfohmjpcocaaGreatQFnSavedAnswersx0
import Derived.Test.YtomgfohmjpcocaaGreatL
namespace Go.Proofs.YtomgfohmjpcocaaGreat.Pure
open Go.RowKit Go.Proofs.YtomgfohmjpcocaaGreat.QFnSavedAnswers Go.Proofs.YtomgfohmjpcocaaGreatL Go.Proofs.YtomgfohmjpcocaaGreatW.PrintWords Go.Proofs.YtomgfohmjpcocaaGreatW.PrintLast
set_option linter.unusedVariables false
set_option linter.unusedSimpArgs false

theorem eta58 (x : S58) : (⟨x.f0, x.f1, x.f2, x.f3⟩ : S58) = x := by cases x; rfl
mutual
def n58 : S58 → Nat
  | ⟨x0, x1, x2, x3⟩ => x3.length + nL58 x3
def nL58 : List S58 → Nat
  | [] => 0
  | x :: l => n58 x + nL58 l
end
theorem nL58_eq : ∀ l : List S58, nL58 l = (l.map n58).sum
  | [] => by simp [nL58]
  | x :: l => by simp [nL58, nL58_eq l]
theorem n58_f (x : S58) : n58 x = x.f3.length + (x.f3.map n58).sum := by
  cases x
  simp only [n58, nL58_eq]
def n60 (x : S60) : Nat := n58 x.f3
theorem rd_at_T100 {l : List S100} {i : Nat} {x : S100} (h : l[i]? = some x) : rd_T100 l (i : Int) = x := getD_nat l _ i x h
theorem rd_at_T87 {l : List S87} {i : Nat} {x : S87} (h : l[i]? = some x) : rd_T87 l (i : Int) = x := getD_nat l _ i x h
theorem rd_at_T58 {l : List S58} {i : Nat} {x : S58} (h : l[i]? = some x) : rd_T58 l (i : Int) = x := getD_nat l _ i x h
theorem rd_at_T60 {l : List S60} {i : Nat} {x : S60} (h : l[i]? = some x) : rd_T60 l (i : Int) = x := getD_nat l _ i x h
theorem rd_at_T34 {l : List S34} {i : Nat} {x : S34} (h : l[i]? = some x) : rd_T34 l (i : Int) = x := getD_nat l _ i x h
def eqT100 (x y : S100) : Bool := (x.f0 == y.f0) && ((x.f1 == y.f1))
def eqT87 (x y : S87) : Bool := (x.f0 == y.f0) && ((x.f1 == y.f1) && ((x.f2 == y.f2) && ((x.f3 == y.f3) && ((x.f4 == y.f4) && ((x.f5 == y.f5))))))
def eqT30 (x y : S30) : Bool := (x.f0 == y.f0) && ((x.f1 == y.f1) && ((x.f2 == y.f2) && ((x.f3 == y.f3) && ((x.f4 == y.f4) && ((x.f5 == y.f5))))))
def eqT34 (x y : S34) : Bool := (x.f0.f0 == y.f0.f0) && ((x.f0.f1 == y.f0.f1) && ((x.f0.f2 == y.f0.f2) && ((x.f0.f3 == y.f0.f3) && ((x.f0.f4 == y.f0.f4) && ((x.f0.f5 == y.f0.f5) && ((x.f1 == y.f1) && ((x.f2 == y.f2))))))))

-- spec_l1New
theorem spec_l1New_ev (l : List Int) (h : l.length ≤ 1048576) : ∃ x, Ev (fun k => spec_l1New.f k l) (l, 0, x) := by
  have key : ∀ (n i : Nat) (a : Int), i + n = l.length → ∃ x, Ev (fun k => spec_l1New.l0 k l a (i : Int)) (l, 0, x) := by
    intro n
    induction n with
    | zero =>
      intro i a e
      obtain rfl : i = l.length := by omega
      refine ⟨a, Ev.succ ?_⟩
      simp only [spec_l1New.l0, Int.lt_irrefl, if_false]
      exact Ev.now _
    | succ n ih =>
      intro i a e
      have hi : i < l.length := by omega
      have h1 : ((i : Int) < (l.length : Int)) = True := eq_true (by omega)
      have h2 : (0 ≤ (i : Int)) = True := eq_true (by omega)
      by_cases c : (i : Int) < 4000
      · obtain ⟨x, hx⟩ := ih (i + 1) (Go.bits .and .i64 (wrap64 ((wrap64 ((wrap64 (a * 137)) + (wrap64 (rd l (i : Int))))) + 11)) 1073741823) (by omega)
        refine ⟨x, Ev.succ ?_⟩
        simp only [spec_l1New.l0, h1, h2, if_true, if_pos c, wr1 hi (by omega)]
        exact hx
      · refine ⟨a, Ev.succ ?_⟩
        simp only [spec_l1New.l0, h1, if_true, if_neg c]
        exact Ev.now _
  exact key l.length 0 _ (by omega)

-- spec_l1Byte
/-- What a mask of eight bits leaves. -/
theorem and255 (a : Int) : 0 ≤ Go.bits .and .i64 a 255 ∧ Go.bits .and .i64 a 255 ≤ 255 := by
  show 0 ≤ IntKind.i64.wrap ((BitVec.ofInt 64 a &&& BitVec.ofInt 64 255).toNat : Int) ∧ IntKind.i64.wrap ((BitVec.ofInt 64 a &&& BitVec.ofInt 64 255).toNat : Int) ≤ 255
  have e : (BitVec.ofInt 64 255).toNat = 255 := by decide
  have h : (BitVec.ofInt 64 a &&& BitVec.ofInt 64 255).toNat ≤ 255 := by rw [BitVec.toNat_and, e]; exact Nat.and_le_right
  generalize (BitVec.ofInt 64 a &&& BitVec.ofInt 64 255).toNat = m at h ⊢
  have hw : IntKind.i64.wrap (m : Int) = (m : Int) := by
    rw [i64_w]
    exact wr (by omega) (by omega)
  rw [hw]
  omega
theorem spec_l1Byte_ok (s : List Int) (i h : Int) (h0 : 0 ≤ i) (h1 : i ≤ s.length) (hs : s.length ≤ 1048576) : ∃ x j h', spec_l1Byte.f s i h = some (x, j, h') ∧ 0 ≤ x ∧ x ≤ 255 ∧ 0 ≤ j ∧ j ≤ s.length := by
  unfold spec_l1Byte.f
  by_cases c : i < (s.length : Int)
  · rw [if_pos c, if_pos h0]
    have e : wrap64 (i + 1) = i + 1 := wr (by omega) (by omega)
    exact ⟨_, _, _, rfl, (and255 _).1, (and255 _).2, by omega, by omega⟩
  · rw [if_neg c]
    exact ⟨_, _, _, rfl, (and255 _).1, (and255 _).2, h0, h1⟩

-- spec_l1Below
theorem spec_l1Below_ok (s : List Int) (i h : Int) (h0 : 0 ≤ i) (h1 : i ≤ s.length) (hs : s.length ≤ 1048576) (n : Int) (n0 : 0 < n) (n1 : n ≤ 256) : ∃ x j h', spec_l1Below.f s i h n = some (x, j, h') ∧ 0 ≤ x ∧ x < n ∧ 0 ≤ j ∧ j ≤ s.length := by
  obtain ⟨x, j, h', e, x0, x1, j0, j1⟩ := spec_l1Byte_ok s i h h0 h1 hs
  unfold spec_l1Below.f
  rw [if_neg (by omega), if_pos n1, e, Option.bind_some, if_neg (by omega)]
  exact ⟨_, _, _, rfl, Int.tmod_nonneg _ x0, Int.tmod_lt_of_pos _ n0, j0, j1⟩

-- spec_l14Pairs
theorem spec_l14Pairs_ev (s : List Int) (i h : Int) (h0 : 0 ≤ i) (h1 : i ≤ s.length) (hs : s.length ≤ 1048576) : ∃ (l : List S100) (j g : Int), Ev (fun k => spec_l14Pairs.f k s i h) (l, j, g) ∧ l.length ≤ 3 ∧ 0 ≤ j ∧ j ≤ s.length := by
  have key : ∀ (m : Nat) (l : List S100) (i h : Int), 0 ≤ i → i ≤ s.length → l.length + m ≤ 3 → ∃ (l' : List S100) (j g : Int), Ev (fun k => spec_l14Pairs.l0 k s i h l (m : Int)) (l', j, g) ∧ l'.length ≤ 3 ∧ 0 ≤ j ∧ j ≤ s.length := by
    intro m
    induction m with
    | zero =>
      intro l i h i0 i1 hl
      refine ⟨l, i, h, Ev.succ ?_, by omega, i0, i1⟩
      simp only [spec_l14Pairs.l0]
      exact Ev.neg (by omega) (Ev.now _)
    | succ m ih =>
      intro l i h i0 i1 hl
      obtain ⟨a, i2, g2, e2, a0, a1, i20, i21⟩ := spec_l1Below_ok s i h i0 i1 hs 5 (by omega) (by omega)
      have hw2 : wrap64 (1 + a) = 1 + a := wr (by omega) (by omega)
      obtain ⟨b, i3, g3, e3, _, _, i30, i31⟩ := spec_l1Below_ok s i2 g2 i20 i21 hs (1 + a) (by omega) (by omega)
      obtain ⟨l', j, g, e', hl', hj⟩ := ih (l ++ [⟨1 + a, b⟩]) i3 g3 i30 i31 (by rw [List.length_append, List.length_singleton]; omega)
      refine ⟨l', j, g, Ev.succ ?_, hl', hj⟩
      have hp : (((m + 1 : Nat) : Int) > 0) = True := eq_true (by omega)
      have hw : wrap64 (((m + 1 : Nat) : Int) - 1) = (m : Int) := by rw [wr (by omega) (by omega)]; omega
      have hl2 : (l.length < 8796093022208) = True := eq_true (by omega)
      simp only [spec_l14Pairs.l0, hp, if_true, hw, e2, hw2, e3, Option.bind_some, hl2]
      exact e'
  obtain ⟨n, i2, g2, e2, n0, n1, i20, i21⟩ := spec_l1Below_ok s i h h0 h1 hs 4 (by omega) (by omega)
  obtain ⟨m, rfl⟩ : ∃ m : Nat, n = (m : Int) := ⟨n.toNat, by omega⟩
  obtain ⟨l, j, g, e, hl, hj⟩ := key m [] i2 g2 i20 i21 (by simp; omega)
  refine ⟨l, j, g, ?_, hl, hj⟩
  unfold spec_l14Pairs.f
  simp only [e2, Option.bind_some]
  exact e

-- spec_l5Name
theorem spec_l5Name_ok (s : List Int) (i h : Int) (h0 : 0 ≤ i) (h1 : i ≤ s.length) (hs : s.length ≤ 1048576) (a : Int) : ∃ x j h', spec_l5Name.f s i h a = some (x, j, h') ∧ 0 ≤ j ∧ j ≤ s.length := by
  obtain ⟨x, j, g, e, _, _, j0, j1⟩ := spec_l1Below_ok s i h h0 h1 hs 3 (by omega) (by omega)
  unfold spec_l5Name.f
  rw [e, Option.bind_some]
  exact ⟨_, _, _, rfl, j0, j1⟩

-- spec_l6Fact
theorem spec_l6Fact_ok (s : List Int) (i h : Int) (h0 : 0 ≤ i) (h1 : i ≤ s.length) (hs : s.length ≤ 1048576) : ∃ (x : S87) (j g : Int), spec_l6Fact.f s i h = some (x.f0, x.f1, x.f2, x.f3, x.f4, x.f5, j, g) ∧ 0 ≤ j ∧ j ≤ s.length := by
  obtain ⟨a, i1, g1, e1, _, _, i10, i11⟩ := spec_l1Below_ok s i h h0 h1 hs 4 (by omega) (by omega)
  obtain ⟨b, i2, g2, e2, _, _, i20, i21⟩ := spec_l1Below_ok s i1 g1 i10 i11 hs 3 (by omega) (by omega)
  obtain ⟨c, i3, g3, e3, _, _, i30, i31⟩ := spec_l1Below_ok s i2 g2 i20 i21 hs 20 (by omega) (by omega)
  obtain ⟨d, i4, g4, e4, _, _, i40, i41⟩ := spec_l1Below_ok s i3 g3 i30 i31 hs 30 (by omega) (by omega)
  obtain ⟨p, i5, g5, e5, i50, i51⟩ := spec_l5Name_ok s i4 g4 i40 i41 hs 1
  obtain ⟨q, i6, g6, e6, i60, i61⟩ := spec_l5Name_ok s i4 g4 i40 i41 hs 2
  obtain ⟨r, i7, g7, e7, i70, i71⟩ := spec_l5Name_ok s i4 g4 i40 i41 hs 3
  obtain ⟨_, i8, g8, e8, _, _, i80, i81⟩ := spec_l1Below_ok s i5 g5 i50 i51 hs 4 (by omega) (by omega)
  obtain ⟨_, i9, g9, e9, i90, i91⟩ := spec_l5Name_ok s i5 g5 i50 i51 hs 2
  obtain ⟨_, j1, k1, f1, _, _, j10, j11⟩ := spec_l1Below_ok s i6 g6 i60 i61 hs 4 (by omega) (by omega)
  obtain ⟨_, j2, k2, f2, _, _, j20, j21⟩ := spec_l1Below_ok s i7 g7 i70 i71 hs 4 (by omega) (by omega)
  unfold spec_l6Fact.f
  simp only [e1, e2, e3, e4, e5, e6, e7, e8, e9, f1, f2, Option.bind_some]
  by_cases c1 : wrap64 (1 + a) = 1
  · exact ⟨⟨_, _, _, _, _, _⟩, i8, g8, if_pos c1, i80, i81⟩
  rw [if_neg c1]
  by_cases c2 : wrap64 (1 + a) = 2
  · exact ⟨⟨_, _, _, _, _, _⟩, i9, g9, if_pos c2, i90, i91⟩
  rw [if_neg c2]
  by_cases c3 : wrap64 (1 + a) = 3
  · exact ⟨⟨_, _, _, _, _, _⟩, j1, k1, if_pos c3, j10, j11⟩
  rw [if_neg c3]
  exact ⟨⟨_, _, _, _, _, _⟩, j2, k2, rfl, j20, j21⟩

-- spec_l1In
theorem spec_l1In_eq (a b c : Int) : spec_l1In.f a b c = some (inB a b c) := by
  unfold spec_l1In.f
  rw [ite_dand]; rfl

-- spec_IsName
theorem spec_IsName_eq (a : Int) : spec_IsName.f a = some (nameB a) := by
  unfold spec_IsName.f
  rw [spec_l1In_eq]; rfl

-- spec_HasKind
theorem spec_HasKind_eq (a b : Int) : spec_HasKind.f a b = some (kindB a b) := by
  unfold spec_HasKind.f kindB
  rw [spec_IsName_eq, Option.bind_some]
  cases h : nameB a with
  | true => simp only [if_true, name_div h, Bool.true_and]; rfl
  | false => rfl

-- spec_IsTime
theorem spec_IsTime_eq (a : Int) : spec_IsTime.f a = some (timeB a) := by
  unfold spec_IsTime.f
  rw [spec_l1In_eq]; rfl

-- spec_IsFact
/-- Each element is in order (p), and with the one ahead of it (q). -/
def adjT {α : Type} (p : α → Bool) (q : α → α → Bool) : α → List α → Bool
  | _, [] => true
  | y, x :: t => p x && (q y x && adjT p q x t)
def adjB {α : Type} (p : α → Bool) (q : α → α → Bool) : List α → Bool
  | [] => true
  | x :: t => p x && adjT p q x t
theorem ev_adj {α : Type} (l : List α) (p : α → Bool) (q : α → α → Bool) (fin : Bool) (L : Nat → Int → Option Bool) (hend : Ev (fun k => L k (l.length : Int)) fin)
    (hs0 : ∀ x r, l[0]? = some x → Ev (fun k => L k ((0 + 1 : Nat) : Int)) r → Ev (fun k => L k 0) (p x && r))
    (hs : ∀ (i : Nat) y x r, l[i]? = some y → l[i + 1]? = some x → Ev (fun k => L k ((i + 1 + 1 : Nat) : Int)) r → Ev (fun k => L k ((i + 1 : Nat) : Int)) (p x && (q y x && r))) : Ev (fun k => L k 0) (adjB p q l && fin) := by
  have key : ∀ (d i : Nat) (y : α), l[i]? = some y → l.length - (i + 1) = d → Ev (fun k => L k ((i + 1 : Nat) : Int)) (adjT p q y (l.drop (i + 1)) && fin) := by
    intro d
    induction d with
    | zero =>
      intro i y hy hd
      have hi := lt_of_get hy
      have e : i + 1 = l.length := by omega
      rw [e, List.drop_length]
      exact hend
    | succ d ih =>
      intro i y hy hd
      have hi : i + 1 < l.length := by omega
      have hx : l[i + 1]? = some l[i + 1] := List.getElem?_eq_getElem hi
      have h := hs i y l[i + 1] _ hy hx (ih (i + 1) l[i + 1] hx (by omega))
      rw [List.drop_eq_getElem_cons hi]
      simp only [adjT, Bool.and_assoc]
      exact h
  cases l with
  | nil => exact hend
  | cons x t =>
    have h := hs0 x _ rfl (key _ 0 x rfl rfl)
    simp only [adjB, Bool.and_assoc]
    exact h
theorem wrp {i n : Nat} (h : i + 1 < n) (hn : n ≤ 9223372036854775807) : wrap64 (((i + 1 : Nat) : Int) - 1) = (i : Int) := by rw [wr (by omega) (by omega)]; omega
def claimB (x : S87) : Bool := if x.f0 = 1 then kindB x.f1 1 && inB x.f2 0 5 else if x.f0 = 2 then kindB x.f1 1 && kindB x.f2 2 else if x.f0 = 3 then kindB x.f1 2 && inB x.f2 0 3 else if x.f0 = 4 then kindB x.f1 3 && inB x.f2 0 3 else false
def factB (x : S87) : Bool := claimB x && (inB x.f3 0 9 && (timeB x.f4 && (timeB x.f5 && decide (x.f4 ≤ x.f5))))
/-- A fact stands ahead of another. -/
def factQ (y x : S87) : Bool := if y.f0 = x.f0 then if y.f1 = x.f1 then if y.f2 = x.f2 then decide (y.f3 < x.f3) else decide (y.f2 < x.f2) else decide (y.f1 < x.f1) else decide (y.f0 < x.f0)
def storeB (l : List S87) : Bool := adjB factB factQ l && decide ((l.length : Int) ≤ 30)
theorem spec_IsFact_eq (x : S87) : spec_IsFact.f x.f0 x.f1 x.f2 x.f3 x.f4 x.f5 = some (factB x) := by
  unfold spec_IsFact.f factB claimB
  simp only [spec_HasKind_eq, spec_l1In_eq, spec_IsTime_eq, Option.bind_some, ite_and]
  (repeat' split) <;> first | rfl | simp only [Bool.and_assoc, Bool.false_and]

-- spec_FactBefore
theorem spec_FactBefore_eq (y x : S87) : spec_FactBefore.f y.f0 y.f1 y.f2 y.f3 y.f4 y.f5 x.f0 x.f1 x.f2 x.f3 x.f4 x.f5 = some (factQ y x) := by
  unfold spec_FactBefore.f factQ
  (repeat' split) <;> rfl

-- spec_IsStore
theorem spec_IsStore_ev (l : List S87) (h : l.length ≤ 1048576) : Ev (fun k => spec_IsStore.f k l) (storeB l) := by
  unfold spec_IsStore.f storeB
  refine ev_adj l factB factQ _ (fun k i => spec_IsStore.l0 k l i) ?_ ?_ ?_
  · refine Ev.succ ?_
    simp only [spec_IsStore.l0, Int.lt_irrefl, if_false]
    exact Ev.now _
  · intro x r hx hr
    have hi := lt_of_get hx
    have h1 : ((0 : Int) < (l.length : Int)) = True := eq_true (by omega)
    have e := rd_at_T87 hx
    have e2 := wr1 hi (show l.length ≤ 9223372036854775807 by omega)
    simp only [Int.ofNat_zero, Int.natCast_zero] at e e2
    refine Ev.succ ?_
    simp only [spec_IsStore.l0, h1, if_true, Int.le_refl, gt_iff_lt, Int.lt_irrefl, if_false, e, e2, spec_IsFact_eq, spec_FactBefore_eq, Option.bind_some]
    exact Ev.bifT fun _ => hr
  · intro i y x r hy hx hr
    have hi := lt_of_get hx
    have h1 : (((i + 1 : Nat) : Int) < (l.length : Int)) = True := eq_true (by omega)
    have h2 : (0 ≤ ((i + 1 : Nat) : Int)) = True := eq_true (by omega)
    have h3 : (((i + 1 : Nat) : Int) > 0) = True := eq_true (by omega)
    have h4 : (0 ≤ (i : Int)) = True := eq_true (by omega)
    have h5 : ((i : Int) < (l.length : Int)) = True := eq_true (by omega)
    refine Ev.succ ?_
    simp only [spec_IsStore.l0, h1, h2, h3, h4, h5, if_true, rd_at_T87 hx, rd_at_T87 hy, wr1 hi (show l.length ≤ 9223372036854775807 by omega), wrp hi (show l.length ≤ 9223372036854775807 by omega), spec_IsFact_eq, spec_FactBefore_eq, Option.bind_some]
    exact Ev.bifT fun _ => Ev.bifT fun _ => hr

-- spec_SameClaim
theorem spec_SameClaim_tot (y x : S87) : ∃ b, spec_SameClaim.f y.f0 y.f1 y.f2 y.f3 y.f4 y.f5 x.f0 x.f1 x.f2 x.f3 x.f4 x.f5 = some b := by
  unfold spec_SameClaim.f
  (repeat' split) <;> exact ⟨_, rfl⟩

-- spec_l7Copy
theorem spec_l7Copy_eq (l : List S87) (h : l.length ≤ 1048576) : spec_l7Copy.f l = some l := by
  unfold spec_l7Copy.f
  rw [if_pos (by omega)]; rfl

-- spec_PutFact
/-- From some number of rounds on the function gives one value, and that value is so. -/
def Tt {α : Type} (f : Nat → Option α) (P : α → Prop) : Prop := ∃ a, Ev f a ∧ P a
theorem Tt.now {α : Type} {P : α → Prop} {a : α} (h : P a) : Tt (fun _ => some a) P := ⟨a, Ev.now a, h⟩
theorem Tt.ev {α : Type} {P : α → Prop} {f : Nat → Option α} {a : α} (e : Ev f a) (h : P a) : Tt f P := ⟨a, e, h⟩
theorem Tt.bind {α β : Type} {P : α → Prop} {Q : β → Prop} {f : Nat → Option α} {g : Nat → α → Option β} (h : Tt f P) (k : ∀ a, P a → Tt (fun n => g n a) Q) : Tt (fun n => (f n).bind (g n)) Q := by
  obtain ⟨a, e, ha⟩ := h
  obtain ⟨b, e2, hb⟩ := k a ha
  exact ⟨b, Ev.bind e e2, hb⟩
theorem Tt.mono {α : Type} {P Q : α → Prop} {f : Nat → Option α} (h : Tt f P) (k : ∀ a, P a → Q a) : Tt f Q := by
  obtain ⟨a, e, ha⟩ := h
  exact ⟨a, e, k a ha⟩
theorem Tt.ite {α : Type} {P : α → Prop} {c : Prop} [Decidable c] {f g : Nat → Option α} (h1 : c → Tt f P) (h2 : ¬ c → Tt g P) : Tt (fun k => if c then f k else g k) P := by
  by_cases hc : c
  · simp only [if_pos hc]; exact h1 hc
  · simp only [if_neg hc]; exact h2 hc
theorem Tt.pos {α : Type} {P : α → Prop} {c : Prop} [Decidable c] {f g : Nat → Option α} (hc : c) (h1 : Tt f P) : Tt (fun k => if c then f k else g k) P := by
  simp only [if_pos hc]; exact h1
theorem Tt.neg {α : Type} {P : α → Prop} {c : Prop} [Decidable c] {f g : Nat → Option α} (hc : ¬ c) (h1 : Tt g P) : Tt (fun k => if c then f k else g k) P := by
  simp only [if_neg hc]; exact h1
theorem Tt.succ {α : Type} {P : α → Prop} {g : Nat → Option α} (h : Tt (fun k => g (k + 1)) P) : Tt g P := by
  obtain ⟨a, e, ha⟩ := h
  exact ⟨a, Ev.succ e, ha⟩
theorem Tt.up {σ β : Type} {Q : β → Prop} (n : Nat) (L : Nat → Nat → σ → Option β) (I : Nat → σ → Prop)
    (hstep : ∀ i s, i < n → I i s → (∀ s', I (i + 1) s' → Tt (fun k => L k (i + 1) s') Q) → Tt (fun k => L k i s) Q)
    (hend : ∀ s, I n s → Tt (fun k => L k n s) Q) : ∀ i s, i ≤ n → I i s → Tt (fun k => L k i s) Q := by
  have key : ∀ d i s, n - i = d → i ≤ n → I i s → Tt (fun k => L k i s) Q := by
    intro d
    induction d with
    | zero =>
      intro i s hd hi hI
      obtain rfl : i = n := by omega
      exact hend s hI
    | succ d ih =>
      intro i s hd hi hI
      exact hstep i s (by omega) hI fun s' h' => ih (i + 1) s' (by omega) (by omega) h'
  exact fun i s hi hI => key (n - i) i s rfl hi hI
theorem Tt.down {σ β : Type} {Q : β → Prop} (L : Nat → Nat → σ → Option β) (I : Nat → σ → Prop)
    (hstep : ∀ m s, I (m + 1) s → (∀ s', I m s' → Tt (fun k => L k m s') Q) → Tt (fun k => L k (m + 1) s) Q)
    (hend : ∀ s, I 0 s → Tt (fun k => L k 0 s) Q) : ∀ m s, I m s → Tt (fun k => L k m s) Q := by
  intro m
  induction m with
  | zero => exact hend
  | succ m ih => exact fun s hI => hstep m s hI fun s' h' => ih s' h'
theorem spec_PutFact_tt (l : List S87) (x : S87) (h : l.length ≤ 30) : Tt (fun k => spec_PutFact.f k l x.f0 x.f1 x.f2 x.f3 x.f4 x.f5) (fun r => r.1.length ≤ 30) := by
  have key := Tt.up (Q := fun r : List S87 × Bool => r.1.length ≤ 30) l.length (fun k i (s : List S87 × Bool) => spec_PutFact.l0 k l x.f0 x.f1 x.f2 x.f3 x.f4 x.f5 s.1 s.2 (i : Int)) (fun i s => s.1.length ≤ 2 * i)
    (by
      rintro i ⟨o, f⟩ hi hI ih
      obtain ⟨y, hy⟩ := getAt (l := l) (i := i) hi
      obtain ⟨b, hb⟩ := spec_SameClaim_tot x y
      have h1 : ((i : Int) < (l.length : Int)) = True := eq_true (by omega)
      have h2 : (0 ≤ (i : Int)) = True := eq_true (by omega)
      refine Tt.succ ?_
      dsimp only at hI ⊢
      simp only [spec_PutFact.l0, h1, h2, if_true, rd_at_T87 hy, hb, spec_FactBefore_eq x y, Option.bind_some, wr1 hi (show l.length ≤ 9223372036854775807 by omega)]
      repeat' first
        | exact ih (_, _) (by simp only [List.length_append, List.length_singleton]; omega)
        | refine Tt.ite (fun _ => ?_) (fun _ => ?_)
        | (exfalso; rename_i hn; try simp only [List.length_append, List.length_singleton] at hn
           omega))
    (by
      rintro ⟨o, f⟩ hI
      dsimp only at hI ⊢
      refine Tt.succ ?_
      simp only [spec_PutFact.l0, Int.lt_irrefl, if_false, Option.bind_some, spec_l7Copy_eq l (by omega)]
      repeat' first
        | refine Tt.ite (fun _ => ?_) (fun _ => ?_)
        | exact Tt.now h
        | (refine Tt.now ?_; dsimp only; omega)
        | (exfalso; rename_i hn; omega))
    0 ([], false) (by omega) (by simp)
  obtain ⟨b, hb⟩ := (⟨_, spec_IsStore_ev l (by omega)⟩ : ∃ b, Ev (fun k => spec_IsStore.f k l) b)
  unfold spec_PutFact.f
  refine Tt.bind (Tt.ev (P := fun _ => True) hb trivial) fun t _ => ?_
  simp only [spec_IsFact_eq, Option.bind_some, spec_l7Copy_eq l (by omega)]
  repeat' first
    | exact key
    | exact Tt.now h
    | refine Tt.ite (fun _ => ?_) (fun _ => ?_)

-- spec_l7Store
theorem spec_l7Store_tt (s : List Int) (i h : Int) (h0 : 0 ≤ i) (h1 : i ≤ s.length) (hs : s.length ≤ 1048576) : Tt (fun k => spec_l7Store.f k s i h) (fun r => r.1.length ≤ 30 ∧ 0 ≤ r.2.1 ∧ r.2.1 ≤ s.length) := by
  obtain ⟨n, i1, g1, e1, n0, n1, i10, i11⟩ := spec_l1Below_ok s i h h0 h1 hs 10 (by omega) (by omega)
  obtain ⟨m, rfl⟩ : ∃ m : Nat, n = (m : Int) := ⟨n.toNat, by omega⟩
  unfold spec_l7Store.f
  simp only [e1, Option.bind_some]
  refine Tt.down (Q := fun r : List S87 × Int × Int => r.1.length ≤ 30 ∧ 0 ≤ r.2.1 ∧ r.2.1 ≤ s.length) (fun k m (t : List S87 × Int × Int) => spec_l7Store.l0 k s t.2.1 t.2.2 t.1 (m : Int)) (fun m t => m ≤ 10 ∧ t.1.length ≤ 30 ∧ 0 ≤ t.2.1 ∧ t.2.1 ≤ s.length) ?_ ?_ m ([], i1, g1) ⟨by omega, by simp, i10, i11⟩
  · rintro m ⟨l, i, h⟩ ⟨hm, hl, hi, hi'⟩ ih
    dsimp only at hl hi hi' ⊢
    obtain ⟨x, i2, g2, e2, i20, i21⟩ := spec_l6Fact_ok s i h hi hi' hs
    have hp : (((m + 1 : Nat) : Int) > 0) = True := eq_true (by omega)
    have hw : wrap64 (((m + 1 : Nat) : Int) - 1) = (m : Int) := by rw [wr (by omega) (by omega)]; omega
    refine Tt.succ ?_
    simp only [spec_l7Store.l0, hp, if_true, hw, e2, Option.bind_some]
    exact Tt.bind (spec_PutFact_tt l x hl) fun r hr => ih (r.1, i2, g2) ⟨by omega, hr, i20, i21⟩
  · rintro ⟨l, i, h⟩ ⟨hm, hl, hi, hi'⟩
    refine Tt.succ ?_
    dsimp only at hl hi hi' ⊢
    simp only [spec_l7Store.l0]
    exact Tt.neg (by omega) (Tt.now ⟨hl, hi, hi'⟩)

-- spec_l17Request
theorem spec_l17Request_ok (s : List Int) (i h : Int) (h0 : 0 ≤ i) (h1 : i ≤ s.length) (hs : s.length ≤ 1048576) : ∃ (a b c d e f : Int) (j g : Int), spec_l17Request.f s i h = some (a, b, c, d, e, f, j, g) ∧ 0 ≤ f ∧ f < 30 ∧ 0 ≤ j ∧ j ≤ s.length := by
  obtain ⟨a, i1, g1, e1, i10, i11⟩ := spec_l5Name_ok s i h h0 h1 hs 1
  obtain ⟨b, i2, g2, e2, i20, i21⟩ := spec_l5Name_ok s i1 g1 i10 i11 hs 2
  obtain ⟨c, i3, g3, e3, i30, i31⟩ := spec_l5Name_ok s i2 g2 i20 i21 hs 3
  obtain ⟨d, i4, g4, e4, _, _, i40, i41⟩ := spec_l1Below_ok s i3 g3 i30 i31 hs 2 (by omega) (by omega)
  obtain ⟨e, i5, g5, e5, i50, i51⟩ := spec_l5Name_ok s i4 g4 i40 i41 hs 4
  obtain ⟨f, i6, g6, e6, f0, f1, i60, i61⟩ := spec_l1Below_ok s i5 g5 i50 i51 hs 30 (by omega) (by omega)
  refine ⟨a, b, c, d, e, f, i6, g6, ?_, f0, f1, i60, i61⟩
  unfold spec_l17Request.f
  simp only [e1, e2, e3, e4, e5, e6, Option.bind_some]

-- spec_Max
theorem spec_Max_eq (a b : Int) : spec_Max.f a b = some (if b > a then b else a) := by
  unfold spec_Max.f; split <;> rfl

-- spec_l17Case
theorem spec_l17Case_tt (s : List Int) (i h : Int) (h0 : 0 ≤ i) (h1 : i ≤ s.length) (hs : s.length ≤ 1048576) : Tt (fun k => spec_l17Case.f k s i h) (fun r => r.1.length ≤ 3 ∧ r.2.1.length ≤ 30 ∧ 0 ≤ r.2.2.2.2.2.2.2.2.1 ∧ r.2.2.2.2.2.2.2.2.1 ≤ s.length) := by
  unfold spec_l17Case.f
  obtain ⟨p, i1, g1, e1, hp, i10, i11⟩ := spec_l14Pairs_ev s i h h0 h1 hs
  refine Tt.bind (Tt.ev (P := fun r => r = (p, i1, g1)) e1 rfl) ?_
  rintro _ rfl
  refine Tt.bind (spec_l7Store_tt s i1 g1 i10 i11 hs) ?_
  rintro ⟨st, i2, g2⟩ ⟨hst, i20, i21⟩
  dsimp only at hst i20 i21 ⊢
  obtain ⟨a, b, c, d, e, f, i3, g3, e3, _, _, i30, i31⟩ := spec_l17Request_ok s i2 g2 i20 i21 hs
  obtain ⟨n, i4, g4, e4, n0, n1, i40, i41⟩ := spec_l1Below_ok s i3 g3 i30 i31 hs 5 (by omega) (by omega)
  obtain ⟨m, rfl⟩ : ∃ m : Nat, n = (m : Int) := ⟨n.toNat, by omega⟩
  simp only [e3, e4, Option.bind_some]
  refine Tt.down (Q := fun r : List S100 × List S87 × Int × Int × Int × Int × Int × Int × Int × Int => r.1.length ≤ 3 ∧ r.2.1.length ≤ 30 ∧ 0 ≤ r.2.2.2.2.2.2.2.2.1 ∧ r.2.2.2.2.2.2.2.2.1 ≤ s.length) (fun k m (t : List S87 × Int × Int) => spec_l17Case.l0 k s t.2.1 t.2.2 0 0 0 0 0 0 p t.1 a b c d e f (m : Int)) (fun m t => m ≤ 10 ∧ t.1.length ≤ 30 ∧ 0 ≤ t.2.1 ∧ t.2.1 ≤ s.length) ?_ ?_ m (st, i4, g4) ⟨by omega, hst, i40, i41⟩
  · rintro m ⟨l, i, h⟩ ⟨hm, hl, hi, hi'⟩ ih
    dsimp only at hl hi hi' ⊢
    obtain ⟨x, i5, g5, e5, i50, i51⟩ := spec_l6Fact_ok s i h hi hi' hs
    obtain ⟨u, i6, g6, e6, _, _, i60, i61⟩ := spec_l1Below_ok s i5 g5 i50 i51 hs 6 (by omega) (by omega)
    obtain ⟨v, i7, g7, e7, _, _, i70, i71⟩ := spec_l1Below_ok s i6 g6 i60 i61 hs 10 (by omega) (by omega)
    have hp : (((m + 1 : Nat) : Int) > 0) = True := eq_true (by omega)
    have hw : wrap64 (((m + 1 : Nat) : Int) - 1) = (m : Int) := by rw [wr (by omega) (by omega)]; omega
    refine Tt.succ ?_
    simp only [spec_l17Case.l0, hp, if_true, hw, e5, e6, e7, spec_Max_eq, Option.bind_some]
    have st : ∀ y0 y1 y2 y3 y4 y5 : Int, Tt (fun k => (spec_PutFact.f k l y0 y1 y2 y3 y4 y5).bind fun t63 => spec_l17Case.l0 k s i7 g7 0 0 0 0 0 0 p t63.1 a b c d e f (m : Int)) (fun r => r.1.length ≤ 3 ∧ r.2.1.length ≤ 30 ∧ 0 ≤ r.2.2.2.2.2.2.2.2.1 ∧ r.2.2.2.2.2.2.2.2.1 ≤ s.length) := fun y0 y1 y2 y3 y4 y5 => Tt.bind (spec_PutFact_tt l ⟨y0, y1, y2, y3, y4, y5⟩ hl) fun r hr => ih (r.1, i7, g7) ⟨by omega, hr, i70, i71⟩
    refine Tt.ite (fun _ => st _ _ _ _ _ _) (fun _ => Tt.ite (fun _ => st _ _ _ _ _ _) (fun _ => Tt.ite (fun _ => st _ _ _ _ _ _) (fun _ => st _ _ _ _ _ _)))
  · rintro ⟨l, i, h⟩ ⟨hm, hl, hi, hi'⟩
    refine Tt.succ ?_
    dsimp only at hl hi hi' ⊢
    simp only [spec_l17Case.l0]
    exact Tt.neg (by omega) (Tt.now ⟨by dsimp only; omega, hl, hi, hi'⟩)

-- spec_l1Int
theorem spec_l1Int_ok (s : List Int) (i h : Int) (h0 : 0 ≤ i) (h1 : i ≤ s.length) (hs : s.length ≤ 1048576) (l : List Int) (n0 : 0 < l.length) (n1 : l.length ≤ 256) : ∃ x j h', spec_l1Int.f s i h l = some (x, j, h') ∧ 0 ≤ j ∧ j ≤ s.length := by
  obtain ⟨x, j, h', e, x0, x1, j0, j1⟩ := spec_l1Below_ok s i h h0 h1 hs (l.length : Int) (by omega) (by omega)
  unfold spec_l1Int.f
  rw [e, Option.bind_some, if_pos x0, if_pos x1]
  exact ⟨_, _, _, rfl, j0, j1⟩

-- spec_l15Leaf
theorem spec_l15Leaf_ok (s : List Int) (i h : Int) (h0 : 0 ≤ i) (h1 : i ≤ s.length) (hs : s.length ≤ 1048576) : ∃ (x : S58) (j g : Int), spec_l15Leaf.f s i h = some (x.f0, x.f1, x.f2, x.f3, j, g) ∧ n58 x = 0 ∧ 0 ≤ j ∧ j ≤ s.length := by
  have nz : ∀ a b c : Int, n58 (⟨a, b, c, []⟩ : S58) = 0 := by intro a b c; rw [n58_f]; rfl
  obtain ⟨age, i1, g1, e1, i10, i11⟩ := spec_l1Int_ok s i h h0 h1 hs [3, 10, 20] (by simp) (by simp)
  obtain ⟨m, i2, g2, e2, m0, m1, i20, i21⟩ := spec_l1Below_ok s i1 g1 i10 i11 hs 7 (by omega) (by omega)
  obtain ⟨v, i3, g3, e3, _, _, i30, i31⟩ := spec_l1Below_ok s i2 g2 i20 i21 hs 3 (by omega) (by omega)
  obtain ⟨v', i4, g4, e4, _, _, i40, i41⟩ := spec_l1Below_ok s i2 g2 i20 i21 hs 2 (by omega) (by omega)
  obtain ⟨u, i5, g5, e5, i50, i51⟩ := spec_l1Int_ok s i2 g2 i20 i21 hs [5, 15, 25] (by simp) (by simp)
  unfold spec_l15Leaf.f
  simp only [e1, e2, e3, e4, e5, Option.bind_some]
  by_cases c0 : m = 0
  · exact ⟨⟨1, 0, 0, []⟩, i2, g2, if_pos c0, nz _ _ _, i20, i21⟩
  rw [if_neg c0]
  by_cases c1 : m = 1
  · exact ⟨⟨2, v, age, []⟩, i3, g3, if_pos c1, nz _ _ _, i30, i31⟩
  rw [if_neg c1]
  by_cases c2 : m = 2
  · exact ⟨⟨2, v, age, []⟩, i3, g3, if_pos c2, nz _ _ _, i30, i31⟩
  rw [if_neg c2]
  by_cases c3 : m = 3
  · exact ⟨⟨3, 0, age, []⟩, i2, g2, if_pos c3, nz _ _ _, i20, i21⟩
  rw [if_neg c3]
  by_cases c4 : m = 4
  · exact ⟨⟨4, wrap64 (1 + v), age, []⟩, i3, g3, if_pos c4, nz _ _ _, i30, i31⟩
  rw [if_neg c4]
  by_cases c5 : m = 5
  · exact ⟨⟨5, wrap64 (1 + v'), age, []⟩, i4, g4, if_pos c5, nz _ _ _, i40, i41⟩
  rw [if_neg c5]
  exact ⟨⟨6, u, 0, []⟩, i5, g5, rfl, nz _ _ _, i50, i51⟩

-- spec_l1Once
theorem spec_l1Once_ok (s : List Int) (i h : Int) (h0 : 0 ≤ i) (h1 : i ≤ s.length) (hs : s.length ≤ 1048576) (n : Int) (n0 : 0 < n) (n1 : n ≤ 256) : ∃ x j h', spec_l1Once.f s i h n = some (x, j, h') ∧ 0 ≤ j ∧ j ≤ s.length := by
  obtain ⟨x, j, g, e, _, _, j0, j1⟩ := spec_l1Below_ok s i h h0 h1 hs n n0 n1
  unfold spec_l1Once.f
  rw [e, Option.bind_some]
  exact ⟨_, _, _, rfl, j0, j1⟩

-- spec_l15Copy
theorem copyC_evN (N : Nat) : ∀ x : S58, n58 x ≤ N → N ≤ 1048576 → Ev (fun k => spec_l15Copy.f k x.f0 x.f1 x.f2 x.f3) (x.f0, x.f1, x.f2, x.f3) := by
  induction N using Nat.strongRecOn with
  | _ N ih =>
  intro x h hN
  rw [n58_f] at h
  refine Ev.succ ?_
  simp only [spec_l15Copy.f]
  have key : ∀ (d i : Nat), x.f3.length - i = d → i ≤ x.f3.length → Ev (fun k => spec_l15Copy.l0 k x.f0 x.f1 x.f2 x.f3 0 0 0 [] x.f0 x.f1 x.f2 (x.f3.take i) (i : Int)) (x.f0, x.f1, x.f2, x.f3) := by
    intro d
    induction d with
    | zero =>
      intro i hd hi
      obtain rfl : i = x.f3.length := by omega
      refine Ev.succ ?_
      simp only [spec_l15Copy.l0, Int.lt_irrefl, if_false, List.take_length]
      exact Ev.now _
    | succ d ihd =>
      intro i hd hi
      have hi' : i < x.f3.length := by omega
      obtain ⟨y, hy⟩ := getAt (l := x.f3) (i := i) hi'
      have hn := le_sum n58 hy
      have h1 : ((i : Int) < (x.f3.length : Int)) = True := eq_true (by omega)
      have h2 : (0 ≤ (i : Int)) = True := eq_true (by omega)
      have h3 : ((x.f3.take i).length < 2932031007402) = True := eq_true (by rw [List.length_take]; omega)
      have e := ih (n58 y) (by omega) y (Nat.le_refl _) (by omega)
      have e3 : x.f3.take i ++ [y] = x.f3.take (i + 1) := by rw [List.take_add_one, hy]; rfl
      refine Ev.succ ?_
      simp only [spec_l15Copy.l0, h1, h2, if_true, rd_at_T58 hy, wr1 hi' (by omega)]
      refine Ev.bind e ?_
      simp only [h3, if_true, eta58, e3]
      exact ihd (i + 1) (by omega) (by omega)
  exact key x.f3.length 0 (by omega) (by omega)
theorem spec_l15Copy_ev (x : S58) (h : n58 x ≤ 1048576) : Ev (fun k => spec_l15Copy.f k x.f0 x.f1 x.f2 x.f3) (x.f0, x.f1, x.f2, x.f3) := copyC_evN _ x (Nat.le_refl _) h

-- spec_CondNot
theorem spec_CondNot_ev (x : S58) (h : n58 x ≤ 1048576) : Ev (fun k => spec_CondNot.f k x.f0 x.f1 x.f2 x.f3) (7, 0, 0, [x]) := by
  unfold spec_CondNot.f
  refine Ev.bind (spec_l15Copy_ev x h) ?_
  simp only [eta58]
  exact Ev.now _

-- spec_CondAnd
theorem spec_CondAnd_ev (x y : S58) (h : n58 x ≤ 1048576) (h2 : n58 y ≤ 1048576) : Ev (fun k => spec_CondAnd.f k x.f0 x.f1 x.f2 x.f3 y.f0 y.f1 y.f2 y.f3) (8, 0, 0, [x, y]) := by
  unfold spec_CondAnd.f
  refine Ev.bind (spec_l15Copy_ev x h) (Ev.bind (spec_l15Copy_ev y h2) ?_)
  simp only [eta58]
  exact Ev.now _

-- spec_CondOr
theorem spec_CondOr_ev (x y : S58) (h : n58 x ≤ 1048576) (h2 : n58 y ≤ 1048576) : Ev (fun k => spec_CondOr.f k x.f0 x.f1 x.f2 x.f3 y.f0 y.f1 y.f2 y.f3) (9, 0, 0, [x, y]) := by
  unfold spec_CondOr.f
  refine Ev.bind (spec_l15Copy_ev x h) (Ev.bind (spec_l15Copy_ev y h2) ?_)
  simp only [eta58]
  exact Ev.now _

-- spec_l15Cond
theorem condN1 (a b c : Int) (x : S58) : n58 (⟨a, b, c, [x]⟩ : S58) = 1 + n58 x := by rw [n58_f]; simp
theorem condN2 (a b c : Int) (x y : S58) : n58 (⟨a, b, c, [x, y]⟩ : S58) = 2 + (n58 x + n58 y) := by rw [n58_f]; simp
/-- A drawn condition, by its depth. -/
theorem spec_l15Cond_evD (s : List Int) (hs : s.length ≤ 1048576) : ∀ (D : Nat) (i h : Int), D ≤ 2 → 0 ≤ i → i ≤ s.length → ∃ (x : S58) (j g : Int), Ev (fun k => spec_l15Cond.f k s i h (D : Int)) (x.f0, x.f1, x.f2, x.f3, j, g) ∧ n58 x ≤ (if D = 0 then 0 else if D = 1 then 2 else 6) ∧ 0 ≤ j ∧ j ≤ s.length := by
  intro D
  induction D with
  | zero =>
    intro i h _ i0 i1
    obtain ⟨x, j, g, e, hx, j0, j1⟩ := spec_l15Leaf_ok s i h i0 i1 hs
    refine ⟨x, j, g, Ev.succ ?_, by omega, j0, j1⟩
    simp only [spec_l15Cond.f, e, Option.bind_some]
    exact Ev.pos (by omega) (Ev.now _)
  | succ D ih =>
    intro i h hD i0 i1
    have w : wrap64 (((D + 1 : Nat) : Int) - 1) = (D : Int) := by rw [wr (by omega) (by omega)]; omega
    have hle : (if D = 0 then 0 else if D = 1 then 2 else 6 : Nat) ≤ 2 := by
      split
      · omega
      · split <;> omega
    have bnd : 2 + ((if D = 0 then 0 else if D = 1 then 2 else 6) + (if D = 0 then 0 else if D = 1 then 2 else 6)) ≤ (if D + 1 = 0 then 0 else if D + 1 = 1 then 2 else 6 : Nat) := by
      have hd : D = 0 ∨ D = 1 := by omega
      rcases hd with rfl | rfl <;> decide
    obtain ⟨o, i2, g2, e2, i20, i21⟩ := spec_l1Once_ok s i h i0 i1 hs 3 (by omega) (by omega)
    have hn : ¬ ((D + 1 : Nat) : Int) < 1 := by omega
    cases o with
    | true =>
      obtain ⟨x, j, g, e, hx, j0, j1⟩ := spec_l15Leaf_ok s i2 g2 i20 i21 hs
      refine ⟨x, j, g, Ev.succ ?_, by omega, j0, j1⟩
      simp only [spec_l15Cond.f, if_neg hn, e2, e, Option.bind_some, if_true]
      exact Ev.now _
    | false =>
      obtain ⟨m, i3, g3, e3, _, _, i30, i31⟩ := spec_l1Below_ok s i2 g2 i20 i21 hs 5 (by omega) (by omega)
      obtain ⟨x, i4, g4, e4, hx, i40, i41⟩ := ih i3 g3 (by omega) i30 i31
      obtain ⟨y, i5, g5, e5, hy, i50, i51⟩ := ih i4 g4 (by omega) i40 i41
      by_cases c : m = 0
      · refine ⟨⟨7, 0, 0, [x]⟩, i4, g4, Ev.succ ?_, by rw [condN1]; omega, i40, i41⟩
        simp only [spec_l15Cond.f, if_neg hn, e2, e3, Option.bind_some, Bool.false_eq_true, if_false, if_pos c, w]
        exact Ev.bind e4 (Ev.bind (spec_CondNot_ev x (by omega)) (Ev.now _))
      by_cases c1 : m = 1
      · refine ⟨⟨8, 0, 0, [x, y]⟩, i5, g5, Ev.succ ?_, by rw [condN2]; omega, i50, i51⟩
        simp only [spec_l15Cond.f, if_neg hn, e2, e3, Option.bind_some, Bool.false_eq_true, if_false, if_neg c, if_pos c1, w]
        exact Ev.bind e4 (Ev.bind e5 (Ev.bind (spec_CondAnd_ev x y (by omega) (by omega)) (Ev.now _)))
      by_cases c2 : m = 2
      · refine ⟨⟨8, 0, 0, [x, y]⟩, i5, g5, Ev.succ ?_, by rw [condN2]; omega, i50, i51⟩
        simp only [spec_l15Cond.f, if_neg hn, e2, e3, Option.bind_some, Bool.false_eq_true, if_false, if_neg c, if_neg c1, if_pos c2, w]
        exact Ev.bind e4 (Ev.bind e5 (Ev.bind (spec_CondAnd_ev x y (by omega) (by omega)) (Ev.now _)))
      refine ⟨⟨9, 0, 0, [x, y]⟩, i5, g5, Ev.succ ?_, by rw [condN2]; omega, i50, i51⟩
      simp only [spec_l15Cond.f, if_neg hn, e2, e3, Option.bind_some, Bool.false_eq_true, if_false, if_neg c, if_neg c1, if_neg c2, w]
      exact Ev.bind e4 (Ev.bind e5 (Ev.bind (spec_CondOr_ev x y (by omega) (by omega)) (Ev.now _)))
theorem spec_l15Cond_ev (s : List Int) (hs : s.length ≤ 1048576) (i h : Int) (i0 : 0 ≤ i) (i1 : i ≤ s.length) : ∃ (x : S58) (j g : Int), Ev (fun k => spec_l15Cond.f k s i h 2) (x.f0, x.f1, x.f2, x.f3, j, g) ∧ n58 x ≤ 6 ∧ 0 ≤ j ∧ j ≤ s.length := by
  obtain ⟨x, j, g, e, hx, hj⟩ := spec_l15Cond_evD s hs 2 i h (by omega) i0 i1
  exact ⟨x, j, g, e, hx, hj⟩

-- spec_l19Rule
theorem spec_l19Rule_ev (s : List Int) (i h : Int) (h0 : 0 ≤ i) (h1 : i ≤ s.length) (hs : s.length ≤ 1048576) : ∃ (x : S60) (j g : Int), Ev (fun k => spec_l19Rule.f k s i h) (x.f0, x.f1, x.f2, x.f3.f0, x.f3.f1, x.f3.f2, x.f3.f3, j, g) ∧ n58 x.f3 ≤ 6 ∧ 0 ≤ j ∧ j ≤ s.length := by
  obtain ⟨a, i1, g1, e1, i10, i11⟩ := spec_l1Int_ok s i h h0 h1 hs [1, 1, 1, 0] (by simp) (by simp)
  obtain ⟨b, i2, g2, e2, i20, i21⟩ := spec_l1Int_ok s i1 g1 i10 i11 hs [(-1), 0, 1, (-1)] (by simp) (by simp)
  obtain ⟨x, i3, g3, e3, hx, i30, i31⟩ := spec_l15Cond_ev s hs i2 g2 i20 i21
  obtain ⟨o, i4, g4, e4, i40, i41⟩ := spec_l1Once_ok s i3 g3 i30 i31 hs 2 (by omega) (by omega)
  cases o with
  | true =>
    obtain ⟨v, i5, g5, e5, i50, i51⟩ := spec_l5Name_ok s i4 g4 i40 i41 hs 4
    refine ⟨⟨a, b, v, x⟩, i5, g5, ?_, hx, i50, i51⟩
    unfold spec_l19Rule.f
    simp only [e1, e2, Option.bind_some]
    refine Ev.bind e3 ?_
    simp only [e4, Option.bind_some, if_true, e5]
    exact Ev.now _
  | false =>
    refine ⟨⟨a, b, (-1), x⟩, i4, g4, ?_, hx, i40, i41⟩
    unfold spec_l19Rule.f
    simp only [e1, e2, Option.bind_some]
    refine Ev.bind e3 ?_
    simp only [e4, Option.bind_some, Bool.false_eq_true, if_false]
    exact Ev.now _

-- spec_l19Policy
theorem spec_l19Policy_ev (s : List Int) (i h : Int) (h0 : 0 ≤ i) (h1 : i ≤ s.length) (hs : s.length ≤ 1048576) : ∃ (v : Int) (l : List S60) (j g : Int), Ev (fun k => spec_l19Policy.f k s i h) (v, l, j, g) ∧ l.length ≤ 4 ∧ (∀ x ∈ l, n58 x.f3 ≤ 6) ∧ 0 ≤ j ∧ j ≤ s.length := by
  obtain ⟨v, i1, g1, e1, _, _, i10, i11⟩ := spec_l1Below_ok s i h h0 h1 hs 5 (by omega) (by omega)
  have key : ∀ (m : Nat) (l : List S60) (i h : Int), 0 ≤ i → i ≤ s.length → l.length + m ≤ 4 → (∀ x ∈ l, n58 x.f3 ≤ 6) → ∃ (l' : List S60) (j g : Int), Ev (fun k => spec_l19Policy.l0 k s i h 0 [] v l (m : Int)) (v, l', j, g) ∧ l'.length ≤ 4 ∧ (∀ x ∈ l', n58 x.f3 ≤ 6) ∧ 0 ≤ j ∧ j ≤ s.length := by
    intro m
    induction m with
    | zero =>
      intro l i h i0 i1 hl hx
      refine ⟨l, i, h, Ev.succ ?_, by omega, hx, i0, i1⟩
      simp only [spec_l19Policy.l0]
      exact Ev.neg (by omega) (Ev.now _)
    | succ m ih =>
      intro l i h i0 i1 hl hx
      obtain ⟨x, i2, g2, e, hx3, i20, i21⟩ := spec_l19Rule_ev s i h i0 i1 hs
      obtain ⟨l', j, g, e', hl', hx', hj⟩ := ih (l ++ [x]) i2 g2 i20 i21 (by rw [List.length_append, List.length_singleton]; omega) (fun y hy => by
        rcases List.mem_append.1 hy with hy | hy
        · exact hx y hy
        · rw [List.mem_singleton.1 hy]; exact hx3)
      refine ⟨l', j, g, Ev.succ ?_, hl', hx', hj⟩
      have hp : (((m + 1 : Nat) : Int) > 0) = True := eq_true (by omega)
      have hw : wrap64 (((m + 1 : Nat) : Int) - 1) = (m : Int) := by rw [wr (by omega) (by omega)]; omega
      have hl2 : (l.length < 1954687338268) = True := eq_true (by omega)
      simp only [spec_l19Policy.l0, hp, if_true, hw]
      refine Ev.bind e ?_
      simp only [hl2, if_true, eta58]
      exact e'
  obtain ⟨n, i2, g2, e2, n0, n1, i20, i21⟩ := spec_l1Below_ok s i1 g1 i10 i11 hs 4 (by omega) (by omega)
  obtain ⟨m, hm⟩ : ∃ m : Nat, wrap64 (1 + n) = (m : Int) := ⟨(1 + n).toNat, by rw [wr (by omega) (by omega)]; omega⟩
  have hm4 : m ≤ 4 := by rw [wr (by omega) (by omega)] at hm; omega
  obtain ⟨l, j, g, e, hl, hx, hj⟩ := key m [] i2 g2 i20 i21 (by simpa using hm4) (by simp)
  refine ⟨v, l, j, g, ?_, hl, hx, hj⟩
  unfold spec_l19Policy.f
  simp only [e1, e2, Option.bind_some, hm]
  exact e

-- spec_l5Any
theorem spec_l5Any_ok (s : List Int) (i h : Int) (h0 : 0 ≤ i) (h1 : i ≤ s.length) (hs : s.length ≤ 1048576) : ∃ x j h', spec_l5Any.f s i h = some (x, j, h') ∧ 0 ≤ j ∧ j ≤ s.length := by
  obtain ⟨b, i1, g1, e1, i10, i11⟩ := spec_l1Once_ok s i h h0 h1 hs 6 (by omega) (by omega)
  obtain ⟨x, i2, g2, e2, i20, i21⟩ := spec_l1Int_ok s i1 g1 i10 i11 hs [(-1), 9, 10, 49, 50, 19] (by simp) (by simp)
  obtain ⟨c, i3, g3, e3, _, _, i30, i31⟩ := spec_l1Below_ok s i1 g1 i10 i11 hs 4 (by omega) (by omega)
  obtain ⟨y, i4, g4, e4, i40, i41⟩ := spec_l5Name_ok s i3 g3 i30 i31 hs (wrap64 (1 + c))
  unfold spec_l5Any.f
  simp only [e1, Option.bind_some]
  cases b with
  | true => exact ⟨x, i2, g2, by simp only [if_true, e2, Option.bind_some], i20, i21⟩
  | false => exact ⟨y, i4, g4, by simp only [Bool.false_eq_true, if_false, e3, e4, Option.bind_some], i40, i41⟩

-- spec_l15Any
theorem spec_l15Any_tt (s : List Int) (i h : Int) (h0 : 0 ≤ i) (h1 : i ≤ s.length) (hs : s.length ≤ 1048576) : Tt (fun k => spec_l15Any.f k s i h) (fun r => n58 ⟨r.1, r.2.1, r.2.2.1, r.2.2.2.1⟩ ≤ 10 ∧ 0 ≤ r.2.2.2.2.1 ∧ r.2.2.2.2.1 ≤ s.length) := by
  unfold spec_l15Any.f
  obtain ⟨x, i1, g1, e1, hx, i10, i11⟩ := spec_l15Cond_ev s hs i h h0 h1
  refine Tt.bind (Tt.ev (P := fun r => r = (x.f0, x.f1, x.f2, x.f3, i1, g1)) e1 rfl) ?_
  rintro _ rfl
  obtain ⟨m, i2, g2, e2, _, _, i20, i21⟩ := spec_l1Below_ok s i1 g1 i10 i11 hs 8 (by omega) (by omega)
  obtain ⟨a, i3, g3, e3, _, _, i30, i31⟩ := spec_l1Below_ok s i2 g2 i20 i21 hs 11 (by omega) (by omega)
  obtain ⟨b, i4, g4, e4, i40, i41⟩ := spec_l1Int_ok s i2 g2 i20 i21 hs [(-1), 0, 3, 4, 5, 6, 10000, 10001] (by simp) (by simp)
  obtain ⟨c, i5, g5, e5, i50, i51⟩ := spec_l1Int_ok s i2 g2 i20 i21 hs [(-1), 0, 10000, 10001] (by simp) (by simp)
  obtain ⟨y, i6, g6, e6, hy, i60, i61⟩ := spec_l15Leaf_ok s i2 g2 i20 i21 hs
  have hx2 := hx
  rw [n58_f] at hx2
  have hl : (x.f3.length < 2932031007402) = True := eq_true (by omega)
  have nn : ∀ a b c : Int, n58 (⟨a, b, c, x.f3⟩ : S58) ≤ 10 := by intro a b c; rw [n58_f]; dsimp only; omega
  have nm : ∀ a b c : Int, n58 (⟨a, b, c, x.f3 ++ [y]⟩ : S58) ≤ 10 := by
    intro a b c; rw [n58_f]; simp only [List.length_append, List.length_singleton, List.map_append, List.map_cons, List.map_nil, List.sum_append, List.sum_cons, List.sum_nil, hy]; omega
  simp only [e2, e3, e4, e5, e6, Option.bind_some, hl, if_true, eta58]
  refine Tt.ite (fun _ => Tt.now ⟨nn _ _ _, i30, i31⟩) (fun _ => Tt.ite (fun _ => Tt.now ⟨nn _ _ _, i40, i41⟩) (fun _ => Tt.ite (fun _ => Tt.now ⟨nn _ _ _, i50, i51⟩) (fun _ => Tt.ite (fun _ => Tt.now ⟨nm _ _ _, i60, i61⟩) (fun _ => Tt.now ⟨nn _ _ _, i20, i21⟩))))

-- spec_l19Any
theorem spec_l19Any_tt (s : List Int) (i h : Int) (h0 : 0 ≤ i) (h1 : i ≤ s.length) (hs : s.length ≤ 1048576) : Tt (fun k => spec_l19Any.f k s i h) (fun r => r.2.1.length ≤ 9 ∧ (∀ x ∈ r.2.1, n58 x.f3 ≤ 10) ∧ 0 ≤ r.2.2.1 ∧ r.2.2.1 ≤ s.length) := by
  unfold spec_l19Any.f
  obtain ⟨v, l, i1, g1, e1, hl, hx, i10, i11⟩ := spec_l19Policy_ev s i h h0 h1 hs
  refine Tt.bind (Tt.ev (P := fun r => r = (v, l, i1, g1)) e1 rfl) ?_
  rintro _ rfl
  dsimp only
  obtain ⟨m, i2, g2, e2, _, _, i20, i21⟩ := spec_l1Below_ok s i1 g1 i10 i11 hs 8 (by omega) (by omega)
  obtain ⟨a, i3, g3, e3, i30, i31⟩ := spec_l1Int_ok s i2 g2 i20 i21 hs [(-1), 999, 1000] (by simp) (by simp)
  obtain ⟨b, i4, g4, e4, _, _, i40, i41⟩ := spec_l1Below_ok s i2 g2 i20 i21 hs 4 (by omega) (by omega)
  obtain ⟨c, i5, g5, e5, i50, i51⟩ := spec_l1Int_ok s i4 g4 i40 i41 hs [(-2), (-1), 5, 6] (by simp) (by simp)
  obtain ⟨d, i6, g6, e6, i60, i61⟩ := spec_l5Any_ok s i5 g5 i50 i51 hs
  have hl2 : (l.length < 1954687338268) = True := eq_true (by omega)
  have hx10 : ∀ x ∈ l, n58 x.f3 ≤ 10 := fun x q => by have := hx x q; omega
  simp only [e2, e3, e4, e5, e6, Option.bind_some, hl2, if_true]
  refine Tt.ite (fun _ => Tt.now ⟨by dsimp only; omega, hx10, i30, i31⟩) (fun _ => Tt.ite (fun _ => ?_) (fun _ => Tt.ite (fun _ => ?_) (fun _ => Tt.now ⟨by dsimp only; omega, hx10, i20, i21⟩)))
  · refine Tt.bind (spec_l15Any_tt s i6 g6 i60 i61 hs) fun r hr => Tt.now ⟨by simp only [List.length_append, List.length_singleton]; omega, fun x q => ?_, hr.2⟩
    rcases List.mem_append.1 q with q | q
    · exact hx10 x q
    · rw [List.mem_singleton.1 q]; exact hr.1
  · have key : ∀ (d : Nat) (l : List S60) (i h : Int), 9 - l.length = d → l.length ≤ 9 → (∀ x ∈ l, n58 x.f3 ≤ 10) → 0 ≤ i → i ≤ s.length → Tt (fun k => spec_l19Any.l0 k s i h 0 [] v l) (fun r => r.2.1.length ≤ 9 ∧ (∀ x ∈ r.2.1, n58 x.f3 ≤ 10) ∧ 0 ≤ r.2.2.1 ∧ r.2.2.1 ≤ s.length) := by
      intro d
      induction d with
      | zero =>
        intro l i h hd hl hx i0 i1
        refine Tt.succ ?_
        simp only [spec_l19Any.l0]
        exact Tt.neg (by omega) (Tt.now ⟨hl, hx, i0, i1⟩)
      | succ d ih =>
        intro l i h hd hl hx i0 i1
        obtain ⟨x, i2, g2, e, hx3, i20, i21⟩ := spec_l19Rule_ev s i h i0 i1 hs
        have h1 : ((l.length : Int) < 9) = True := eq_true (by omega)
        have h2 : (l.length < 1954687338268) = True := eq_true (by omega)
        refine Tt.succ ?_
        simp only [spec_l19Any.l0, h1, if_true]
        refine Tt.bind (Tt.ev (P := fun r => r = (x.f0, x.f1, x.f2, x.f3.f0, x.f3.f1, x.f3.f2, x.f3.f3, i2, g2)) e rfl) ?_
        rintro _ rfl
        simp only [h2, if_true, eta58]
        refine ih (l ++ [x]) i2 g2 ?_ ?_ ?_ i20 i21
        · simp only [List.length_append, List.length_singleton]; omega
        · simp only [List.length_append, List.length_singleton]; omega
        · intro y q
          rcases List.mem_append.1 q with q | q
          · exact hx y q
          · rw [List.mem_singleton.1 q]; omega
    exact key _ l i2 g2 rfl (by omega) hx10 i20 i21

-- spec_l4Time
theorem spec_l4Time_ok (s : List Int) (i h : Int) (h0 : 0 ≤ i) (h1 : i ≤ s.length) (hs : s.length ≤ 1048576) : ∃ x j h', spec_l4Time.f s i h = some (x, j, h') ∧ 0 ≤ j ∧ j ≤ s.length := by
  obtain ⟨b, i1, g1, e1, i10, i11⟩ := spec_l1Once_ok s i h h0 h1 hs 8 (by omega) (by omega)
  obtain ⟨x, i2, g2, e2, i20, i21⟩ := spec_l1Int_ok s i1 g1 i10 i11 hs [(-1), 0, 10000, 10001, 9223372036854775807, (-9223372036854775808)] (by simp) (by simp)
  obtain ⟨c, i3, g3, e3, _, _, i30, i31⟩ := spec_l1Below_ok s i1 g1 i10 i11 hs 40 (by omega) (by omega)
  unfold spec_l4Time.f
  simp only [e1, Option.bind_some]
  cases b with
  | true => exact ⟨x, i2, g2, by simp only [if_true, e2, Option.bind_some], i20, i21⟩
  | false => exact ⟨c, i3, g3, by simp only [Bool.false_eq_true, if_false, e3, Option.bind_some], i30, i31⟩

-- spec_l17Any
theorem spec_l17Any_ok (s : List Int) (i h : Int) (h0 : 0 ≤ i) (h1 : i ≤ s.length) (hs : s.length ≤ 1048576) : ∃ (a b c d e f : Int) (j g : Int), spec_l17Any.f s i h = some (a, b, c, d, e, f, j, g) ∧ 0 ≤ j ∧ j ≤ s.length := by
  obtain ⟨a, b, c, d, e, f, i1, g1, e1, _, _, i10, i11⟩ := spec_l17Request_ok s i h h0 h1 hs
  obtain ⟨m, i2, g2, e2, _, _, i20, i21⟩ := spec_l1Below_ok s i1 g1 i10 i11 hs 10 (by omega) (by omega)
  obtain ⟨_, i3, g3, e3, i30, i31⟩ := spec_l5Any_ok s i2 g2 i20 i21 hs
  obtain ⟨_, i4, g4, e4, i40, i41⟩ := spec_l1Int_ok s i2 g2 i20 i21 hs [(-1), 5, 6] (by simp) (by simp)
  obtain ⟨_, i5, g5, e5, i50, i51⟩ := spec_l4Time_ok s i2 g2 i20 i21 hs
  unfold spec_l17Any.f
  simp only [e1, e2, e3, e4, e5, Option.bind_some]
  by_cases c0 : m = 0
  · exact ⟨_, _, _, _, _, _, i3, g3, if_pos c0, i30, i31⟩
  rw [if_neg c0]
  by_cases c1 : m = 1
  · exact ⟨_, _, _, _, _, _, i4, g4, if_pos c1, i40, i41⟩
  rw [if_neg c1]
  by_cases c2 : m = 2
  · exact ⟨_, _, _, _, _, _, i5, g5, if_pos c2, i50, i51⟩
  rw [if_neg c2]
  by_cases c3 : m = 3
  · exact ⟨_, _, _, _, _, _, i3, g3, if_pos c3, i30, i31⟩
  rw [if_neg c3]
  exact ⟨_, _, _, _, _, _, i2, g2, rfl, i20, i21⟩

-- spec_DrawDecideBy
theorem spec_DrawDecideBy_tt (s : List Int) (hs : s.length ≤ 1048576) : Tt (fun k => spec_DrawDecideBy.f k s) (fun r => r.1.length ≤ 3 ∧ r.2.1.length ≤ 30 ∧ r.2.2.2.1.length ≤ 9 ∧ (∀ x ∈ r.2.2.2.1, n58 x.f3 ≤ 10)) := by
  unfold spec_DrawDecideBy.f
  obtain ⟨x, hx⟩ := spec_l1New_ev s hs
  refine Tt.bind (Tt.ev (P := fun r => r = (s, 0, x)) hx rfl) ?_
  rintro _ rfl
  refine Tt.bind (spec_l17Case_tt s 0 x (by omega) (by omega) hs) ?_
  rintro ⟨p, st, qa, qb, qc, qd, qe, qf, i1, g1⟩ ⟨hp, hst, i10, i11⟩
  dsimp only at hp hst i10 i11 ⊢
  obtain ⟨v, l, i2, g2, e2, hl, hx2, i20, i21⟩ := spec_l19Policy_ev s i1 g1 i10 i11 hs
  refine Tt.bind (Tt.ev (P := fun r => r = (v, l, i2, g2)) e2 rfl) ?_
  rintro _ rfl
  obtain ⟨o, i3, g3, e3, i30, i31⟩ := spec_l1Once_ok s i2 g2 i20 i21 hs 10 (by omega) (by omega)
  have hx10 : ∀ x ∈ l, n58 x.f3 ≤ 10 := fun x q => by have := hx2 x q; omega
  simp only [e3, Option.bind_some]
  refine Tt.ite (fun _ => ?_) (fun _ => ?_)
  · refine Tt.bind (spec_l19Any_tt s i3 g3 i30 i31 hs) ?_
    rintro ⟨v, l, i4, g4⟩ ⟨hl, hx10, i40, i41⟩
    dsimp only at hl hx10 i40 i41 ⊢
    obtain ⟨o, i5, g5, e5, i50, i51⟩ := spec_l1Once_ok s i4 g4 i40 i41 hs 10 (by omega) (by omega)
    obtain ⟨a, b, c, d, e, f, i6, g6, e6, _, _⟩ := spec_l17Any_ok s i5 g5 i50 i51 hs
    simp only [e5, e6, Option.bind_some]
    exact Tt.ite (fun _ => Tt.now ⟨hp, hst, hl, hx10⟩) (fun _ => Tt.now ⟨hp, hst, hl, hx10⟩)
  · obtain ⟨o, i5, g5, e5, i50, i51⟩ := spec_l1Once_ok s i3 g3 i30 i31 hs 10 (by omega) (by omega)
    obtain ⟨a, b, c, d, e, f, i6, g6, e6, _, _⟩ := spec_l17Any_ok s i5 g5 i50 i51 hs
    simp only [e5, e6, Option.bind_some]
    exact Tt.ite (fun _ => Tt.now ⟨hp, hst, by dsimp only; omega, hx10⟩) (fun _ => Tt.now ⟨hp, hst, by dsimp only; omega, hx10⟩)

-- spec_DrawDecisionUntil
theorem spec_DrawDecisionUntil_tt (s : List Int) (hs : s.length ≤ 1048576) : Tt (fun k => spec_DrawDecisionUntil.f k s) (fun r => r.1.length ≤ 3 ∧ r.2.1.length ≤ 30 ∧ r.2.2.2.1.length ≤ 9 ∧ (∀ x ∈ r.2.2.2.1, n58 x.f3 ≤ 10)) := by
  unfold spec_DrawDecisionUntil.f
  refine Tt.bind (spec_DrawDecideBy_tt s hs) fun r hr => ?_
  obtain ⟨x, hx⟩ := spec_l1New_ev s hs
  refine Tt.bind (Tt.ev (P := fun r => r = (s, 0, x)) hx rfl) ?_
  rintro _ rfl
  obtain ⟨c, i5, g5, e5, _, _⟩ := spec_l1Int_ok s 0 x (by omega) (by omega) hs [0, 5, 20, 60, 61, (-1)] (by simp) (by simp)
  simp only [e5, Option.bind_some]
  exact Tt.now hr

-- spec_DrawSaveDecision
theorem spec_DrawSaveDecision_tt (s : List Int) (hs : s.length ≤ 1048576) : Tt (fun k => spec_DrawSaveDecision.f k s) (fun r => r.1.length ≤ 3 ∧ r.2.1.length ≤ 30 ∧ r.2.2.2.1.length ≤ 9 ∧ (∀ x ∈ r.2.2.2.1, n58 x.f3 ≤ 10)) := by
  unfold spec_DrawSaveDecision.f
  exact Tt.bind (spec_DrawDecisionUntil_tt s hs) fun r hr => Tt.now hr

-- impl_InRange
theorem impl_InRange_eq (a b c : Int) : impl_InRange.f a b c = some (inB a b c) := by
  unfold impl_InRange.f
  rw [ite_dand]; rfl

-- impl_IsName
theorem impl_IsName_eq (a : Int) : impl_IsName.f a = some (nameB a) := by
  unfold impl_IsName.f
  rw [impl_InRange_eq]; rfl

-- impl_KindOf
theorem impl_KindOf_eq (a : Int) : impl_KindOf.f a = some (if nameB a = true then a / 10 else 0) := by
  unfold impl_KindOf.f
  rw [impl_IsName_eq, Option.bind_some]
  cases h : nameB a with
  | true => simp only [if_true, name_div h]
  | false => rfl

-- impl_HasKind
theorem impl_HasKind_eq (a b : Int) : impl_HasKind.f a b = some (kindB a b) := by
  unfold impl_HasKind.f kindB
  rw [impl_IsName_eq, impl_KindOf_eq, Option.bind_some]
  cases h : nameB a with
  | true => simp only [if_true, Option.bind_some, Bool.true_and]; rfl
  | false => rfl

-- impl_IsTime
theorem impl_IsTime_eq (a : Int) : impl_IsTime.f a = some (timeB a) := by
  unfold impl_IsTime.f
  rw [impl_InRange_eq]; rfl

-- impl_IsRequest
def reqB (a b c d e t : Int) : Bool := kindB a 1 && (kindB b 2 && (kindB c 3 && (kindB e 4 && (inB d 0 5 && timeB t))))
theorem impl_IsRequest_eq (a b c d e t : Int) : impl_IsRequest.f a b c d e t = some (reqB a b c d e t) := by
  unfold impl_IsRequest.f reqB
  simp only [impl_HasKind_eq, impl_IsTime_eq, impl_InRange_eq, Option.bind_some]
  cases kindB a 1 <;> cases kindB b 2 <;> cases kindB c 3 <;> cases kindB e 4 <;> cases inB d 0 5 <;> simp

-- impl_SizeOf
theorem impl_SizeOf_evN (N : Nat) : ∀ x : S58, n58 x ≤ N → N ≤ 1048576 → Ev (fun k => impl_SizeOf.f k x.f0 x.f1 x.f2 x.f3) (1 + (n58 x : Int)) := by
  induction N using Nat.strongRecOn with
  | _ N ih =>
  intro x hx hN
  rw [n58_f] at hx ⊢
  have key : ∀ (d i : Nat) (s : Int), x.f3.length - i = d → i ≤ x.f3.length → 0 ≤ s → s + (((x.f3.drop i).length + ((x.f3.drop i).map n58).sum : Nat) : Int) ≤ 2000000 → Ev (fun k => impl_SizeOf.l0 k s x.f3 (x.f3.length : Int) (i : Int)) (s + (((x.f3.drop i).length + ((x.f3.drop i).map n58).sum : Nat) : Int)) := by
    intro d
    induction d with
    | zero =>
      intro i s hd hi h0 hs
      obtain rfl : i = x.f3.length := by omega
      refine Ev.succ ?_
      simp only [impl_SizeOf.l0, Int.lt_irrefl, if_false, List.drop_length, List.length_nil, List.map_nil, List.sum_nil]
      exact Ev.eqv (by omega) (Ev.now _)
    | succ d ih2 =>
      intro i s hd hi h0 hs
      have hi' : i < x.f3.length := by omega
      have hy : x.f3[i]? = some x.f3[i] := List.getElem?_eq_getElem hi'
      have hn := le_sum n58 hy
      rw [List.drop_eq_getElem_cons hi'] at hs ⊢
      simp only [List.length_cons, List.map_cons, List.sum_cons] at hs ⊢
      generalize x.f3[i] = y at hy hn hs ⊢
      have e := ih (n58 y) (by omega) y (Nat.le_refl _) (by omega)
      have h1 : ((i : Int) < (x.f3.length : Int)) = True := eq_true (by omega)
      have h2 : (0 ≤ (i : Int)) = True := eq_true (by omega)
      refine Ev.succ ?_
      simp only [impl_SizeOf.l0, h1, h2, if_true, rd_at_T58 hy, wr1 hi' (by omega)]
      refine Ev.bind e ?_
      rw [wr (show (-9223372036854775808 : Int) ≤ s + (1 + (n58 y : Int)) by omega) (by omega)]
      exact Ev.eqv (by omega) (ih2 (i + 1) (s + (1 + (n58 y : Int))) (by omega) (by omega) (by omega) (by omega))
  refine Ev.succ ?_
  simp only [impl_SizeOf.f]
  exact Ev.eqv (by rw [List.drop_zero]) (key x.f3.length 0 1 (by omega) (by omega) (by omega) (by rw [List.drop_zero]; omega))
theorem impl_SizeOf_ev (x : S58) (h : n58 x ≤ 1048576) : Ev (fun k => impl_SizeOf.f k x.f0 x.f1 x.f2 x.f3) (1 + (n58 x : Int)) := impl_SizeOf_evN _ x (Nat.le_refl _) h

-- impl_ArityOf
-- told elsewhere

-- impl_isNode
-- told elsewhere

-- impl_areNodes
theorem idx_ev {α : Type} (L : Nat → Int → Option Int) (p : α → Bool) : ∀ (l : List α) (i n : Nat), i + l.length = n → Ev (fun k => L k (n : Int)) (-1) →
    (∀ (j : Nat) (x : α) (r : Int), i ≤ j → l[j - i]? = some x → (p x = true → Ev (fun k => L k (j : Int)) (j : Int)) ∧ (p x = false → Ev (fun k => L k ((j + 1 : Nat) : Int)) r → Ev (fun k => L k (j : Int)) r)) → Ev (fun k => L k (i : Int)) (idxV p l (i : Int))
  | [], i, n, hn, h0, _ => by
    simp only [List.length_nil, Nat.add_zero] at hn
    subst hn
    exact h0
  | x :: l, i, n, hn, h0, hs => by
    have h := hs i x (idxV p l ((i : Int) + 1)) (Nat.le_refl _) (by simp)
    unfold idxV
    cases c : p x with
    | true => simp only [if_true]; exact h.1 c
    | false =>
      simp only [Bool.false_eq_true, if_false]
      refine h.2 c ?_
      have := idx_ev L p l (i + 1) n (by simp only [List.length_cons] at hn; omega) h0 (fun j y r hj hy => hs j y r (by omega) (by rw [show j - i = (j - (i + 1)) + 1 by omega]; simpa using hy))
      exact_mod_cast this
theorem node_some (a b c : Int) (l : List S58) : ∃ t, impl_isNode.f a b c l = some t := by
  have ha : ∃ m, impl_ArityOf.f a = some m := by
    unfold impl_ArityOf.f
    simp only [impl_InRange_eq, Option.bind_some]
    (repeat' split) <;> exact ⟨_, rfl⟩
  obtain ⟨m, hm⟩ := ha
  unfold impl_isNode.f
  simp only [impl_InRange_eq, hm, Option.bind_some]
  (repeat' split) <;> exact ⟨_, rfl⟩
theorem node_args {a b c : Int} {l : List S58} (h : impl_isNode.f a b c l = some true) : (a = 7 → (l.length : Int) = 1) ∧ (a = 8 ∨ a = 9 → (l.length : Int) = 2) := by
  have ha : ∀ m, impl_ArityOf.f a = some m → (l.length : Int) = m := by
    intro m hm
    refine Classical.byContradiction fun hc => ?_
    revert h
    unfold impl_isNode.f
    simp only [impl_InRange_eq, hm, Option.bind_some, if_neg hc]
    (repeat' split) <;> simp_all
  refine ⟨?_, ?_⟩
  · rintro rfl; exact ha 1 rfl
  · rintro (rfl | rfl)
    · exact ha 2 rfl
    · exact ha 2 rfl
theorem idxV_anyI {α : Type} (q : α → Bool) : ∀ (l : List α) (i : Int), 0 ≤ i → decide (idxV q l i ≥ 0) = l.any q
  | [], i, _ => by simp [idxV]
  | x :: l, i, h => by
    unfold idxV
    rw [List.any_cons]
    cases c : q x with
    | true => simp only [if_true, Bool.true_or]; exact decide_eq_true h
    | false => simp only [Bool.false_eq_true, if_false, Bool.false_or]; exact idxV_anyI q l (i + 1) (by omega)
mutual
def vldC : S58 → Bool
  | ⟨a, b, c, l⟩ => (impl_isNode.f a b c l).getD false && vldL l
def vldL : List S58 → Bool
  | [] => true
  | x :: l => vldC x && vldL l
end
theorem vldL_eq : ∀ l : List S58, vldL l = l.all vldC
  | [] => by simp [vldL]
  | x :: l => by simp [vldL, vldL_eq l]
theorem vldC_f (x : S58) : vldC x = ((impl_isNode.f x.f0 x.f1 x.f2 x.f3).getD false && x.f3.all vldC) := by
  cases x
  simp only [vldC, vldL_eq]
def condB (x : S58) : Bool := decide (1 + (n58 x : Int) ≤ 15) && vldC x
theorem impl_areNodes_evN (N : Nat) : ∀ x : S58, n58 x ≤ N → N ≤ 1048576 → Ev (fun k => impl_areNodes.f k x.f0 x.f1 x.f2 x.f3) (vldC x) := by
  induction N using Nat.strongRecOn with
  | _ N ih =>
  intro x hx hN
  rw [n58_f] at hx
  obtain ⟨t, ht⟩ := node_some x.f0 x.f1 x.f2 x.f3
  rw [vldC_f, ht, Option.getD_some]
  refine Ev.succ ?_
  simp only [impl_areNodes.f, ht, Option.bind_some]
  cases t with
  | false => simp only [Bool.false_eq_true, if_false, Bool.false_and]; exact Ev.now _
  | true =>
  have hp : ∀ y ∈ x.f3, Ev (fun k => impl_areNodes.f k y.f0 y.f1 y.f2 y.f3) (vldC y) := fun y hy => by
    obtain ⟨i, hi, rfl⟩ := List.getElem_of_mem hy
    have hn := le_sum n58 (List.getElem?_eq_getElem hi)
    exact ih (n58 x.f3[i]) (by omega) _ (Nat.le_refl _) (by omega)
  simp only [if_true, Bool.true_and]
  have hI : Ev (fun k => slices_IndexFunc77_65.f k x.f3) (idxV (fun y => !vldC y) x.f3 0) := by
    refine Ev.succ ?_
    simp only [slices_IndexFunc77_65.f]
    refine idx_ev (fun k i => slices_IndexFunc77_65.l0 k x.f3 (x.f3.length : Int) i) (fun y => !vldC y) x.f3 0 x.f3.length (by omega) ?_ ?_
    · refine Ev.succ ?_
      simp only [slices_IndexFunc77_65.l0, Int.lt_irrefl, if_false]
      exact Ev.now _
    · intro j y r _ hy
      rw [Nat.sub_zero] at hy
      have hj := lt_of_get hy
      have h1 : ((j : Int) < (x.f3.length : Int)) = True := eq_true (by omega)
      have h2 : (0 ≤ (j : Int)) = True := eq_true (by omega)
      have hc : Ev (fun k => cl65.f k y.f0 y.f1 y.f2 y.f3) (!vldC y) := by
        refine Ev.succ ?_
        simp only [cl65.f]
        exact Ev.bind (hp y (List.mem_of_getElem? hy)) (Ev.now _)
      constructor
      · intro hq
        refine Ev.succ ?_
        simp only [slices_IndexFunc77_65.l0, h1, h2, if_true, rd_at_T58 hy]
        refine Ev.bind hc ?_
        simp only [hq, if_true]
        exact Ev.now _
      · intro hq he
        refine Ev.succ ?_
        simp only [slices_IndexFunc77_65.l0, h1, h2, if_true, rd_at_T58 hy, wr1 hj (by omega)]
        refine Ev.bind hc ?_
        simp only [hq, Bool.false_eq_true, if_false]
        exact he
  have hC : Ev (fun k => slices_ContainsFunc64_65.f k x.f3) (x.f3.any (fun y => !vldC y)) := by
    refine Ev.succ ?_
    simp only [slices_ContainsFunc64_65.f]
    exact Ev.bind hI (Ev.eqv (idxV_anyI (fun y => !vldC y) x.f3 0 (by omega)) (Ev.now _))
  refine Ev.bind hC ?_
  refine Ev.eqv ?_ (Ev.now _)
  simp [List.any_eq_not_all_not]
theorem impl_areNodes_ev (x : S58) (h : n58 x ≤ 1048576) : Ev (fun k => impl_areNodes.f k x.f0 x.f1 x.f2 x.f3) (vldC x) := impl_areNodes_evN _ x (Nat.le_refl _) h

-- impl_IsCond
theorem impl_IsCond_ev (x : S58) (h : n58 x ≤ 1048576) : Ev (fun k => impl_IsCond.f k x.f0 x.f1 x.f2 x.f3) (condB x) := by
  unfold impl_IsCond.f condB
  refine Ev.bind (impl_SizeOf_ev x h) ?_
  by_cases c : 1 + (n58 x : Int) ≤ 15
  · simp only [if_pos c, decide_eq_true c, Bool.true_and]
    exact Ev.bind (impl_areNodes_ev x h) (Ev.now _)
  · simp only [if_neg c, decide_eq_false c, Bool.false_and]
    exact Ev.now _

-- impl_IsRule
def ruleB (r : S60) : Bool := inB r.f0 0 1 && (inB r.f1 (-1) 5 && ((r.f2 == -1 || kindB r.f2 4) && condB r.f3))
def polB (v : Int) (P : List S60) : Bool := inB v 0 999 && (decide ((P.length : Int) ≤ 8) && P.all ruleB)
theorem rule_n (r : S60) : n58 r.f3 ≤ n60 r := by unfold n60; omega
/-- The rules' sizes, in all. -/
def nPol (P : List S60) : Nat := P.length + (P.map n60).sum
theorem impl_IsRule_ev (r : S60) (h : n60 r ≤ 1048576) : Ev (fun k => impl_IsRule.f k r.f0 r.f1 r.f2 r.f3.f0 r.f3.f1 r.f3.f2 r.f3.f3) (ruleB r) := by
  have hc := impl_IsCond_ev r.f3 (by have := rule_n r; omega)
  unfold impl_IsRule.f ruleB
  simp only [impl_InRange_eq, impl_HasKind_eq, Option.bind_some]
  refine Ev.bifT fun _ => Ev.bifT fun _ => ?_
  by_cases c : r.f2 = -1
  · simp only [if_pos c, beq_iff_eq.2 c, Bool.true_or, Bool.true_and]
    exact Ev.bind hc (Ev.now _)
  · simp only [if_neg c, beq_eq_false_iff_ne.2 c, Bool.false_or]
    exact Ev.bifT fun _ => Ev.bind hc (Ev.now _)

-- impl_IsPolicy
theorem impl_IsPolicy_ev (v : Int) (P : List S60) (h : nPol P ≤ 1048576) : Ev (fun k => impl_IsPolicy.f k v P) (polB v P) := by
  unfold nPol at h
  unfold impl_IsPolicy.f polB
  simp only [impl_InRange_eq, Option.bind_some]
  have hI : Ev (fun k => slices_IndexFunc41_26.f k P) (idxV (fun x => !ruleB x) P 0) := by
    unfold slices_IndexFunc41_26.f
    refine idx_ev (fun k i => slices_IndexFunc41_26.l0 k P (P.length : Int) i) (fun x => !ruleB x) P 0 P.length (by omega) ?_ ?_
    · refine Ev.succ ?_
      simp only [slices_IndexFunc41_26.l0, Int.lt_irrefl, if_false]
      exact Ev.now _
    · intro j x r _ hx
      rw [Nat.sub_zero] at hx
      have hj := lt_of_get hx
      have hn := le_sum n60 hx
      have h1 : ((j : Int) < (P.length : Int)) = True := eq_true (by omega)
      have h2 : (0 ≤ (j : Int)) = True := eq_true (by omega)
      have hc : Ev (fun k => cl26.f k x.f0 x.f1 x.f2 x.f3.f0 x.f3.f1 x.f3.f2 x.f3.f3) (!ruleB x) := by
        unfold cl26.f
        exact Ev.bind (impl_IsRule_ev _ (by omega)) (Ev.now _)
      constructor
      · intro hq
        refine Ev.succ ?_
        simp only [slices_IndexFunc41_26.l0, h1, h2, if_true, rd_at_T60 hx]
        refine Ev.bind hc ?_
        simp only [hq, if_true]
        exact Ev.now _
      · intro hq he
        refine Ev.succ ?_
        simp only [slices_IndexFunc41_26.l0, h1, h2, if_true, rd_at_T60 hx, wr1 hj (by omega)]
        refine Ev.bind hc ?_
        simp only [hq, Bool.false_eq_true, if_false]
        exact he
  refine Ev.bifT fun _ => Ev.dand fun _ => ?_
  have hC : Ev (fun k => slices_ContainsFunc25_26.f k P) (P.any (fun x => !ruleB x)) := by
    unfold slices_ContainsFunc25_26.f
    exact Ev.bind hI (Ev.eqv (idxV_anyI (fun x => !ruleB x) P 0 (by omega)) (Ev.now _))
  refine Ev.bind hC ?_
  refine Ev.eqv ?_ (Ev.now _)
  simp [List.any_eq_not_all_not]

-- impl_IsFor
def forB (x : S60) (a o : Int) : Bool := (decide (x.f1 = -1) || decide (x.f1 = a)) && (decide (x.f2 = -1) || decide (x.f2 = o))
theorem impl_IsFor_eq (x : S60) (a o : Int) : impl_IsFor.f x.f0 x.f1 x.f2 x.f3.f0 x.f3.f1 x.f3.f2 x.f3.f3 a o = some (forB x a o) := by
  unfold impl_IsFor.f forB
  by_cases c1 : x.f1 = -1
  · rw [if_pos c1]
    by_cases c2 : x.f2 = -1
    · rw [if_pos c2]; simp [c1, c2]
    · rw [if_neg c2]; simp [c1, c2, Bool.beq_eq_decide_eq]
  · rw [if_neg c1]
    by_cases c3 : x.f1 = a
    · rw [if_pos c3]
      by_cases c2 : x.f2 = -1
      · rw [if_pos c2]; simp [c3, c2]
      · rw [if_neg c2]; simp [c3, c2, Bool.beq_eq_decide_eq]
    · rw [if_neg c3]; simp [c1, c3]

-- impl_isClaim
theorem impl_isClaim_eq (x : S87) : impl_isClaim.f x.f0 x.f1 x.f2 x.f3 x.f4 x.f5 = some (claimB x) := by
  unfold impl_isClaim.f claimB
  simp only [impl_HasKind_eq, impl_InRange_eq, Option.bind_some, ite_and]
  (repeat' split) <;> rfl

-- impl_IsFact
theorem impl_IsFact_eq (x : S87) : impl_IsFact.f x.f0 x.f1 x.f2 x.f3 x.f4 x.f5 = some (factB x) := by
  unfold impl_IsFact.f factB
  simp only [impl_isClaim_eq, impl_InRange_eq, impl_IsTime_eq, Option.bind_some, ite_and]

-- impl_IsWithin
def withB (a b c : Int) : Bool := timeB a && (timeB b && (timeB c && inB c a b))
theorem impl_IsWithin_eq (a b c : Int) : impl_IsWithin.f a b c = some (withB a b c) := by
  unfold impl_IsWithin.f withB
  simp only [impl_IsTime_eq, impl_InRange_eq, Option.bind_some]
  cases timeB a <;> cases timeB b <;> cases timeB c <;> rfl

-- impl_AgeOf
def ageV (a b : Int) : Int := if timeB a = true ∧ timeB b = true ∧ a ≤ b then b - a else -1
def freshV (a b m : Int) : Bool := if ageV a b = -1 then false else decide (ageV a b ≤ m)
theorem timeAt {t : Int} (h : timeB t = true) : 0 ≤ t ∧ t ≤ 10000 := inB_iff.1 h
theorem ageV_cases (a b : Int) : ageV a b = -1 ∨ 0 ≤ ageV a b := by
  unfold ageV
  split
  · right; omega
  · left; rfl
theorem impl_AgeOf_eq (a b : Int) : impl_AgeOf.f a b = some (ageV a b) := by
  unfold impl_AgeOf.f ageV
  simp only [impl_IsTime_eq, Option.bind_some]
  by_cases c1 : timeB a = true
  · by_cases c2 : timeB b = true
    · have h1 := timeAt c1
      have h2 := timeAt c2
      by_cases c3 : a > b
      · simp only [if_pos c1, if_pos c2, if_pos c3, if_neg (show ¬ (timeB a = true ∧ timeB b = true ∧ a ≤ b) from fun h => by omega)]
      · simp only [if_pos c1, if_pos c2, if_neg c3, if_pos (show timeB a = true ∧ timeB b = true ∧ a ≤ b from ⟨c1, c2, by omega⟩), wr (x := b - a) (by omega) (by omega)]
    · simp only [if_pos c1, if_neg c2, if_neg (show ¬ (timeB a = true ∧ timeB b = true ∧ a ≤ b) from fun h => c2 h.2.1)]
  · simp only [if_neg c1, if_neg (show ¬ (timeB a = true ∧ timeB b = true ∧ a ≤ b) from fun h => c1 h.1)]

-- impl_HoldsAt
def withinB (a b t : Int) : Bool := timeB a && (timeB b && (timeB t && (decide (a ≤ t) && decide (t ≤ b))))
def holdsB (x : S87) (now age : Int) : Bool := factB x && (withinB x.f4 x.f5 now && freshV x.f4 now age)
theorem fresh_age {a t : Int} (ha : timeB a = true) (ht : timeB t = true) (h : a ≤ t) (m : Int) : freshV a t m = decide (ageV a t ≤ m) := by
  unfold freshV
  have e : ageV a t = t - a := by unfold ageV; rw [if_pos ⟨ha, ht, h⟩]
  rw [e, if_neg (by omega)]
theorem within_iff {a b t : Int} (h : withinB a b t = true) : timeB a = true ∧ timeB b = true ∧ timeB t = true ∧ a ≤ t ∧ t ≤ b := by
  simpa [withinB, and_assoc] using h
theorem withB_in (a b c : Int) : withB a b c = withinB a b c := rfl
theorem impl_HoldsAt_eq (x : S87) (t a : Int) : impl_HoldsAt.f x.f0 x.f1 x.f2 x.f3 x.f4 x.f5 t a = some (holdsB x t a) := by
  unfold impl_HoldsAt.f holdsB
  simp only [impl_IsFact_eq, impl_IsWithin_eq, withB_in, impl_AgeOf_eq, Option.bind_some]
  cases factB x
  · simp
  · cases h : withinB x.f4 x.f5 t
    · simp
    · have h2 := within_iff h
      simp only [if_true, Bool.true_and]
      rw [fresh_age h2.1 h2.2.2.1 h2.2.2.2.1]

-- impl_isRole
-- told elsewhere

-- impl_below
def roleB (n : Int) : Bool := decide (0 ≤ n) && decide (n ≤ 5)
def mkR (m : List Bool) (r : Int) : Bool := m.getD r.toNat false
def visX (a : Int) (s : List Bool × List Int) (x : S100) : List Bool × List Int := if x.f0 = a ∧ roleB x.f1 = true ∧ mkR s.1 x.f1 = false then (s.1.set x.f1.toNat true, s.2 ++ [x.f1]) else s
def popX (l : List S100) (a : Int) (s : List Bool × List Int) : List Bool × List Int := l.foldl (visX a) s
def bfsX (l : List S100) : Nat → List Int → List Bool → Option (List Bool)
  | 0, _, _ => none
  | _ + 1, [], m => some m
  | k + 1, a :: rest, m => bfsX l k (popX l a (m, rest)).2 (popX l a (m, rest)).1
/-- An edge between roles. -/
def edgeP (l : List S100) (a b : Int) : Prop := ∃ x ∈ l, x.f0 = a ∧ x.f1 = b ∧ roleB a = true ∧ roleB b = true
inductive Rch (l : List S100) (a : Int) : Int → Prop
  | refl : Rch l a a
  | step {b c : Int} : Rch l a b → edgeP l b c → Rch l a c
theorem Rch.trans {l : List S100} {a b c : Int} (h1 : Rch l a b) (h2 : Rch l b c) : Rch l a c := by
  induction h2 with
  | refl => exact h1
  | step _ e ih => exact .step ih e
/-- By one edge or more. -/
def RchP (l : List S100) (a c : Int) : Prop := ∃ b, edgeP l a b ∧ Rch l b c
theorem RchP.step {l : List S100} {a b c : Int} (h : RchP l a b) (e : edgeP l b c) : RchP l a c := by
  obtain ⟨d, h1, h2⟩ := h
  exact ⟨d, h1, .step h2 e⟩
theorem Rch_iff {l : List S100} {a c : Int} : Rch l a c ↔ a = c ∨ RchP l a c := by
  constructor
  · intro h
    induction h with
    | refl => exact .inl rfl
    | step h e ih =>
      rcases ih with rfl | ih
      · exact .inr ⟨_, e, .refl⟩
      · exact .inr (ih.step e)
  · rintro (rfl | ⟨b, e, h⟩)
    · exact .refl
    · exact Rch.trans (.step .refl e) h
def markX (m : List Bool) (x : S100) : List Bool := if roleB x.f0 && roleB x.f1 && mkR m x.f0 then m.set x.f1.toNat true else m
def roundX (l : List S100) (m : List Bool) : List Bool := l.foldl markX m
def itX (l : List S100) : Nat → List Bool → List Bool
  | 0, m => m
  | n + 1, m => itX l n (roundX l m)
theorem roleB_iff {n : Int} : roleB n = true ↔ 0 ≤ n ∧ n ≤ 5 := by simp [roleB]
theorem mk_set {m : List Bool} (hm : m.length = 6) {r : Int} (hr : roleB r = true) (q : Int) (hq : roleB q = true) : mkR (m.set r.toNat true) q = (decide (q = r) || mkR m q) := by
  rw [roleB_iff] at hr hq
  unfold mkR
  rw [List.getD_eq_getElem?_getD, List.getD_eq_getElem?_getD]
  by_cases h : q = r
  · subst h
    rw [List.getElem?_set_self (by omega)]
    simp
  · rw [List.getElem?_set_ne (by omega)]
    simp [h]
theorem markX_len {m : List Bool} (x : S100) : (markX m x).length = m.length := by
  unfold markX; split <;> simp
theorem roundX_len (l : List S100) : ∀ m : List Bool, (roundX l m).length = m.length := by
  unfold roundX
  induction l with
  | nil => intro m; rfl
  | cons x l ih => intro m; rw [List.foldl_cons, ih, markX_len]
theorem mk_markX {m : List Bool} (hm : m.length = 6) (x : S100) (q : Int) (hq : roleB q = true) : mkR (markX m x) q = (mkR m q || (decide (q = x.f1) && (roleB x.f0 && roleB x.f1 && mkR m x.f0))) := by
  unfold markX
  split
  · rename_i h
    rw [h]
    simp only [Bool.and_eq_true] at h
    rw [mk_set hm h.1.2 q hq, Bool.and_true, Bool.or_comm]
  · rename_i h
    rw [Bool.not_eq_true] at h
    rw [h]; simp
theorem mk_mono_markX {m : List Bool} (hm : m.length = 6) (x : S100) {q : Int} (hq : roleB q = true) (h : mkR m q = true) : mkR (markX m x) q = true := by
  rw [mk_markX hm x q hq, h]; rfl
theorem mk_mono_round (l : List S100) : ∀ {m : List Bool}, m.length = 6 → ∀ {q : Int}, roleB q = true → mkR m q = true → mkR (roundX l m) q = true := by
  unfold roundX
  induction l with
  | nil => intro m hm q hq h; exact h
  | cons x l ih => intro m hm q hq h; exact ih (m := markX m x) (by rw [markX_len]; exact hm) hq (mk_mono_markX hm x hq h)
/-- A round marks what an edge leads to. -/
theorem round_edge (l : List S100) : ∀ {m : List Bool}, m.length = 6 → ∀ {a b : Int}, edgeP l a b → mkR m a = true → mkR (roundX l m) b = true := by
  induction l with
  | nil => rintro m hm a b ⟨x, hx, _⟩; cases hx
  | cons x l ih =>
    rintro m hm a b ⟨y, hy, rfl, rfl, ha, hb⟩ h
    have hl : (markX m x).length = 6 := by rw [markX_len]; exact hm
    change mkR (roundX l (markX m x)) y.f1 = true
    rcases List.mem_cons.1 hy with rfl | hy
    · refine mk_mono_round l hl hb ?_
      rw [mk_markX hm y _ hb, ha, hb, h]; simp
    · exact ih hl ⟨y, hy, rfl, rfl, ha, hb⟩ (mk_mono_markX hm x ha h)
/-- A round marks nothing else. -/
theorem round_sound (l0 : List S100) (P : Int → Prop) (hP : ∀ a b, P a → edgeP l0 a b → P b) (l : List S100) (hl : ∀ x ∈ l, x ∈ l0) : ∀ {m : List Bool}, m.length = 6 → (∀ q, roleB q = true → mkR m q = true → P q) → ∀ q, roleB q = true → mkR (roundX l m) q = true → P q := by
  induction l with
  | nil => intro m hm h q hq hk; exact h q hq hk
  | cons x l ih =>
    intro m hm h
    refine ih (fun y hy => hl y (List.mem_cons_of_mem _ hy)) (m := markX m x) (by rw [markX_len]; exact hm) ?_
    intro q hq hk
    rw [mk_markX hm x q hq, Bool.or_eq_true] at hk
    rcases hk with hk | hk
    · exact h q hq hk
    · simp only [Bool.and_eq_true, decide_eq_true_eq] at hk
      obtain ⟨rfl, ⟨h1, h2⟩, h3⟩ := hk
      exact hP x.f0 x.f1 (h _ h1 h3) ⟨x, hl x List.mem_cons_self, rfl, rfl, h1, h2⟩
def cntB (m : List Bool) : Nat := m.countP id
theorem cnt_set : ∀ (m : List Bool) (i : Nat), cntB m ≤ cntB (m.set i true) ∧ (m[i]? = some false → cntB m < cntB (m.set i true)) := by
  intro m
  induction m with
  | nil => intro i; simp
  | cons b m ih =>
    intro i
    cases i with
    | zero => cases b <;> simp [cntB]
    | succ i =>
      have := ih i
      simp only [List.set_cons_succ, List.getElem?_cons_succ, cntB, List.countP_cons] at this ⊢
      exact ⟨by omega, fun h => by have := this.2 h; omega⟩
theorem cnt_markX (m : List Bool) (hm : m.length = 6) (x : S100) : cntB m ≤ cntB (markX m x) ∧ (markX m x = m ∨ cntB m < cntB (markX m x)) := by
  unfold markX
  split
  · rename_i h
    simp only [Bool.and_eq_true, roleB_iff] at h
    have hlt : x.f1.toNat < m.length := by omega
    refine ⟨(cnt_set m _).1, ?_⟩
    cases hb : m[x.f1.toNat] with
    | true =>
      left
      apply List.ext_getElem?
      intro j
      by_cases e : x.f1.toNat = j
      · subst e; rw [List.getElem?_set_self hlt, List.getElem?_eq_getElem hlt, hb]
      · rw [List.getElem?_set_ne e]
    | false => exact .inr ((cnt_set m _).2 (by rw [List.getElem?_eq_getElem hlt, hb]))
  · exact ⟨Nat.le_refl _, .inl rfl⟩
theorem cnt_round (l : List S100) : ∀ (m : List Bool), m.length = 6 → cntB m ≤ cntB (roundX l m) ∧ (roundX l m = m ∨ cntB m < cntB (roundX l m)) := by
  induction l with
  | nil => intro m hm; exact ⟨Nat.le_refl _, .inl rfl⟩
  | cons x l ih =>
    intro m hm
    obtain ⟨h1, h2⟩ := cnt_markX m hm x
    obtain ⟨h3, h4⟩ := ih (markX m x) (by rw [markX_len]; exact hm)
    change cntB m ≤ cntB (roundX l (markX m x)) ∧ (roundX l (markX m x) = m ∨ cntB m < cntB (roundX l (markX m x)))
    refine ⟨by omega, ?_⟩
    rcases h2 with h2 | h2
    · rw [h2] at h4 ⊢; exact h4
    · right; omega
theorem cnt_le (m : List Bool) : cntB m ≤ m.length := List.countP_le_length
theorem itX_len (l : List S100) : ∀ (n : Nat) (m : List Bool), (itX l n m).length = m.length := by
  intro n
  induction n with
  | zero => intro m; rfl
  | succ n ih => intro m; change (itX l n (roundX l m)).length = _; rw [ih, roundX_len]
theorem itX_fix (l : List S100) : ∀ (n : Nat) (m : List Bool), roundX l m = m → itX l n m = m := by
  intro n
  induction n with
  | zero => intro m _; rfl
  | succ n ih => intro m h; change itX l n (roundX l m) = m; rw [h]; exact ih m h
/-- After so many rounds as there are unmarked ones, and one, nothing changes. -/
theorem itX_closed (l : List S100) : ∀ (n : Nat) (m : List Bool), m.length = 6 → 6 ≤ cntB m + n → roundX l (itX l n m) = itX l n m := by
  intro n
  induction n with
  | zero =>
    intro m hm h
    rcases (cnt_round l m hm).2 with h2 | h2
    · exact h2
    · have := cnt_le (roundX l m); rw [roundX_len] at this; omega
  | succ n ih =>
    intro m hm h
    change roundX l (itX l n (roundX l m)) = itX l n (roundX l m)
    rcases (cnt_round l m hm).2 with h2 | h2
    · rw [h2, itX_fix l n m h2]; exact h2
    · exact ih _ (by rw [roundX_len]; exact hm) (by omega)
theorem itX_sound (l : List S100) (P : Int → Prop) (hP : ∀ a b, P a → edgeP l a b → P b) : ∀ (n : Nat) (m : List Bool), m.length = 6 → (∀ q, roleB q = true → mkR m q = true → P q) → ∀ q, roleB q = true → mkR (itX l n m) q = true → P q := by
  intro n
  induction n with
  | zero => intro m _ h; exact h
  | succ n ih => intro m hm h; exact ih _ (by rw [roundX_len]; exact hm) (round_sound l P hP l (fun _ h => h) hm h)
theorem itX_mono (l : List S100) : ∀ (n : Nat) (m : List Bool), m.length = 6 → ∀ q, roleB q = true → mkR m q = true → mkR (itX l n m) q = true := by
  intro n
  induction n with
  | zero => intro m _ q _ h; exact h
  | succ n ih => intro m hm q hq h; exact ih _ (by rw [roundX_len]; exact hm) q hq (mk_mono_round l hm hq h)
def closX (l : List S100) (role : Int) : List Bool := itX l 6 ((List.replicate 6 false).set role.toNat true)
theorem mk_start {role : Int} (hr : roleB role = true) (q : Int) (hq : roleB q = true) : mkR ((List.replicate 6 false).set role.toNat true) q = decide (q = role) := by
  rw [mk_set (by simp) hr q hq]
  have : mkR (List.replicate 6 false) q = false := by
    unfold mkR
    rw [List.getD_eq_getElem?_getD, List.getElem?_replicate]
    split <;> rfl
  rw [this, Bool.or_false]
theorem closX_iff (l : List S100) {role : Int} (hr : roleB role = true) {q : Int} (hq : roleB q = true) : mkR (closX l role) q = true ↔ Rch l role q := by
  have hl : ((List.replicate 6 false).set role.toNat true).length = 6 := by simp
  constructor
  · exact itX_sound l (Rch l role) (fun a b h e => .step h e) 6 _ hl (fun q hq h => by
      rw [mk_start hr q hq, decide_eq_true_eq] at h; subst h; exact .refl) q hq
  · intro h
    have hc : roundX l (closX l role) = closX l role := itX_closed l 6 _ hl (by omega)
    have h6 : (closX l role).length = 6 := by unfold closX; rw [itX_len]; exact hl
    have key : roleB q = true ∧ mkR (closX l role) q = true := by
      clear hq
      induction h with
      | refl => exact ⟨hr, itX_mono l 6 _ hl _ hr (by rw [mk_start hr _ hr]; simp)⟩
      | step h e ih =>
        have := round_edge l h6 e ih.2
        rw [hc] at this
        obtain ⟨x, _, _, _, _, hb⟩ := e
        exact ⟨hb, this⟩
    exact key.2

theorem visX_len (a : Int) (s : List Bool × List Int) (x : S100) : (visX a s x).1.length = s.1.length := by
  unfold visX; split <;> simp
theorem popX_len (l : List S100) (a : Int) : ∀ s : List Bool × List Int, (popX l a s).1.length = s.1.length := by
  unfold popX
  induction l with
  | nil => intro s; rfl
  | cons x l ih => intro s; rw [List.foldl_cons, ih, visX_len]
theorem cnt_set_lt {m : List Bool} {r : Int} (hm : m.length = 6) (hr : roleB r = true) (h : mkR m r = false) : cntB (m.set r.toNat true) = cntB m + 1 := by
  rw [roleB_iff] at hr
  have hlt : r.toNat < m.length := by omega
  have hb : m[r.toNat] = false := by
    unfold mkR at h; rw [List.getD_eq_getElem?_getD, List.getElem?_eq_getElem hlt] at h; exact h
  have key : ∀ (m : List Bool) (i : Nat), m[i]? = some false → cntB (m.set i true) = cntB m + 1 := by
    intro m
    induction m with
    | nil => intro i h; simp at h
    | cons b m ih =>
      intro i h
      cases i with
      | zero => simp at h; subst h; simp [cntB]
      | succ i =>
        have := ih i (by simpa using h)
        simp only [List.set_cons_succ, cntB, List.countP_cons] at this ⊢
        omega
  exact key m _ (by rw [List.getElem?_eq_getElem hlt, hb])
/-- What one visit does: what is marked stays, all is told. -/
structure VisOk (l0 : List S100) (a : Int) (s t : List Bool × List Int) : Prop where
  len : t.1.length = 6
  sum : t.2.length + (6 - cntB t.1) = s.2.length + (6 - cntB s.1)
  le : cntB s.1 ≤ cntB t.1
  mono : ∀ q, roleB q = true → mkR s.1 q = true → mkR t.1 q = true
  old : ∀ q, q ∈ s.2 → q ∈ t.2
  new : ∀ q, roleB q = true → mkR t.1 q = true → mkR s.1 q = true ∨ (q ∈ t.2 ∧ edgeP l0 a q)
  newq : ∀ q, q ∈ t.2 → q ∈ s.2 ∨ edgeP l0 a q
theorem VisOk.rfl' {l0 : List S100} {a : Int} {s : List Bool × List Int} (h : s.1.length = 6) : VisOk l0 a s s := ⟨h, rfl, Nat.le_refl _, fun _ _ h => h, fun _ h => h, fun _ _ h => .inl h, fun _ h => .inl h⟩
theorem vis_ok (l0 : List S100) (a : Int) (ha : roleB a = true) (s : List Bool × List Int) (h : s.1.length = 6) (x : S100) (hx : x ∈ l0) : VisOk l0 a s (visX a s x) := by
  unfold visX
  split
  · rename_i hc
    obtain ⟨h1, h2, h3⟩ := hc
    have e : edgeP l0 a x.f1 := ⟨x, hx, h1, rfl, ha, h2⟩
    have hcn := cnt_set_lt h h2 h3
    have hle := cnt_le (s.1.set x.f1.toNat true)
    rw [List.length_set] at hle
    refine ⟨by simp [h], ?_, by rw [hcn]; omega, fun q hq hm => ?_, fun q hq => List.mem_append_left _ hq, fun q hq hm => ?_, fun q hq => ?_⟩
    · simp only [List.length_append, List.length_singleton, hcn]; omega
    · show mkR (s.1.set _ true) q = true
      rw [mk_set h h2 q hq, hm, Bool.or_true]
    · rw [show (s.1.set x.f1.toNat true, s.2 ++ [x.f1]).1 = s.1.set x.f1.toNat true from rfl, mk_set h h2 q hq, Bool.or_eq_true, decide_eq_true_eq] at hm
      rcases hm with rfl | hm
      · exact .inr ⟨by simp, e⟩
      · exact .inl hm
    · rcases List.mem_append.1 hq with hq | hq
      · exact .inl hq
      · rw [List.mem_singleton.1 hq]; exact .inr e
  · exact VisOk.rfl' h
theorem VisOk.trans {l0 : List S100} {a : Int} {s t u : List Bool × List Int} (h1 : VisOk l0 a s t) (h2 : VisOk l0 a t u) : VisOk l0 a s u :=
  ⟨h2.len, h2.sum.trans h1.sum, Nat.le_trans h1.le h2.le, fun q hq h => h2.mono q hq (h1.mono q hq h), fun q h => h2.old q (h1.old q h),
    fun q hq h => by
      rcases h2.new q hq h with h | h
      · rcases h1.new q hq h with h | ⟨h, e⟩
        · exact .inl h
        · exact .inr ⟨h2.old q h, e⟩
      · exact .inr h,
    fun q h => by
      rcases h2.newq q h with h | h
      · exact h1.newq q h
      · exact .inr h⟩
theorem pop_ok (l0 : List S100) (a : Int) (ha : roleB a = true) (l : List S100) (hl : ∀ x ∈ l, x ∈ l0) : ∀ (s : List Bool × List Int), s.1.length = 6 → VisOk l0 a s (popX l a s) ∧ ∀ x ∈ l, x.f0 = a → roleB x.f1 = true → mkR (popX l a s).1 x.f1 = true := by
  unfold popX
  induction l with
  | nil => intro s h; exact ⟨VisOk.rfl' h, by intro x hx; cases hx⟩
  | cons x l ih =>
    intro s h
    have h1 := vis_ok l0 a ha s h x (hl x List.mem_cons_self)
    obtain ⟨h2, h3⟩ := ih (fun y hy => hl y (List.mem_cons_of_mem _ hy)) (visX a s x) h1.len
    refine ⟨h1.trans h2, fun y hy e1 e2 => ?_⟩
    rw [List.foldl_cons]
    rcases List.mem_cons.1 hy with rfl | hy
    · refine h2.mono _ e2 ?_
      unfold visX
      split
      · rw [show (s.1.set y.f1.toNat true, s.2 ++ [y.f1]).1 = s.1.set y.f1.toNat true from rfl, mk_set h e2 _ e2]; simp
      · rename_i hc
        cases hmk : mkR s.1 y.f1 with
        | true => rfl
        | false => exact absurd ⟨e1, e2, hmk⟩ hc
    · exact h3 y hy e1 e2
theorem bfsX_nil (l : List S100) (role : Int) (k : Nat) (m : List Bool) (hk : 0 < k) (hm : m.length = 6) (hs : ∀ q, roleB q = true → mkR m q = true → RchP l role q) (hc : ∀ a, (a = role ∨ roleB a = true ∧ mkR m a = true) → a ∈ ([] : List Int) ∨ ∀ b, edgeP l a b → mkR m b = true) :
    ∃ r, bfsX l k [] m = some r ∧ r.length = 6 ∧ ∀ q, roleB q = true → (mkR r q = true ↔ RchP l role q) := by
  obtain ⟨k, rfl⟩ : ∃ j, k = j + 1 := ⟨k - 1, by omega⟩
  refine ⟨m, rfl, hm, fun q hq => ⟨hs q hq, ?_⟩⟩
  rintro ⟨b, e, h⟩
  have h0 : mkR m b = true := (hc role (.inl rfl)).elim (fun h => absurd h (by simp)) (fun h => h b e)
  have key : mkR m q = true := by
    clear hq
    induction h with
    | refl => exact h0
    | step h e2 ih =>
      obtain ⟨x, _, _, _, hb, _⟩ := id e2
      exact (hc _ (.inr ⟨hb, ih⟩)).elim (fun h => absurd h (by simp)) (fun h => h _ e2)
  exact key
/-- What the search says of a role: all that it comes to by one pair or more. -/
theorem bfsX_spec (l : List S100) (role : Int) (hr : roleB role = true) : ∀ (d k : Nat) (todo : List Int) (m : List Bool), m.length = 6 → todo.length + (6 - cntB m) ≤ d → d < k →
    (∀ q ∈ todo, roleB q = true ∧ Rch l role q) → (∀ q, roleB q = true → mkR m q = true → RchP l role q) → (∀ a, (a = role ∨ roleB a = true ∧ mkR m a = true) → a ∈ todo ∨ ∀ b, edgeP l a b → mkR m b = true) →
    ∃ r, bfsX l k todo m = some r ∧ r.length = 6 ∧ ∀ q, roleB q = true → (mkR r q = true ↔ RchP l role q) := by
  intro d
  induction d with
  | zero =>
    intro k todo m hm hd hk ht hs hc
    cases todo with
    | cons a rest => simp at hd
    | nil => exact bfsX_nil l role k m (by omega) hm hs hc
  | succ d ih =>
    intro k todo m hm hd hk ht hs hc
    cases todo with
    | nil => exact bfsX_nil l role k m (by omega) hm hs hc
    | cons a rest =>
      obtain ⟨k, rfl⟩ : ∃ j, k = j + 1 := ⟨k - 1, by omega⟩
      obtain ⟨ha, hra⟩ := ht a List.mem_cons_self
      obtain ⟨ok, hall⟩ := pop_ok l a ha l (fun _ h => h) (m, rest) hm
      refine ih k _ _ ok.len (by have := ok.sum; simp only [List.length_cons] at hd this ⊢; omega) (by omega) (fun q hq => ?_) (fun q hq hmq => ?_) (fun b hb => ?_)
      · rcases ok.newq q hq with h | h
        · exact ht q (List.mem_cons_of_mem _ h)
        · obtain ⟨x, _, _, _, _, hb⟩ := id h
          exact ⟨hb, .step hra h⟩
      · rcases ok.new q hq hmq with h | ⟨_, h⟩
        · exact hs q hq h
        · rcases Rch_iff.1 hra with rfl | h2
          · exact ⟨q, h, .refl⟩
          · exact h2.step h
      · have hmono : ∀ c, mkR m c = true → roleB c = true → mkR (popX l a (m, rest)).1 c = true := fun c h hcr => ok.mono c hcr h
        have edgeR : ∀ {c e : Int}, edgeP l c e → roleB e = true := fun ⟨_, _, _, _, _, h⟩ => h
        by_cases hba : b = a
        · subst hba
          right
          rintro c ⟨x, hx, e1, e2, _, hcr⟩
          subst e2
          exact hall x hx e1 hcr
        · have hold : b = role ∨ roleB b = true ∧ mkR m b = true ∨ b ∈ (popX l a (m, rest)).2 := by
            rcases hb with rfl | ⟨h1, h2⟩
            · exact .inl rfl
            · rcases ok.new b h1 h2 with h | ⟨h, _⟩
              · exact .inr (.inl ⟨h1, h⟩)
              · exact .inr (.inr h)
          rcases hold with h | h | h
          · rcases hc b (.inl h) with h3 | h3
            · rcases List.mem_cons.1 h3 with h3 | h3
              · exact absurd h3 hba
              · exact .inl (ok.old b h3)
            · exact .inr fun c e => hmono c (h3 c e) (edgeR e)
          · rcases hc b (.inr h) with h3 | h3
            · rcases List.mem_cons.1 h3 with h3 | h3
              · exact absurd h3 hba
              · exact .inl (ok.old b h3)
            · exact .inr fun c e => hmono c (h3 c e) (edgeR e)
          · exact .inl h
theorem below_spec (l : List S100) (role : Int) (hr : roleB role = true) (k : Nat) (hk : 8 ≤ k) : ∃ r, bfsX l k [role] (List.replicate 6 false) = some r ∧ r.length = 6 ∧ ∀ q, roleB q = true → (mkR r q = true ↔ RchP l role q) := by
  have h0 : ∀ q, mkR (List.replicate 6 false) q = false := by
    intro q
    unfold mkR
    rw [List.getD_eq_getElem?_getD, List.getElem?_replicate]
    split <;> rfl
  refine bfsX_spec l role hr 7 k [role] _ (by simp) (by simp; omega) (by omega) (fun q hq => ?_) (fun q _ h => ?_) (fun a ha => ?_)
  · rw [List.mem_singleton.1 hq]; exact ⟨hr, .refl⟩
  · rw [h0] at h; cases h
  · rcases ha with rfl | ⟨_, h⟩
    · exact .inl (by simp)
    · rw [h0] at h; cases h
def hasI (l : List Int) (a : Int) : Bool := l.any (fun x => decide (a = x))
def underB (a b : List Int) : Bool := !(a.any fun x => !hasI b x)
/-- The roles under a role. -/
def outV (m : List Bool) : List Int := [0, 1, 2, 3, 4, 5].filter (fun r => mkR m r)
def rolesV (l : List S100) (role : Int) : List Int := if inB role 0 5 = true then outV (closX l role) else []
def pairP (l : List S100) (x : S100) : Bool := roleB x.f0 && (roleB x.f1 && !hasI (rolesV l x.f1) x.f0)
def pairsB (l : List S100) : Bool := l.all (pairP l) && decide ((l.length : Int) ≤ 10)
theorem roleB_in (n : Int) : inB n 0 5 = roleB n := rfl
theorem has_out (m : List Bool) (r : Int) (hr : roleB r = true) : hasI (outV m) r = mkR m r := by
  have h := roleB_iff.1 hr
  unfold hasI outV
  rw [Bool.eq_iff_iff, List.any_eq_true]
  constructor
  · rintro ⟨x, hx, he⟩
    rw [of_decide_eq_true he]
    exact (List.mem_filter.1 hx).2
  · intro hm
    exact ⟨r, List.mem_filter.2 ⟨by rcases (by omega : r = 0 ∨ r = 1 ∨ r = 2 ∨ r = 3 ∨ r = 4 ∨ r = 5) with rfl | rfl | rfl | rfl | rfl | rfl <;> simp, hm⟩, decide_eq_true rfl⟩
theorem has_roles (l : List S100) (a b : Int) (ha : roleB a = true) (hb : roleB b = true) : hasI (rolesV l b) a = mkR (closX l b) a := by
  unfold rolesV
  rw [roleB_in, if_pos hb, has_out _ _ ha]
/-- No role leads to itself: told by any of its pairs alike. -/
theorem pairs_alike (l : List S100) (p : S100 → Bool) (hp : ∀ x, p x = true ↔ roleB x.f0 = true ∧ roleB x.f1 = true ∧ ¬ RchP l x.f0 x.f0) : l.all p = l.all (pairP l) := by
  have hq : ∀ x, pairP l x = true ↔ roleB x.f0 = true ∧ roleB x.f1 = true ∧ ¬ Rch l x.f1 x.f0 := by
    intro x
    unfold pairP
    simp only [Bool.and_eq_true, Bool.not_eq_true']
    constructor
    · rintro ⟨h1, h2, h3⟩
      refine ⟨h1, h2, fun h => ?_⟩
      rw [has_roles l _ _ h1 h2, (closX_iff l h2 h1).2 h] at h3
      cases h3
    · rintro ⟨h1, h2, h3⟩
      refine ⟨h1, h2, ?_⟩
      rw [has_roles l _ _ h1 h2]
      cases hm : mkR (closX l x.f1) x.f0 with
      | false => rfl
      | true => exact absurd ((closX_iff l h2 h1).1 hm) h3
  rw [Bool.eq_iff_iff, List.all_eq_true, List.all_eq_true]
  constructor
  · intro h x hx
    obtain ⟨h1, h2, h3⟩ := (hp x).1 (h x hx)
    exact (hq x).2 ⟨h1, h2, fun hr => h3 ⟨x.f1, ⟨x, hx, rfl, rfl, h1, h2⟩, hr⟩⟩
  · intro h x hx
    obtain ⟨h1, h2, _⟩ := (hq x).1 (h x hx)
    refine (hp x).2 ⟨h1, h2, ?_⟩
    rintro ⟨b, ⟨y, hy, e1, rfl, _, _⟩, hr⟩
    have := (hq y).1 (h y hy)
    rw [e1] at this
    exact this.2.2 hr
theorem popX_len2 (l : List S100) (a : Int) : ∀ s : List Bool × List Int, (popX l a s).2.length ≤ s.2.length + l.length := by
  unfold popX
  induction l with
  | nil => intro s; simp
  | cons x l ih =>
    intro s
    rw [List.foldl_cons]
    have := ih (visX a s x)
    have h : (visX a s x).2.length ≤ s.2.length + 1 := by
      unfold visX; split
      · simp
      · omega
    simp only [List.length_cons]
    omega
theorem isRole_role (a : Int) : impl_isRole.f a = some (roleB a) := by
  unfold impl_isRole.f
  rw [impl_InRange_eq]; rfl
theorem below_in (l : List S100) (hl : l.length ≤ 1048576) (a : Int) (c0 c1 c2 c3 c4 c5 : Bool) (r : Bool × Bool × Bool × Bool × Bool × Bool) : ∀ (d i : Nat) (b0 b1 b2 b3 b4 b5 : Bool) (q : List Int), i + d = l.length → q.length + d ≤ 20000000 →
    (∀ (e0 e1 e2 e3 e4 e5 : Bool) (q' : List Int), popX (l.drop i) a ([b0, b1, b2, b3, b4, b5], q) = ([e0, e1, e2, e3, e4, e5], q') → Ev (fun k => impl_below.l0 k l c0 c1 c2 c3 c4 c5 e0 e1 e2 e3 e4 e5 q') r) →
    Ev (fun k => impl_below.l1 k l c0 c1 c2 c3 c4 c5 b0 b1 b2 b3 b4 b5 q a l (l.length : Int) (i : Int)) r := by
  intro d
  induction d with
  | zero =>
    intro i b0 b1 b2 b3 b4 b5 q hi hq h
    obtain rfl : i = l.length := by omega
    refine Ev.succ ?_
    simp only [impl_below.l1, Int.lt_irrefl, if_false]
    exact h _ _ _ _ _ _ _ (by rw [List.drop_length]; rfl)
  | succ d ih =>
    intro i b0 b1 b2 b3 b4 b5 q hi hq h
    have hil : i < l.length := by omega
    obtain ⟨x, hx⟩ := getAt (l := l) (i := i) hil
    have hd : l.drop i = x :: l.drop (i + 1) := by
      rw [List.drop_eq_getElem_cons hil]
      rw [List.getElem?_eq_getElem hil] at hx
      rw [Option.some.inj hx]
    have h1 : ((i : Int) < (l.length : Int)) = True := eq_true (by omega)
    have h2 : (0 ≤ (i : Int)) = True := eq_true (by omega)
    have h3 : (q.length < 17592186044416) = True := eq_true (by omega)
    have go : ∀ (b0 b1 b2 b3 b4 b5 : Bool) (q2 : List Int), q2.length ≤ q.length + 1 → visX a ([b0, b1, b2, b3, b4, b5], q2) x = ([b0, b1, b2, b3, b4, b5], q2) ∨ True → True := fun _ _ _ _ _ _ _ _ _ => trivial
    clear go
    have keep : visX a ([b0, b1, b2, b3, b4, b5], q) x = ([b0, b1, b2, b3, b4, b5], q) → Ev (fun k => impl_below.l1 k l c0 c1 c2 c3 c4 c5 b0 b1 b2 b3 b4 b5 q a l (l.length : Int) ((i + 1 : Nat) : Int)) r := by
      intro hv
      refine ih (i + 1) _ _ _ _ _ _ q (by omega) (by omega) fun e0 e1 e2 e3 e4 e5 q' he => h _ _ _ _ _ _ _ ?_
      rw [hd]
      show popX (l.drop (i + 1)) a (visX a ([b0, b1, b2, b3, b4, b5], q) x) = _
      rw [hv]; exact he
    have put : ∀ (f0 f1 f2 f3 f4 f5 : Bool), visX a ([b0, b1, b2, b3, b4, b5], q) x = ([f0, f1, f2, f3, f4, f5], q ++ [x.f1]) → Ev (fun k => impl_below.l1 k l c0 c1 c2 c3 c4 c5 f0 f1 f2 f3 f4 f5 (q ++ [x.f1]) a l (l.length : Int) ((i + 1 : Nat) : Int)) r := by
      intro f0 f1 f2 f3 f4 f5 hv
      refine ih (i + 1) _ _ _ _ _ _ _ (by omega) (by rw [List.length_append, List.length_singleton]; omega) fun e0 e1 e2 e3 e4 e5 q' he => h _ _ _ _ _ _ _ ?_
      rw [hd]
      show popX (l.drop (i + 1)) a (visX a ([b0, b1, b2, b3, b4, b5], q) x) = _
      rw [hv]; exact he
    refine Ev.succ ?_
    simp only [impl_below.l1, h1, h2, h3, if_true, rd_at_T100 hx, wr1 hil (by omega), isRole_role, Option.bind_some]
    by_cases ca : x.f0 = a
    · simp only [if_pos ca]
      cases hr : roleB x.f1 with
      | false =>
        simp only [Bool.false_eq_true, if_false, ca, if_true]
        exact keep (by unfold visX; simp [hr])
      | true =>
        have hr' := roleB_iff.1 hr
        have hc : x.f1 = 0 ∨ x.f1 = 1 ∨ x.f1 = 2 ∨ x.f1 = 3 ∨ x.f1 = 4 ∨ x.f1 = 5 := by omega
        rcases hc with e | e | e | e | e | e <;> simp only [e, if_true, Int.reduceEq, if_false] at put ⊢
        · cases b0 with
          | true => simp only [if_true]; exact keep (by unfold visX; simp [mkR, e])
          | false => simp only [Bool.false_eq_true, if_false]; exact put _ _ _ _ _ _ (by unfold visX; simp [mkR, e, ca, roleB])
        · cases b1 with
          | true => simp only [if_true]; exact keep (by unfold visX; simp [mkR, e])
          | false => simp only [Bool.false_eq_true, if_false]; exact put _ _ _ _ _ _ (by unfold visX; simp [mkR, e, ca, roleB])
        · cases b2 with
          | true => simp only [if_true]; exact keep (by unfold visX; simp [mkR, e])
          | false => simp only [Bool.false_eq_true, if_false]; exact put _ _ _ _ _ _ (by unfold visX; simp [mkR, e, ca, roleB])
        · cases b3 with
          | true => simp only [if_true]; exact keep (by unfold visX; simp [mkR, e])
          | false => simp only [Bool.false_eq_true, if_false]; exact put _ _ _ _ _ _ (by unfold visX; simp [mkR, e, ca, roleB])
        · cases b4 with
          | true => simp only [if_true]; exact keep (by unfold visX; simp [mkR, e])
          | false => simp only [Bool.false_eq_true, if_false]; exact put _ _ _ _ _ _ (by unfold visX; simp [mkR, e, ca, roleB])
        · cases b5 with
          | true => simp only [if_true]; exact keep (by unfold visX; simp [mkR, e])
          | false => simp only [Bool.false_eq_true, if_false]; exact put _ _ _ _ _ _ (by unfold visX; simp [mkR, e, ca, roleB])
    · simp only [if_neg ca]
      exact keep (by unfold visX; simp [ca])
theorem below_out (l : List S100) (hl : l.length ≤ 1048576) (c0 c1 c2 c3 c4 c5 r0 r1 r2 r3 r4 r5 : Bool) : ∀ (n : Nat) (q : List Int) (b0 b1 b2 b3 b4 b5 : Bool), q.length + n * 1048576 ≤ 10000000 → bfsX l n q [b0, b1, b2, b3, b4, b5] = some [r0, r1, r2, r3, r4, r5] →
    Ev (fun k => impl_below.l0 k l c0 c1 c2 c3 c4 c5 b0 b1 b2 b3 b4 b5 q) (r0, r1, r2, r3, r4, r5) := by
  intro n
  induction n with
  | zero => intro q b0 b1 b2 b3 b4 b5 hq h; cases h
  | succ n ih =>
    intro q b0 b1 b2 b3 b4 b5 hq h
    cases q with
    | nil =>
      cases h
      refine Ev.succ ?_
      simp only [impl_below.l0, List.length_nil, Int.ofNat_eq_natCast, Int.natCast_zero, gt_iff_lt, Int.lt_irrefl, if_false]
      exact Ev.now _
    | cons a rest =>
      simp only [List.length_cons] at hq
      have h1 : (((a :: rest).length : Int) > 0) = True := eq_true (by simp only [List.length_cons]; omega)
      have h2 : (0 < ((a :: rest).length : Int)) = True := eq_true (by simp only [List.length_cons]; omega)
      have h3 : (1 ≤ ((a :: rest).length : Int)) = True := eq_true (by simp only [List.length_cons]; omega)
      refine Ev.succ ?_
      simp only [impl_below.l0, h1, h2, h3, if_true]
      have hrd : rd (a :: rest) 0 = a := rfl
      have hdr : (a :: rest).drop 1 = rest := rfl
      rw [hrd, hdr]
      refine below_in l hl a c0 c1 c2 c3 c4 c5 _ l.length 0 b0 b1 b2 b3 b4 b5 rest (by omega) (by omega) fun e0 e1 e2 e3 e4 e5 q' he => ?_
      rw [List.drop_zero] at he
      have hp := popX_len2 l a ([b0, b1, b2, b3, b4, b5], rest)
      rw [he] at hp
      simp only at hp
      refine ih q' e0 e1 e2 e3 e4 e5 (by omega) ?_
      have h' : bfsX l n (popX l a ([b0, b1, b2, b3, b4, b5], rest)).2 (popX l a ([b0, b1, b2, b3, b4, b5], rest)).1 = some [r0, r1, r2, r3, r4, r5] := h
      rw [he] at h'
      exact h'
theorem six {r : List Bool} (h : r.length = 6) : ∃ r0 r1 r2 r3 r4 r5, r = [r0, r1, r2, r3, r4, r5] := by
  match r, h with
  | [a, b, c, d, e, f], _ => exact ⟨a, b, c, d, e, f, rfl⟩
theorem impl_below_ev (l : List S100) (hl : l.length ≤ 1048576) (a : Int) (ha : roleB a = true) : ∃ r0 r1 r2 r3 r4 r5, Ev (fun k => impl_below.f k l a) (r0, r1, r2, r3, r4, r5) ∧ bfsX l 8 [a] (List.replicate 6 false) = some [r0, r1, r2, r3, r4, r5] := by
  obtain ⟨r, e, hr, -⟩ := below_spec l a ha 8 (by omega)
  obtain ⟨r0, r1, r2, r3, r4, r5, rfl⟩ := six hr
  exact ⟨r0, r1, r2, r3, r4, r5, below_out l hl _ _ _ _ _ _ _ _ _ _ _ _ 8 [a] _ _ _ _ _ _ (by simp) e, e⟩

-- impl_RolesUnder
theorem roles_step (a : Int) (r0 r1 r2 r3 r4 r5 : Bool) (k i : Nat) (hi : i < 6) (o : List Int) (ho : o.length ≤ 6) : impl_RolesUnder.l0 (k + 1) a o r0 r1 r2 r3 r4 r5 (i : Int) = impl_RolesUnder.l0 k a (o ++ (if mkR [r0, r1, r2, r3, r4, r5] (i : Int) = true ∨ (i : Int) = a then [(i : Int)] else [])) r0 r1 r2 r3 r4 r5 ((i + 1 : Nat) : Int) := by
  have h1 : (o.length < 17592186044416) = True := eq_true (by omega)
  have hw : wrap64 ((i : Int) + 1) = ((i + 1 : Nat) : Int) := wr1 hi (by omega)
  have hr : ∀ (r : Bool) (p q : Option (List Int)), mkR [r0, r1, r2, r3, r4, r5] (i : Int) = r → (if r = true then p else if (i : Int) = a then p else q) = if mkR [r0, r1, r2, r3, r4, r5] (i : Int) = true ∨ (i : Int) = a then p else q := by
    intro r p q e
    rw [e]
    cases r <;> simp
  have hg : ∀ (c : Prop) [Decidable c], impl_RolesUnder.l0 k a (o ++ (if c then [(i : Int)] else [])) r0 r1 r2 r3 r4 r5 ((i + 1 : Nat) : Int) = if c then impl_RolesUnder.l0 k a (o ++ [(i : Int)]) r0 r1 r2 r3 r4 r5 ((i + 1 : Nat) : Int) else impl_RolesUnder.l0 k a o r0 r1 r2 r3 r4 r5 ((i + 1 : Nat) : Int) := by
    intro c _
    by_cases hc : c
    · rw [if_pos hc, if_pos hc]
    · rw [if_neg hc, if_neg hc, List.append_nil]
  rw [hg]
  have h6 : ((i : Int) < 6) = True := eq_true (by omega)
  simp only [impl_RolesUnder.l0, h1, hw, h6, if_true]
  rcases (by omega : i = 0 ∨ i = 1 ∨ i = 2 ∨ i = 3 ∨ i = 4 ∨ i = 5) with rfl | rfl | rfl | rfl | rfl | rfl
  · rw [if_pos (by decide)]; exact hr r0 _ _ rfl
  · rw [if_neg (by decide), if_pos (by decide)]; exact hr r1 _ _ rfl
  · rw [if_neg (by decide), if_neg (by decide), if_pos (by decide)]; exact hr r2 _ _ rfl
  · rw [if_neg (by decide), if_neg (by decide), if_neg (by decide), if_pos (by decide)]; exact hr r3 _ _ rfl
  · rw [if_neg (by decide), if_neg (by decide), if_neg (by decide), if_neg (by decide), if_pos (by decide)]; exact hr r4 _ _ rfl
  · rw [if_neg (by decide), if_neg (by decide), if_neg (by decide), if_neg (by decide), if_neg (by decide), if_pos (by decide)]; exact hr r5 _ _ rfl
theorem impl_RolesUnder_ev (l : List S100) (role : Int) (hl : l.length ≤ 1048576) : Ev (fun k => impl_RolesUnder.f k l role) (rolesV l role) := by
  unfold impl_RolesUnder.f rolesV
  rw [isRole_role, roleB_in]
  cases c : roleB role with
  | false => simp only [Option.bind_some, Bool.false_eq_true, if_false]; exact Ev.now _
  | true =>
    simp only [Option.bind_some, if_true]
    obtain ⟨r0, r1, r2, r3, r4, r5, e, eb⟩ := impl_below_ev l hl role c
    refine Ev.bind e ?_
    obtain ⟨r, h1, h2, h3⟩ := below_spec l role c 8 (by omega)
    rw [eb] at h1
    obtain rfl := Option.some.inj h1
    have hq : ∀ q, roleB q = true → ((mkR [r0, r1, r2, r3, r4, r5] q = true ∨ q = role) ↔ mkR (closX l role) q = true) := fun q hq => by
      rw [h3 q hq, closX_iff l c hq, Rch_iff]
      constructor
      · rintro (h | h)
        · exact Or.inr h
        · exact Or.inl h.symm
      · rintro (h | h)
        · exact Or.inr h.symm
        · exact Or.inl h
    have key : ∀ (d i : Nat) (o : List Int), i + d = 6 → o.length ≤ i → Ev (fun k => impl_RolesUnder.l0 k role o r0 r1 r2 r3 r4 r5 (i : Int)) (o ++ (([0, 1, 2, 3, 4, 5] : List Int).drop i).filter fun r => mkR (closX l role) r) := by
      intro d
      induction d with
      | zero =>
        intro i o hi ho
        obtain rfl : i = 6 := by omega
        refine Ev.succ ?_
        simp only [impl_RolesUnder.l0]
        rw [show (([0, 1, 2, 3, 4, 5] : List Int).drop 6) = [] from rfl, List.filter_nil, List.append_nil]
        exact Ev.neg (by omega) (Ev.now _)
      | succ d ih =>
        intro i o hi ho
        refine Ev.next (fun k => roles_step role r0 r1 r2 r3 r4 r5 k i (by omega) o (by omega)) ?_
        have hr := hq (i : Int) (by rw [roleB_iff]; omega)
        have hd : (([0, 1, 2, 3, 4, 5] : List Int).drop i) = (i : Int) :: ([0, 1, 2, 3, 4, 5] : List Int).drop (i + 1) := by
          rcases (by omega : i = 0 ∨ i = 1 ∨ i = 2 ∨ i = 3 ∨ i = 4 ∨ i = 5) with rfl | rfl | rfl | rfl | rfl | rfl <;> rfl
        rw [hd]
        by_cases cc : mkR [r0, r1, r2, r3, r4, r5] (i : Int) = true ∨ (i : Int) = role
        · rw [if_pos cc, List.filter_cons_of_pos (by exact hr.1 cc)]
          refine Ev.eqv ?_ (ih (i + 1) (o ++ [(i : Int)]) (by omega) (by rw [List.length_append, List.length_singleton]; omega))
          rw [List.append_assoc]; rfl
        · rw [if_neg cc, List.append_nil, List.filter_cons_of_neg (by intro hc; exact cc (hr.2 hc))]
          exact ih (i + 1) o (by omega) (by omega)
    exact Ev.eqv (by rw [List.drop_zero, List.nil_append]; rfl) (key 6 0 [] rfl (by simp))

-- slices_Sort_int_int
theorem slices_Sort_int_int_eq (l : List Int) (h : l.length < 2199023255552) : slices_Sort_int_int.f l = some (l.mergeSort fun x y => decide (x ≤ y)) := by
  unfold slices_Sort_int_int.f
  rw [if_pos h]

-- slices_Compact_int_int
theorem slices_Compact_int_int_eq (l : List Int) (h : l.length < 2199023255552) : slices_Compact_int_int.f l = some (Go.Lib.compact l) := by
  unfold slices_Compact_int_int.f
  rw [if_pos h]

-- impl_RolesOf
def bestP (a b t g : Int) (x : S87) : Bool := decide (x.f0 = a) && (decide (x.f1 = b) && holdsB x t g)
def bestV (a b t g : Int) : List S87 → Int → Int
  | [], m => m
  | x :: l, m => bestV a b t g l (if bestP a b t g x = true then (if m < x.f2 then x.f2 else m) else m)
/-- What a person's facts of the kind role give. -/
def givesP (p t g : Int) (x : S87) : Bool := decide (x.f0 = 1) && (decide (x.f1 = p) && holdsB x t g)
def hasRB (l : List S100) (s : List S87) (p r t g : Int) : Bool := s.any fun x => givesP p t g x && hasI (rolesV l x.f2) r
theorem rolesV_len (l : List S100) (r : Int) : (rolesV l r).length ≤ 6 := by
  unfold rolesV
  split
  · unfold outV
    exact Nat.le_trans (List.length_filter_le _ _) (by simp)
  · simp
theorem rolesV_role (l : List S100) (r : Int) : ∀ q ∈ rolesV l r, roleB q = true := by
  intro q hq
  unfold rolesV at hq
  split at hq
  · unfold outV at hq
    have := (List.mem_filter.1 hq).1
    rw [roleB_iff]
    simp at this
    omega
  · simp at hq
theorem any_hasI (l : List Int) (r : Int) : hasI l r = true ↔ r ∈ l := by
  unfold hasI
  rw [List.any_eq_true]
  constructor
  · rintro ⟨x, hx, e⟩; rw [decide_eq_true_eq] at e; rw [e]; exact hx
  · intro h; exact ⟨r, h, by simp⟩
theorem mem_compactUpTo (d : Array Int) (x : Int) : ∀ m, x ∈ Go.Lib.compactUpTo d m ↔ ∃ j, j < m ∧ d[j]! = x
  | 0 => by simp [Go.Lib.compactUpTo]
  | m + 1 => by
    rw [Go.Lib.compactUpTo_succ, List.mem_append, mem_compactUpTo d x m]
    constructor
    · rintro (⟨j, hj, e⟩ | h)
      · exact ⟨j, by omega, e⟩
      · split at h
        · exact ⟨m, by omega, (List.mem_singleton.1 h).symm⟩
        · simp at h
    · rintro ⟨j, hj, e⟩
      by_cases hm : j = m
      · subst hm
        by_cases hk : Go.Lib.keeps d j = true
        · rw [if_pos hk]; exact .inr (by simp [e])
        · left
          unfold Go.Lib.keeps at hk
          have h0 : j ≠ 0 ∧ d[j]! = d[j - 1]! := by simpa using hk
          exact ⟨j - 1, by omega, by rw [← h0.2, e]⟩
      · exact .inl ⟨j, by omega, e⟩
theorem asc_compactUpTo (d : Array Int) (n : Nat) (hs : ∀ i j, i ≤ j → j < n → d[i]! ≤ d[j]!) : ∀ m, m ≤ n → (Go.Lib.compactUpTo d m).Pairwise (· < ·)
  | 0, _ => by simp [Go.Lib.compactUpTo]
  | m + 1, hm => by
    rw [Go.Lib.compactUpTo_succ, List.pairwise_append]
    refine ⟨asc_compactUpTo d n hs m (by omega), by split <;> simp, ?_⟩
    intro a ha b hb
    split at hb
    case isFalse => simp at hb
    case isTrue hk =>
    obtain rfl := List.mem_singleton.1 hb
    obtain ⟨j, hj, rfl⟩ := (mem_compactUpTo d a m).1 ha
    unfold Go.Lib.keeps at hk
    have h0 : m = 0 ∨ d[m]! ≠ d[m - 1]! := of_decide_eq_true hk
    have h1 := hs j (m - 1) (by omega) (by omega)
    have h2 := hs (m - 1) m (by omega) (by omega)
    rcases h0 with h0 | h0
    · omega
    · omega
theorem asc_ext : ∀ (a b : List Int), a.Pairwise (· < ·) → b.Pairwise (· < ·) → (∀ x, x ∈ a ↔ x ∈ b) → a = b
  | [], [], _, _, _ => rfl
  | [], y :: b, _, _, h => by have := (h y).2 (by simp); simp at this
  | x :: a, [], _, _, h => by have := (h x).1 (by simp); simp at this
  | x :: a, y :: b, ha, hb, h => by
    rw [List.pairwise_cons] at ha hb
    have hxy : x = y := by
      have h1 := (h x).1 (by simp)
      have h2 := (h y).2 (by simp)
      rcases List.mem_cons.1 h1 with e | e
      · exact e
      · rcases List.mem_cons.1 h2 with e2 | e2
        · exact e2.symm
        · have := hb.1 x e; have := ha.1 y e2; omega
    subst hxy
    rw [asc_ext a b ha.2 hb.2 (fun z => ⟨fun hz => ?_, fun hz => ?_⟩)]
    · rcases List.mem_cons.1 ((h z).1 (by simp [hz])) with e | e
      · have := ha.1 z hz; omega
      · exact e
    · rcases List.mem_cons.1 ((h z).2 (by simp [hz])) with e | e
      · have := hb.1 z hz; omega
      · exact e
theorem asc_sorted (l : List Int) : (Go.Lib.compact (l.mergeSort fun x y => decide (x ≤ y))).Pairwise (· < ·) ∧ ∀ x, x ∈ Go.Lib.compact (l.mergeSort fun x y => decide (x ≤ y)) ↔ x ∈ l := by
  have hp : (l.mergeSort fun x y => decide (x ≤ y)).Pairwise fun x y => decide (x ≤ y) = true := List.pairwise_mergeSort (fun a b c h1 h2 => by simp at h1 h2 ⊢; omega) (fun a b => by simp; omega) l
  have hm : ∀ x, x ∈ (l.mergeSort fun x y => decide (x ≤ y)) ↔ x ∈ l := fun x => List.mem_mergeSort
  generalize (l.mergeSort fun x y => decide (x ≤ y)) = s at hp hm
  unfold Go.Lib.compact
  have hs : ∀ i j, i ≤ j → j < s.length → s.toArray[i]! ≤ s.toArray[j]! := by
    intro i j hij hj
    rw [getElem!_pos _ _ (by simp; omega), getElem!_pos _ _ (by simpa using hj)]
    rcases Nat.lt_or_eq_of_le hij with h | h
    · have := List.pairwise_iff_getElem.1 hp i j (by omega) hj h
      simpa using this
    · subst h; exact Int.le_refl _
  refine ⟨asc_compactUpTo _ s.length hs _ (Nat.le_refl _), fun x => ?_⟩
  rw [mem_compactUpTo, ← hm x]
  constructor
  · rintro ⟨j, hj, rfl⟩
    rw [getElem!_pos _ _ (by simpa using hj)]; simp
  · intro h
    obtain ⟨j, hj, rfl⟩ := List.getElem_of_mem h
    exact ⟨j, hj, by rw [getElem!_pos _ _ (by simpa using hj)]; simp⟩
/-- What is gathered, in the order of the facts. -/
def gathV (l : List S100) (p t g : Int) : List S87 → List Int
  | [] => []
  | x :: s => (if givesP p t g x = true then rolesV l x.f2 else []) ++ gathV l p t g s
theorem gath_has (l : List S100) (p r t g : Int) : ∀ s, hasI (gathV l p t g s) r = hasRB l s p r t g
  | [] => rfl
  | x :: s => by
    have ih := gath_has l p r t g s
    unfold hasI hasRB at *
    rw [gathV, List.any_append, List.any_cons, ih]
    cases givesP p t g x <;> simp [hasI]
theorem gath_len (l : List S100) (p t g : Int) : ∀ s : List S87, (gathV l p t g s).length ≤ 6 * s.length
  | [] => by simp [gathV]
  | x :: s => by
    have ih := gath_len l p t g s
    have := rolesV_len l x.f2
    rw [gathV, List.length_append, List.length_cons]
    split <;> simp <;> omega
theorem impl_RolesOf_ev (l : List S100) (s : List S87) (p t g : Int) (hl : l.length ≤ 1048576) (h : s.length ≤ 1048576) : ∃ v, Ev (fun k => impl_RolesOf.f k l s p t g) v ∧ v.length ≤ 6291456 ∧ ∀ r, hasI v r = hasRB l s p r t g := by
  have key : ∀ (d i : Nat) (out : List Int), s.length - i = d → i ≤ s.length → out.length + 6 * d ≤ 6291456 → Ev (fun k => impl_RolesOf.l0 k l p t g out s (s.length : Int) (i : Int)) (Go.Lib.compact ((out ++ gathV l p t g (s.drop i)).mergeSort fun x y => decide (x ≤ y))) := by
    intro d
    induction d with
    | zero =>
      intro i out hd hi ho
      obtain rfl : i = s.length := by omega
      refine Ev.succ ?_
      simp only [impl_RolesOf.l0, Int.lt_irrefl, if_false, List.drop_length, gathV, List.append_nil]
      rw [slices_Sort_int_int_eq out (by omega), Option.bind_some, slices_Compact_int_int_eq _ (by rw [List.length_mergeSort]; omega), Option.bind_some]
      exact Ev.now _
    | succ d ih =>
      intro i out hd hi ho
      have hi' : i < s.length := by omega
      have hx : s[i]? = some s[i] := List.getElem?_eq_getElem hi'
      rw [List.drop_eq_getElem_cons hi', gathV, ← List.append_assoc]
      generalize s[i] = x at hx ⊢
      have h1 : ((i : Int) < (s.length : Int)) = True := eq_true (by omega)
      have h2 : (0 ≤ (i : Int)) = True := eq_true (by omega)
      have hll := rolesV_len l x.f2
      have hno := ih (i + 1) out (by omega) (by omega) (by omega)
      have hyes := ih (i + 1) (out ++ rolesV l x.f2) (by omega) (by omega) (by rw [List.length_append]; omega)
      have h3 := wr1 hi' (show s.length ≤ 9223372036854775807 by omega)
      refine Ev.succ ?_
      simp only [impl_RolesOf.l0, h1, h2, if_true, rd_at_T87 hx, impl_HoldsAt_eq, Option.bind_some, h3]
      by_cases c0 : x.f0 = 1
      · by_cases c1 : x.f1 = p
        · cases c2 : holdsB x t g with
          | false =>
            have e : givesP p t g x = false := by simp [givesP, c2]
            simp only [if_pos c0, if_pos c1, Bool.false_eq_true, if_false, e, List.append_nil]
            exact hno
          | true =>
            have e : givesP p t g x = true := by simp [givesP, c0, c1, c2]
            simp only [if_pos c0, if_pos c1, e, if_true]
            refine Ev.bind (impl_RolesUnder_ev l x.f2 hl) ?_
            exact Ev.pos (by omega) hyes
        · have e : givesP p t g x = false := by simp [givesP, c1]
          simp only [if_pos c0, if_neg c1, Bool.false_eq_true, if_false, e, List.append_nil]
          exact hno
      · have e : givesP p t g x = false := by simp [givesP, c0]
        simp only [if_neg c0, Bool.false_eq_true, if_false, e, List.append_nil]
        exact hno
  refine ⟨_, key s.length 0 [] (by omega) (by omega) (by simp; omega), ?_, fun r => ?_⟩
  · have := gath_len l p t g s
    have h2 := Go.Lib.compact_length_le (([] ++ gathV l p t g (s.drop 0)).mergeSort fun x y => decide (x ≤ y))
    rw [List.length_mergeSort] at h2
    simp only [List.nil_append, List.drop_zero] at h2 ⊢
    omega
  · rw [← gath_has]
    simp only [List.nil_append, List.drop_zero]
    rw [Bool.eq_iff_iff, any_hasI, any_hasI]
    exact (asc_sorted _).2 r

-- slices_Index89
theorem slices_Index89_ev (l : List Int) (a : Int) (h : l.length ≤ 1073741824) : Ev (fun k => slices_Index89.f k l a) (idxV (fun x => decide (a = x)) l 0) := by
  unfold slices_Index89.f
  refine idx_ev (fun k i => slices_Index89.l0 k l a (l.length : Int) i) (fun x => decide (a = x)) l 0 l.length (by omega) ?_ ?_
  · refine Ev.succ ?_
    simp only [slices_Index89.l0, Int.lt_irrefl, if_false]
    exact Ev.now _
  · intro j x r _ hx
    rw [Nat.sub_zero] at hx
    have hj := lt_of_get hx
    have h1 : ((j : Int) < (l.length : Int)) = True := eq_true (by omega)
    have h2 : (0 ≤ (j : Int)) = True := eq_true (by omega)
    constructor
    · intro hp
      refine Ev.succ ?_
      simp only [slices_Index89.l0, h1, h2, if_true, rd_nat _ _ _ hx, of_decide_eq_true hp]
      exact Ev.now _
    · intro hp he
      refine Ev.succ ?_
      simp only [slices_Index89.l0, h1, h2, if_true, rd_nat _ _ _ hx, if_neg (of_decide_eq_false hp), wr1 hj (by omega)]
      exact he

-- slices_Contains78
theorem slices_Contains78_ev (l : List Int) (a : Int) (h : l.length ≤ 1073741824) : Ev (fun k => slices_Contains78.f k l a) (hasI l a) := by
  unfold slices_Contains78.f
  refine Ev.bind (slices_Index89_ev l a h) ?_
  exact Ev.eqv (idxV_anyI (fun x => decide (a = x)) l 0 (by omega)) (Ev.now _)

-- impl_HasRole
theorem impl_HasRole_ev (l : List S100) (s : List S87) (p r t g : Int) (hl : l.length ≤ 1048576) (h : s.length ≤ 1048576) : Ev (fun k => impl_HasRole.f k l s p r t g) (hasRB l s p r t g) := by
  obtain ⟨v, hE, hv, hh⟩ := impl_RolesOf_ev l s p t g hl h
  unfold impl_HasRole.f
  refine Ev.bind hE ?_
  rw [← hh r]
  exact Ev.bid (slices_Contains78_ev v r (by omega))

-- impl_FindFact
def findP (a b c t g : Int) (x : S87) : Bool := decide (x.f0 = a) && (decide (x.f1 = b) && (decide (x.f2 = c) && holdsB x t g))
theorem impl_FindFact_ev (l : List S87) (a b c t g : Int) (h : l.length ≤ 1048576) : Ev (fun k => impl_FindFact.f k l a b c t g) (idxV (findP a b c t g) l 0) := by
  unfold impl_FindFact.f
  refine Ev.bind (a := idxV (findP a b c t g) l 0) ?_ (Ev.now _)
  unfold slices_IndexFunc80_81.f
  refine idx_ev (fun k i => slices_IndexFunc80_81.l0 k l a b c t g (l.length : Int) i) (findP a b c t g) l 0 l.length (by omega) ?_ ?_
  · refine Ev.succ ?_
    simp only [slices_IndexFunc80_81.l0, Int.lt_irrefl, if_false]
    exact Ev.now _
  · intro j x r _ hx
    rw [Nat.sub_zero] at hx
    have hj := lt_of_get hx
    have h1 : ((j : Int) < (l.length : Int)) = True := eq_true (by omega)
    have h2 : (0 ≤ (j : Int)) = True := eq_true (by omega)
    have hc : cl81.f x.f0 x.f1 x.f2 x.f3 x.f4 x.f5 a b c t g = some (findP a b c t g x) := by
      unfold cl81.f findP
      simp only [impl_HoldsAt_eq, Option.bind_some]
      by_cases c0 : x.f0 = a
      · by_cases c1 : x.f1 = b
        · by_cases c2 : x.f2 = c
          · rw [if_pos c0, if_pos c1, if_pos c2]; simp [c0, c1, c2]
          · rw [if_pos c0, if_pos c1, if_neg c2]; simp [c2]
        · rw [if_pos c0, if_neg c1]; simp [c1]
      · rw [if_neg c0]; simp [c0]
    constructor
    · intro hp
      refine Ev.succ ?_
      simp only [slices_IndexFunc80_81.l0, h1, h2, if_true, rd_at_T87 hx, hc, Option.bind_some, hp]
      exact Ev.now _
    · intro hp he
      refine Ev.succ ?_
      simp only [slices_IndexFunc80_81.l0, h1, h2, if_true, rd_at_T87 hx, hc, Option.bind_some, hp, Bool.false_eq_true, if_false, wr1 hj (by omega)]
      exact he

-- impl_BestValue
theorem impl_BestValue_ev (l : List S87) (a b t g : Int) (h : l.length ≤ 1048576) : Ev (fun k => impl_BestValue.f k l a b t g) (bestV a b t g l (-1)) := by
  have key : ∀ (d i : Nat) (m : Int), l.length - i = d → i ≤ l.length → Ev (fun k => impl_BestValue.l0 k a b t g m l (l.length : Int) (i : Int)) (bestV a b t g (l.drop i) m) := by
    intro d
    induction d with
    | zero =>
      intro i m hd hi
      obtain rfl : i = l.length := by omega
      refine Ev.succ ?_
      simp only [impl_BestValue.l0, Int.lt_irrefl, if_false, List.drop_length, bestV]
      exact Ev.now _
    | succ d ih =>
      intro i m hd hi
      have hi' : i < l.length := by omega
      have hx : l[i]? = some l[i] := List.getElem?_eq_getElem hi'
      rw [List.drop_eq_getElem_cons hi', bestV]
      generalize l[i] = x at hx ⊢
      have h1 : ((i : Int) < (l.length : Int)) = True := eq_true (by omega)
      have h2 : (0 ≤ (i : Int)) = True := eq_true (by omega)
      have hr := fun m => ih (i + 1) m (by omega) (by omega)
      have h3 := wr1 hi' (show l.length ≤ 9223372036854775807 by omega)
      refine Ev.succ ?_
      simp only [impl_BestValue.l0, h1, h2, if_true, rd_at_T87 hx, impl_HoldsAt_eq, Option.bind_some, h3]
      by_cases c0 : x.f0 = a
      · by_cases c1 : x.f1 = b
        · simp only [if_pos c0, if_pos c1]
          cases c2 : holdsB x t g with
          | false =>
            have e : bestP a b t g x = false := by simp [bestP, c2]
            simp only [e, Bool.false_eq_true, if_false]; exact hr _
          | true =>
            have e : bestP a b t g x = true := by simp [bestP, c0, c1, c2]
            simp only [e, if_true]; exact hr _
        · have e : bestP a b t g x = false := by simp [bestP, c1]
          simp only [if_pos c0, if_neg c1, e, Bool.false_eq_true, if_false]; exact hr _
      · have e : bestP a b t g x = false := by simp [bestP, c0]
        simp only [if_neg c0, e, Bool.false_eq_true, if_false]; exact hr _
  unfold impl_BestValue.f
  exact Ev.eqv (by rw [List.drop_zero]) (key l.length 0 (-1) (by omega) (by omega))

-- impl_LeafHolds
def leafB (l : List S100) (s : List S87) (q : S30) (o a g : Int) : Bool := if o = 1 then true else if o = 2 then hasRB l s q.f0 a q.f5 g else if o = 3 then decide (idxV (findP 2 q.f0 q.f1 q.f5 g) s 0 ≥ 0) else if o = 4 then decide (bestV 3 q.f1 q.f5 g s (-1) ≥ a) else if o = 5 then decide (bestV 4 q.f2 q.f5 g s (-1) ≥ a) else if o = 6 then decide (q.f5 ≤ a) else false
theorem idxV_ge {α : Type} (p : α → Bool) : ∀ (l : List α) (i : Int), 0 ≤ i → (idxV p l i = -1 ∨ 0 ≤ idxV p l i)
  | [], _, _ => .inl rfl
  | x :: xs, i, h => by
    rw [idxV]
    split
    · exact .inr h
    · exact idxV_ge p xs (i + 1) (by omega)
theorem idxV_ne {α : Type} (p : α → Bool) (l : List α) : (!decide (idxV p l 0 = -1)) = decide (idxV p l 0 ≥ 0) := by
  rcases idxV_ge p l 0 (by omega) with h | h
  · rw [h]; rfl
  · rw [decide_eq_true h]; simp; omega
theorem impl_LeafHolds_ev (l : List S100) (s : List S87) (q : S30) (o a g : Int) (u : List S58) (hl : l.length ≤ 1048576) (h : s.length ≤ 1048576) : Ev (fun k => impl_LeafHolds.f k l s o a g u q.f0 q.f1 q.f2 q.f3 q.f4 q.f5) (leafB l s q o a g) := by
  unfold impl_LeafHolds.f leafB
  by_cases c1 : o = 1
  · simp only [if_pos c1]; exact Ev.now _
  by_cases c2 : o = 2
  · simp only [if_neg c1, if_pos c2]; exact Ev.bid (impl_HasRole_ev l s q.f0 a q.f5 g hl h)
  by_cases c3 : o = 3
  · simp only [if_neg c1, if_neg c2, if_pos c3]
    refine Ev.bind (impl_FindFact_ev s 2 q.f0 q.f1 q.f5 g h) ?_
    rw [idxV_ne]
    exact Ev.now _
  by_cases c4 : o = 4
  · simp only [if_neg c1, if_neg c2, if_neg c3, if_pos c4]
    exact Ev.bind (impl_BestValue_ev s 3 q.f1 q.f5 g h) (Ev.now _)
  by_cases c5 : o = 5
  · simp only [if_neg c1, if_neg c2, if_neg c3, if_neg c4, if_pos c5]
    exact Ev.bind (impl_BestValue_ev s 4 q.f2 q.f5 g h) (Ev.now _)
  by_cases c6 : o = 6
  · simp only [if_neg c1, if_neg c2, if_neg c3, if_neg c4, if_neg c5, if_pos c6]; exact Ev.now _
  · simp only [if_neg c1, if_neg c2, if_neg c3, if_neg c4, if_neg c5, if_neg c6]; exact Ev.now _

-- impl_EvalCond
mutual
/-- What a condition in order comes to, by what its leaves come to. -/
def evC (lf : Int → Int → Int → Bool) : S58 → Bool
  | ⟨a, b, c, l⟩ => if a = 7 then !(evL lf l).getD 0 false else if a = 8 then (evL lf l).getD 0 false && (evL lf l).getD 1 false else if a = 9 then (evL lf l).getD 0 false || (evL lf l).getD 1 false else lf a b c
def evL (lf : Int → Int → Int → Bool) : List S58 → List Bool
  | [] => []
  | x :: l => evC lf x :: evL lf l
end
theorem evL_eq (lf : Int → Int → Int → Bool) : ∀ l : List S58, evL lf l = l.map (evC lf)
  | [] => by simp [evL]
  | x :: l => by simp [evL, evL_eq lf l]
theorem evC_f (lf : Int → Int → Int → Bool) (x : S58) : evC lf x = if x.f0 = 7 then !(x.f3.map (evC lf)).getD 0 false else if x.f0 = 8 then (x.f3.map (evC lf)).getD 0 false && (x.f3.map (evC lf)).getD 1 false else if x.f0 = 9 then (x.f3.map (evC lf)).getD 0 false || (x.f3.map (evC lf)).getD 1 false else lf x.f0 x.f1 x.f2 := by
  cases x
  simp only [evC, evL_eq]
theorem getD_map {f : S58 → Bool} {l : List S58} {i : Nat} {y : S58} (h : l[i]? = some y) : (l.map f).getD i false = f y := by
  rw [List.getD_eq_getElem?_getD, List.getElem?_map, h]; rfl
/-- The parts of a condition in order that are asked for are there. -/
theorem vld_parts {x : S58} (hv : vldC x = true) : (x.f0 = 7 ∨ x.f0 = 8 ∨ x.f0 = 9 → ∃ y, x.f3[0]? = some y ∧ rd_T58 x.f3 0 = y ∧ (0 < (x.f3.length : Int)) = True ∧ vldC y = true ∧ n58 y < n58 x) ∧ (x.f0 = 8 ∨ x.f0 = 9 → ∃ y, x.f3[1]? = some y ∧ rd_T58 x.f3 1 = y ∧ (1 < (x.f3.length : Int)) = True ∧ vldC y = true ∧ n58 y < n58 x) := by
  rw [vldC_f, Bool.and_eq_true] at hv
  obtain ⟨t, ht⟩ := node_some x.f0 x.f1 x.f2 x.f3
  rw [ht, Option.getD_some] at hv
  obtain ⟨rfl, hc⟩ := hv
  have hargs := node_args ht
  have child : ∀ (i : Nat) (y : S58), x.f3[i]? = some y → vldC y = true ∧ n58 y < n58 x := fun i y hy => by
    have hn := le_sum n58 hy
    have hp := lt_of_get hy
    exact ⟨List.all_eq_true.1 hc y (List.mem_of_getElem? hy), by rw [n58_f x]; omega⟩
  constructor
  · intro h
    have : 1 ≤ x.f3.length := by
      rcases h with h | h | h
      · have := hargs.1 h; omega
      · have := hargs.2 (.inl h); omega
      · have := hargs.2 (.inr h); omega
    obtain ⟨y, hy⟩ := getAt (l := x.f3) (i := 0) (by omega)
    exact ⟨y, hy, rd_at_T58 hy, eq_true (by omega), child 0 y hy⟩
  · intro h
    have := hargs.2 h
    obtain ⟨y, hy⟩ := getAt (l := x.f3) (i := 1) (by omega)
    exact ⟨y, hy, rd_at_T58 hy, eq_true (by omega), child 1 y hy⟩
def evalB (l : List S100) (s : List S87) (q : S30) (x : S58) : Bool := condB x && evC (leafB l s q) x
theorem impl_evalWith_ev (l : List S100) (s : List S87) (q : S30) (hl : l.length ≤ 1048576) (hs : s.length ≤ 1048576) (N : Nat) : ∀ x : S58, n58 x ≤ N → vldC x = true → Ev (fun k => impl_evalWith_54.f k x.f0 x.f1 x.f2 x.f3 l s q.f0 q.f1 q.f2 q.f3 q.f4 q.f5) (evC (leafB l s q) x) := by
  induction N using Nat.strongRecOn with
  | _ N ih =>
  intro x hx hv
  obtain ⟨two, three⟩ := vld_parts hv
  rw [evC_f]
  refine Ev.succ ?_
  by_cases c7 : x.f0 = 7
  · obtain ⟨y, hy, ry, p0, hvy, hn⟩ := two (.inl c7)
    simp only [impl_evalWith_54.f, if_pos c7, p0, if_true, ry]
    refine Ev.bind (ih _ (by omega) y (Nat.le_refl _) hvy) ?_
    rw [getD_map hy]
    exact Ev.now _
  by_cases c8 : x.f0 = 8
  · obtain ⟨y, hy, ry, p0, hvy, hn⟩ := two (.inr (.inl c8))
    obtain ⟨z, hz, rz, p1, hvz, hn2⟩ := three (.inl c8)
    simp only [impl_evalWith_54.f, if_neg c7, if_pos c8, p0, p1, if_true, ry, rz]
    rw [getD_map hy, getD_map hz]
    refine Ev.bind (ih _ (by omega) y (Nat.le_refl _) hvy) ?_
    cases evC (leafB l s q) y with
    | false => exact Ev.now _
    | true => simp only [if_true, Bool.true_and]; exact Ev.bid (ih _ (by omega) z (Nat.le_refl _) hvz)
  by_cases c9 : x.f0 = 9
  · obtain ⟨y, hy, ry, p0, hvy, hn⟩ := two (.inr (.inr c9))
    obtain ⟨z, hz, rz, p1, hvz, hn2⟩ := three (.inr c9)
    simp only [impl_evalWith_54.f, if_neg c7, if_neg c8, if_pos c9, p0, p1, if_true, ry, rz]
    rw [getD_map hy, getD_map hz]
    refine Ev.bind (ih _ (by omega) y (Nat.le_refl _) hvy) ?_
    cases evC (leafB l s q) y with
    | true => exact Ev.now _
    | false => simp only [Bool.false_eq_true, if_false, Bool.false_or]; exact Ev.bid (ih _ (by omega) z (Nat.le_refl _) hvz)
  simp only [impl_evalWith_54.f, if_neg c7, if_neg c8, if_neg c9]
  unfold cl54.f
  exact Ev.bid (Ev.bid (impl_LeafHolds_ev l s q x.f0 x.f1 x.f2 x.f3 hl hs))
theorem impl_EvalCond_ev (l : List S100) (s : List S87) (q : S30) (x : S58) (hl : l.length ≤ 1048576) (hs : s.length ≤ 1048576) (hx : n58 x ≤ 1048576) : Ev (fun k => impl_EvalCond.f k l s x.f0 x.f1 x.f2 x.f3 q.f0 q.f1 q.f2 q.f3 q.f4 q.f5) (evalB l s q x) := by
  unfold impl_EvalCond.f evalB
  refine Ev.bind (impl_IsCond_ev x hx) ?_
  cases c : condB x with
  | false => exact Ev.now _
  | true =>
    have hv : vldC x = true := by
      unfold condB at c
      rw [Bool.and_eq_true] at c
      exact c.2
    exact Ev.pos rfl (Ev.bid (impl_evalWith_ev l s q hl hs _ x (Nat.le_refl _) hv))

-- impl_RulesThatHold
def thatV (p : S60 → Bool) : List S60 → Int → List Int
  | [], _ => []
  | x :: P, i => if p x = true then i :: thatV p P (i + 1) else thatV p P (i + 1)
theorem thatV_len (p : S60 → Bool) : ∀ (P : List S60) (i : Int), (thatV p P i).length ≤ P.length
  | [], _ => by simp [thatV]
  | x :: P, i => by
    have := thatV_len p P (i + 1)
    rw [thatV, List.length_cons]
    split
    · rw [List.length_cons]; omega
    · omega
theorem thatV_in (p : S60 → Bool) : ∀ (P : List S60) (i : Int), ∀ y ∈ thatV p P i, i ≤ y ∧ y < i + (P.length : Int)
  | [], _ => by simp [thatV]
  | x :: P, i => by
    have ih := thatV_in p P (i + 1)
    intro y hy
    rw [List.length_cons]
    rw [thatV] at hy
    split at hy
    · rcases List.mem_cons.1 hy with rfl | hy
      · omega
      · have := ih y hy; omega
    · have := ih y hy; omega
def rhoB (l : List S100) (s : List S87) (q : S30) (x : S60) : Bool := forB x q.f3 q.f4 && evalB l s q x.f3
/-- What is decided, by the effects of the rules that hold. -/
def decE : List Int → Int → Int
  | [], a => a
  | e :: r, a => if e = 0 then 0 else if e = 1 then decE r 1 else decE r a
def decV (l : List S100) (s : List S87) (v : Int) (P : List S60) (q : S30) : Int := if reqB q.f0 q.f1 q.f2 q.f3 q.f4 q.f5 = true then if polB v P = true then decE ((thatV (rhoB l s q) P 0).map fun i => (rd_T60 P i).f0) 0 else 0 else 0
theorem impl_RulesThatHold_ev (l : List S100) (s : List S87) (q : S30) (n0 : Int) (P : List S60) (hl : l.length ≤ 1048576) (hs : s.length ≤ 1048576) (hP : nPol P ≤ 1048576) : Ev (fun k => impl_RulesThatHold.f k l s n0 P q.f0 q.f1 q.f2 q.f3 q.f4 q.f5) (thatV (rhoB l s q) P 0) := by
  unfold nPol at hP
  have key : ∀ (d i : Nat) (out : List Int), P.length - i = d → i ≤ P.length → out.length ≤ i → Ev (fun k => impl_RulesThatHold.l0 k l s q.f0 q.f1 q.f2 q.f3 q.f4 q.f5 out P (P.length : Int) (i : Int)) (out ++ thatV (rhoB l s q) (P.drop i) (i : Int)) := by
    intro d
    induction d with
    | zero =>
      intro i out hd hi ho
      obtain rfl : i = P.length := by omega
      refine Ev.succ ?_
      simp only [impl_RulesThatHold.l0, Int.lt_irrefl, if_false, List.drop_length, thatV, List.append_nil]
      exact Ev.now _
    | succ d ih =>
      intro i out hd hi ho
      have hi' : i < P.length := by omega
      have hx : P[i]? = some P[i] := List.getElem?_eq_getElem hi'
      rw [List.drop_eq_getElem_cons hi', thatV]
      generalize P[i] = x at hx ⊢
      have hn := le_sum n60 hx
      have hn2 := rule_n x
      have h1 : ((i : Int) < (P.length : Int)) = True := eq_true (by omega)
      have h2 : (0 ≤ (i : Int)) = True := eq_true (by omega)
      have e1 := impl_EvalCond_ev l s q x.f3 hl hs (by omega)
      have v1 := ih (i + 1) out (by omega) (by omega) (by omega)
      have v2 := ih (i + 1) (out ++ [(i : Int)]) (by omega) (by omega) (by rw [List.length_append, List.length_singleton]; omega)
      have hol : (out.length < 17592186044416) = True := eq_true (by omega)
      have h3 := wr1 hi' (show P.length ≤ 9223372036854775807 by omega)
      have h4 : (i : Int) + 1 = ((i + 1 : Nat) : Int) := by omega
      rw [h4, show rhoB l s q x = (forB x q.f3 q.f4 && evalB l s q x.f3) from rfl]
      refine Ev.succ ?_
      simp only [impl_RulesThatHold.l0, h1, h2, if_true, rd_at_T60 hx, impl_IsFor_eq, Option.bind_some, h3]
      cases c : forB x q.f3 q.f4 with
      | false =>
        simp only [Bool.false_eq_true, if_false, Bool.false_and]
        exact v1
      | true =>
        simp only [if_true, Bool.true_and]
        refine Ev.bind e1 ?_
        cases evalB l s q x.f3 with
        | true =>
          simp only [if_true, hol]
          exact Ev.eqv (by rw [List.append_assoc]; rfl) v2
        | false => simp only [Bool.false_eq_true, if_false]; exact v1
  unfold impl_RulesThatHold.f
  exact Ev.eqv (by rw [List.drop_zero, List.nil_append]; rfl) (key P.length 0 [] (by omega) (by omega) (by simp))

-- impl_decided
theorem impl_decided_ev (n0 : Int) (P : List S60) (L : List Int) (hL : L.length ≤ 1048576) (hy : ∀ y ∈ L, 0 ≤ y ∧ y < (P.length : Int)) : Ev (fun k => impl_decided.f k n0 P L) (decE (L.map fun i => (rd_T60 P i).f0) 0) := by
  have key : ∀ (d i : Nat) (a : Int), L.length - i = d → i ≤ L.length → Ev (fun k => impl_decided.l0 k n0 P a L (L.length : Int) (i : Int)) (decE ((L.drop i).map fun i => (rd_T60 P i).f0) a) := by
    intro d
    induction d with
    | zero =>
      intro i a hd hi
      obtain rfl : i = L.length := by omega
      refine Ev.succ ?_
      simp only [impl_decided.l0, Int.lt_irrefl, if_false, List.drop_length, List.map_nil, decE]
      exact Ev.now _
    | succ d ih =>
      intro i a hd hi
      have hi' : i < L.length := by omega
      have hx : L[i]? = some L[i] := List.getElem?_eq_getElem hi'
      have hb := hy _ (List.getElem_mem hi')
      rw [List.drop_eq_getElem_cons hi', List.map_cons, decE]
      generalize L[i] = y at hx hb ⊢
      have h1 : ((i : Int) < (L.length : Int)) = True := eq_true (by omega)
      have h2 : (0 ≤ (i : Int)) = True := eq_true (by omega)
      have h3 : (0 ≤ y) = True := eq_true (by omega)
      have h4 : (y < (P.length : Int)) = True := eq_true (by omega)
      have h5 := wr1 hi' (show L.length ≤ 9223372036854775807 by omega)
      refine Ev.succ ?_
      simp only [impl_decided.l0, h1, h2, h3, h4, if_true, rd_nat _ _ _ hx, h5]
      by_cases c0 : (rd_T60 P y).f0 = 0
      · simp only [if_pos c0]; exact Ev.now _
      · simp only [if_neg c0]
        by_cases c1 : (rd_T60 P y).f0 = 1
        · simp only [if_pos c1]; exact ih (i + 1) 1 (by omega) (by omega)
        · simp only [if_neg c1]; exact ih (i + 1) a (by omega) (by omega)
  unfold impl_decided.f
  exact Ev.eqv (by rw [List.drop_zero]) (key L.length 0 0 (by omega) (by omega))

-- impl_DecideBy
theorem impl_DecideBy_ev (l : List S100) (s : List S87) (v : Int) (P : List S60) (q : S30) (hl : l.length ≤ 1048576) (hs : s.length ≤ 1048576) (hp : nPol P ≤ 1048576) : Ev (fun k => impl_DecideBy.f k l s v P q.f0 q.f1 q.f2 q.f3 q.f4 q.f5) (decV l s v P q) := by
  unfold impl_DecideBy.f decV
  simp only [impl_IsRequest_eq, Option.bind_some]
  cases c : reqB q.f0 q.f1 q.f2 q.f3 q.f4 q.f5 with
  | false => simp only [Bool.false_eq_true, if_false]; exact Ev.now _
  | true =>
    simp only [if_true]
    refine Ev.bind (impl_IsPolicy_ev v P hp) ?_
    cases c2 : polB v P with
    | false => simp only [Bool.false_eq_true, if_false]; exact Ev.now _
    | true =>
      simp only [if_true]
      have hlen : P.length ≤ 1048576 := by unfold nPol at hp; omega
      have hL := thatV_len (rhoB l s q) P 0
      refine Ev.bind (impl_RulesThatHold_ev l s q v P hl hs hp) ?_
      exact Ev.bind (impl_decided_ev v P (thatV (rhoB l s q) P 0) (by omega) fun y hy => by
        have := thatV_in (rhoB l s q) P 0 y hy; omega) (Ev.now _)

-- impl_DecisionUntil
/-- A request at another time. -/
def atT (q : S30) (t : Int) : S30 := ⟨q.f0, q.f1, q.f2, q.f3, q.f4, t⟩
theorem impl_DecisionUntil_ev (l : List S100) (s : List S87) (v : Int) (P : List S60) (q : S30) (most : Int) (hl : l.length ≤ 1048576) (hs : s.length ≤ 1048576) (hp : nPol P ≤ 1048576) : ∃ r, Ev (fun k => impl_DecisionUntil.f k l s v P q.f0 q.f1 q.f2 q.f3 q.f4 q.f5 most) r ∧ ((reqB q.f0 q.f1 q.f2 q.f3 q.f4 q.f5 && polB v P) = false → r = q.f5) ∧ ((reqB q.f0 q.f1 q.f2 q.f3 q.f4 q.f5 && polB v P) = true → q.f5 ≤ r ∧ r ≤ 10000 ∧ ∀ u, q.f5 ≤ u → u ≤ r → decV l s v P (atT q u) = decV l s v P q) := by
  unfold impl_DecisionUntil.f
  simp only [impl_IsRequest_eq, Option.bind_some]
  cases c : reqB q.f0 q.f1 q.f2 q.f3 q.f4 q.f5 with
  | false => exact ⟨q.f5, by simp only [Bool.false_eq_true, if_false]; exact Ev.now _, fun _ => rfl, fun h => (by cases h)⟩
  | true =>
    have ht : 0 ≤ q.f5 ∧ q.f5 ≤ 10000 := by
      unfold reqB at c
      simp only [Bool.and_eq_true] at c
      exact timeAt c.2.2.2.2.2
    simp only [if_true, Bool.true_and]
    have hP := impl_IsPolicy_ev v P hp
    cases c2 : polB v P with
    | false =>
      rw [c2] at hP
      exact ⟨q.f5, Ev.bind hP (Ev.now _), fun _ => rfl, fun h => (by cases h)⟩
    | true =>
      rw [c2] at hP
      have hD := impl_DecideBy_ev l s v P q hl hs hp
      have at0 : ∀ u, q.f5 ≤ u → u ≤ q.f5 → decV l s v P (atT q u) = decV l s v P q := fun u h1 h2 => by
        obtain rfl : u = q.f5 := by omega
        rfl
      by_cases c3 : inB most 0 60 = true
      · have hm := inB_iff.1 c3
        have hw : wrap64 (q.f5 + most) = q.f5 + most := wr (by omega) (by omega)
        have key : ∀ (d : Nat) (t : Int), (if 10000 < q.f5 + most then 10000 else q.f5 + most) - t ≤ (d : Int) → q.f5 ≤ t → t ≤ 10000 → ∃ r, Ev (fun k => impl_DecisionUntil.l0 k l s most v P q.f0 q.f1 q.f2 q.f3 q.f4 q.f5 t (decV l s v P q)) r ∧ t ≤ r ∧ r ≤ 10000 ∧ ∀ u, t < u → u ≤ r → decV l s v P (atT q u) = decV l s v P q := by
          intro d
          induction d with
          | zero =>
            intro t hd h0 h1
            refine ⟨t, Ev.succ ?_, Int.le_refl _, h1, fun u h2 h3 => by omega⟩
            simp only [impl_DecisionUntil.l0, hw]
            exact Ev.neg (by omega) (Ev.now _)
          | succ d ih =>
            intro t hd h0 h1
            by_cases c4 : t < (if 10000 < q.f5 + most then 10000 else q.f5 + most)
            · have ht2 : t < 10000 := by split at c4 <;> omega
              have hw2 : wrap64 (t + 1) = t + 1 := wr (by omega) (by omega)
              have hD2 := impl_DecideBy_ev l s v P (atT q (t + 1)) hl hs hp
              by_cases c5 : decV l s v P (atT q (t + 1)) = decV l s v P q
              · obtain ⟨r, e, hr, hr2, hr3⟩ := ih (t + 1) (by omega) (by omega) (by omega)
                refine ⟨r, Ev.succ ?_, by omega, hr2, fun u h2 h3 => ?_⟩
                · simp only [impl_DecisionUntil.l0, hw, if_pos c4, impl_AtTime.f, Option.bind_some, hw2]
                  exact Ev.bind hD2 (Ev.pos c5 e)
                · by_cases c6 : u = t + 1
                  · rw [c6]; exact c5
                  · exact hr3 u (by omega) h3
              · refine ⟨t, Ev.succ ?_, Int.le_refl _, h1, fun u h2 h3 => by omega⟩
                simp only [impl_DecisionUntil.l0, hw, if_pos c4, impl_AtTime.f, Option.bind_some, hw2]
                exact Ev.bind hD2 (Ev.neg c5 (Ev.now _))
            · refine ⟨t, Ev.succ ?_, Int.le_refl _, h1, fun u h2 h3 => by omega⟩
              simp only [impl_DecisionUntil.l0, hw]
              exact Ev.neg c4 (Ev.now _)
        obtain ⟨r, e, hr, hr2, hr3⟩ := key 60 q.f5 (by split <;> omega) (Int.le_refl _) ht.2
        refine ⟨r, Ev.bind hP ?_, fun h => (by cases h), fun _ => ⟨hr, hr2, fun u h1 h2 => ?_⟩⟩
        · simp only [if_true, impl_InRange_eq, Option.bind_some, c3]
          exact Ev.bind hD e
        · by_cases c6 : u = q.f5
          · exact at0 u h1 (by omega)
          · exact hr3 u (by omega) h2
      · refine ⟨q.f5, Ev.bind hP ?_, fun h => (by cases h), fun _ => ⟨Int.le_refl _, ht.2, at0⟩⟩
        simp only [if_true, impl_InRange_eq, Option.bind_some, if_neg c3]
        exact Ev.now _

-- spec_SameQuestion
def sameQ (a q : S30) : Bool := a.f0 == q.f0 && (a.f1 == q.f1 && (a.f2 == q.f2 && (a.f3 == q.f3 && (a.f4 == q.f4))))
theorem spec_SameQuestion_eq (a q : S30) : spec_SameQuestion.f a.f0 a.f1 a.f2 a.f3 a.f4 a.f5 q.f0 q.f1 q.f2 q.f3 q.f4 q.f5 = some (sameQ a q) := by
  simp only [spec_SameQuestion.f, spec_AtTime.f, Option.bind_some, Option.some.injEq, sameQ]
  rw [Bool.eq_iff_iff]
  simp

-- spec_PutSaved
def putStep (x : S34) (s : List S34) (y : S34) : List S34 := if sameQ y.f0 x.f0 = true then s else s ++ [y]
def putEnd (x : S34) (s : List S34) : List S34 := if ((s ++ [x]).length : Int) > 8 then (s ++ [x]).drop 1 else s ++ [x]
def putV (l : List S34) (x : S34) : List S34 := putEnd x (l.foldl (putStep x) [])
theorem putStep_length (x : S34) (s : List S34) (y : S34) : (putStep x s y).length ≤ s.length + 1 := by
  unfold putStep
  split
  · omega
  · rw [List.length_append, List.length_singleton]; exact Nat.le_refl _
theorem putV_from (x : S34) : ∀ (l s : List S34), (l.foldl (putStep x) s).length ≤ s.length + l.length
  | [], s => by simp
  | y :: l, s => by
    have h1 := putV_from x l (putStep x s y)
    have h2 := putStep_length x s y
    simp only [List.foldl_cons, List.length_cons]
    omega
theorem putV_length (l : List S34) (x : S34) : (putV l x).length ≤ l.length ∨ (putV l x).length ≤ 8 := by
  have := putV_from x l []
  rw [List.length_nil] at this
  unfold putV putEnd
  split
  · left; simp only [List.length_drop, List.length_append, List.length_singleton]; omega
  · right; rename_i c; omega
theorem putV_len8 (l : List S34) (x : S34) (h : l.length ≤ 8) : (putV l x).length ≤ 8 := by
  rcases putV_length l x with q | q <;> omega
theorem putV_last (l : List S34) (x : S34) : ∃ s, putV l x = s ++ [x] := by
  unfold putV putEnd
  generalize l.foldl (putStep x) [] = s
  split
  · rename_i c
    cases s with
    | nil => simp at c
    | cons y s => exact ⟨s, rfl⟩
  · exact ⟨s, rfl⟩
theorem spec_PutSaved_ev (l : List S34) (x : S34) (h : l.length ≤ 1048576) : Ev (fun k => spec_PutSaved.f k l x.f0.f0 x.f0.f1 x.f0.f2 x.f0.f3 x.f0.f4 x.f0.f5 x.f1 x.f2) (putV l x) := by
  unfold spec_PutSaved.f putV
  refine ev_fold l (putStep x) (putEnd x) (fun i s => s.length ≤ i) (fun k s i => spec_PutSaved.l0 k l x.f0.f0 x.f0.f1 x.f0.f2 x.f0.f3 x.f0.f4 x.f0.f5 x.f1 x.f2 s i) ?_ ?_ ?_ [] (by simp)
  · intro s hs
    have h3 : (s.length < 2199023255552) = True := eq_true (by have : s.length ≤ l.length := hs; omega)
    refine Ev.succ ?_
    have e : ∀ (y : S34), (⟨⟨y.f0.f0, y.f0.f1, y.f0.f2, y.f0.f3, y.f0.f4, y.f0.f5⟩, y.f1, y.f2⟩ : S34) = y := fun _ => rfl
    simp only [spec_PutSaved.l0, Int.lt_irrefl, if_false, h3, if_true, Option.bind_some, putEnd, e]
    by_cases c : ((s ++ [x]).length : Int) > 8
    · have c1 : 1 ≤ ((s ++ [x]).length : Int) := by omega
      simp only [if_pos c, if_pos c1]
      exact Ev.now _
    · simp only [if_neg c]
      exact Ev.now _
  · intro i y s hx hs
    have := putStep_length x s y
    show (putStep x s y).length ≤ i + 1
    omega
  · intro i y s r hx hs hr
    have hi := lt_of_get hx
    have hs' : s.length ≤ i := hs
    have h1 : ((i : Int) < (l.length : Int)) = True := eq_true (by omega)
    have h2 : (0 ≤ (i : Int)) = True := eq_true (by omega)
    have h3 : (s.length < 2199023255552) = True := eq_true (by omega)
    refine Ev.succ ?_
    simp only [spec_PutSaved.l0, h1, h2, h3, if_true, rd_at_T34 hx, wr1 hi (by omega), spec_SameQuestion_eq y.f0 x.f0, Option.bind_some]
    unfold putStep at hr
    by_cases c : sameQ y.f0 x.f0 = true
    · simp only [if_pos c] at hr ⊢; exact hr
    · simp only [if_neg c] at hr ⊢; exact hr

-- spec_l26List
theorem spec_l26List_tt (s : List Int) (i h : Int) (h0 : 0 ≤ i) (h1 : i ≤ s.length) (hs : s.length ≤ 1048576) : Tt (fun k => spec_l26List.f k s i h) (fun r => r.1.length ≤ 8 ∧ 0 ≤ r.2.1 ∧ r.2.1 ≤ s.length) := by
  obtain ⟨n, i1, g1, e1, n0, n1, i10, i11⟩ := spec_l1Below_ok s i h h0 h1 hs 5 (by omega) (by omega)
  obtain ⟨m, rfl⟩ : ∃ m : Nat, n = (m : Int) := ⟨n.toNat, by omega⟩
  unfold spec_l26List.f
  simp only [e1, Option.bind_some]
  refine Tt.down (Q := fun r : List S34 × Int × Int => r.1.length ≤ 8 ∧ 0 ≤ r.2.1 ∧ r.2.1 ≤ s.length) (fun k m (t : List S34 × Int × Int) => spec_l26List.l0 k s t.2.1 t.2.2 t.1 (m : Int)) (fun m t => m ≤ 10 ∧ t.1.length ≤ 8 ∧ 0 ≤ t.2.1 ∧ t.2.1 ≤ s.length) ?_ ?_ m ([], i1, g1) ⟨by omega, by simp, i10, i11⟩
  · rintro m ⟨l, i, h⟩ ⟨hm, hl, hi, hi'⟩ ih
    dsimp only at hl hi hi' ⊢
    obtain ⟨a, b, c, d, e, f, i2, g2, e2, f0, f1, i20, i21⟩ := spec_l17Request_ok s i h hi hi' hs
    obtain ⟨u, i3, g3, e3, _, _, i30, i31⟩ := spec_l1Below_ok s i2 g2 i20 i21 hs 2 (by omega) (by omega)
    obtain ⟨v, i4, g4, e4, _, _, i40, i41⟩ := spec_l1Below_ok s i3 g3 i30 i31 hs 9 (by omega) (by omega)
    have hp : (((m + 1 : Nat) : Int) > 0) = True := eq_true (by omega)
    have hw : wrap64 (((m + 1 : Nat) : Int) - 1) = (m : Int) := by rw [wr (by omega) (by omega)]; omega
    refine Tt.succ ?_
    simp only [spec_l26List.l0, hp, if_true, hw, e2, e3, e4, Option.bind_some]
    exact Tt.bind (Tt.ev (P := fun r => r.length ≤ 8) (spec_PutSaved_ev l ⟨⟨a, b, c, d, e, f⟩, u, wrap64 (f + v)⟩ (by omega)) (putV_len8 _ _ hl)) fun r hr => ih (r, i4, g4) ⟨by omega, hr, i40, i41⟩
  · rintro ⟨l, i, h⟩ ⟨hm, hl, hi, hi'⟩
    refine Tt.succ ?_
    dsimp only at hl hi hi' ⊢
    simp only [spec_l26List.l0]
    exact Tt.neg (by omega) (Tt.now ⟨hl, hi, hi'⟩)

-- spec_DrawPutSaved
theorem spec_DrawPutSaved_tt (s : List Int) (hs : s.length ≤ 1048576) : Tt (fun k => spec_DrawPutSaved.f k s) (fun r => r.1.length ≤ 20) := by
  unfold spec_DrawPutSaved.f
  obtain ⟨x, hx⟩ := spec_l1New_ev s hs
  refine Tt.bind (Tt.ev (P := fun r => r = (s, 0, x)) hx rfl) ?_
  rintro _ rfl
  refine Tt.bind (spec_l26List_tt s 0 x (by omega) (by omega) hs) ?_
  rintro ⟨l, i1, g1⟩ ⟨hl, i10, i11⟩
  dsimp only at hl i10 i11 ⊢
  obtain ⟨o, i2, g2, e2, i20, i21⟩ := spec_l1Once_ok s i1 g1 i10 i11 hs 8 (by omega) (by omega)
  obtain ⟨a, b, c, d, e, f, i3, g3, e3, i30, i31⟩ := spec_l17Any_ok s i2 g2 i20 i21 hs
  obtain ⟨o2, i4, g4, e4, i40, i41⟩ := spec_l1Once_ok s i3 g3 i30 i31 hs 2 (by omega) (by omega)
  simp only [e2, e3, e4, Option.bind_some, spec_AtTime.f]
  refine Tt.ite (fun _ => ?_) (fun _ => Tt.ite (fun hp => Tt.ite (fun _ => Tt.pos hp (Tt.now (by dsimp only; omega))) (fun _ => Tt.now (by dsimp only; omega))) (fun _ => Tt.now (by dsimp only; omega)))
  refine Tt.up (Q := fun r : List S34 × Int × Int × Int × Int × Int × Int × Int × Int => r.1.length ≤ 20) 9 (fun k i (t : List S34) => spec_DrawPutSaved.l0 k 0 0 0 0 0 0 0 0 s i2 g2 t (i : Int)) (fun i t => t.length ≤ 8 + i) ?_ ?_ 0 l (by omega) (by omega)
  · intro i t hi ht ih
    have h1 : ((i : Int) < 9) = True := eq_true (by omega)
    have h2 : (t.length < 2199023255552) = True := eq_true (by omega)
    refine Tt.succ ?_
    simp only [spec_DrawPutSaved.l0, h1, h2, if_true, wr1 hi (by omega)]
    exact ih _ (by rw [List.length_append, List.length_singleton]; omega)
  · intro t ht
    refine Tt.succ ?_
    have h1 : (((9 : Nat) : Int) < 9) = False := eq_false (by omega)
    simp only [spec_DrawPutSaved.l0, h1, if_false, e3, e4, Option.bind_some, spec_AtTime.f]
    exact Tt.ite (fun hp => Tt.ite (fun _ => Tt.pos hp (Tt.now (by dsimp only; omega))) (fun _ => Tt.now (by dsimp only; omega))) (fun _ => Tt.now (by dsimp only; omega))

-- impl_SameQuestion
theorem impl_SameQuestion_eq (a q : S30) : impl_SameQuestion.f a.f0 a.f1 a.f2 a.f3 a.f4 a.f5 q.f0 q.f1 q.f2 q.f3 q.f4 q.f5 = some (sameQ a q) := by
  simp only [impl_SameQuestion.f, impl_AtTime.f, Option.bind_some, Option.some.injEq, sameQ]
  rw [Bool.eq_iff_iff]
  simp

-- impl_PutSaved
theorem impl_PutSaved_ev (l : List S34) (x : S34) (h : l.length ≤ 1048576) : Ev (fun k => impl_PutSaved.f k l x.f0.f0 x.f0.f1 x.f0.f2 x.f0.f3 x.f0.f4 x.f0.f5 x.f1 x.f2) (putV l x) := by
  unfold impl_PutSaved.f putV
  refine ev_fold l (putStep x) (putEnd x) (fun i s => s.length ≤ i) (fun k s i => impl_PutSaved.l0 k x.f0.f0 x.f0.f1 x.f0.f2 x.f0.f3 x.f0.f4 x.f0.f5 x.f1 x.f2 s l (l.length : Int) i) ?_ ?_ ?_ [] (by simp)
  · intro s hs
    have h3 : (s.length < 2199023255552) = True := eq_true (by have : s.length ≤ l.length := hs; omega)
    refine Ev.succ ?_
    have e : ∀ (y : S34), (⟨⟨y.f0.f0, y.f0.f1, y.f0.f2, y.f0.f3, y.f0.f4, y.f0.f5⟩, y.f1, y.f2⟩ : S34) = y := fun _ => rfl
    simp only [impl_PutSaved.l0, Int.lt_irrefl, if_false, h3, if_true, Option.bind_some, putEnd, e]
    by_cases c : ((s ++ [x]).length : Int) > 8
    · have c1 : 1 ≤ ((s ++ [x]).length : Int) := by omega
      simp only [if_pos c, if_pos c1]
      exact Ev.now _
    · simp only [if_neg c]
      exact Ev.now _
  · intro i y s hx hs
    have := putStep_length x s y
    show (putStep x s y).length ≤ i + 1
    omega
  · intro i y s r hx hs hr
    have hi := lt_of_get hx
    have hs' : s.length ≤ i := hs
    have h1 : ((i : Int) < (l.length : Int)) = True := eq_true (by omega)
    have h2 : (0 ≤ (i : Int)) = True := eq_true (by omega)
    have h3 : (s.length < 2199023255552) = True := eq_true (by omega)
    refine Ev.succ ?_
    simp only [impl_PutSaved.l0, h1, h2, h3, if_true, rd_at_T34 hx, wr1 hi (by omega), impl_SameQuestion_eq y.f0 x.f0, Option.bind_some]
    unfold putStep at hr
    by_cases c : sameQ y.f0 x.f0 = true
    · simp only [if_pos c] at hr ⊢; exact hr
    · simp only [if_neg c] at hr ⊢; exact hr

-- impl_FindSaved
def findSP (q : S30) (x : S34) : Bool := sameQ x.f0 q && (decide (x.f0.f5 ≤ q.f5) && decide (x.f2 ≥ q.f5))
theorem impl_FindSaved_ev (l : List S34) (q : S30) (h : l.length ≤ 1048576) : Ev (fun k => impl_FindSaved.f k l q.f0 q.f1 q.f2 q.f3 q.f4 q.f5) (idxV (findSP q) l 0) := by
  unfold impl_FindSaved.f
  refine Ev.bind (a := idxV (findSP q) l 0) ?_ (Ev.now _)
  unfold slices_IndexFunc30_31.f
  refine idx_ev (fun k i => slices_IndexFunc30_31.l0 k l q.f0 q.f1 q.f2 q.f3 q.f4 q.f5 (l.length : Int) i) (findSP q) l 0 l.length (by omega) ?_ ?_
  · refine Ev.succ ?_
    simp only [slices_IndexFunc30_31.l0, Int.lt_irrefl, if_false]
    exact Ev.now _
  · intro j x r _ hx
    rw [Nat.sub_zero] at hx
    have hj := lt_of_get hx
    have h1 : ((j : Int) < (l.length : Int)) = True := eq_true (by omega)
    have h2 : (0 ≤ (j : Int)) = True := eq_true (by omega)
    have hc : cl31.f x.f0.f0 x.f0.f1 x.f0.f2 x.f0.f3 x.f0.f4 x.f0.f5 x.f1 x.f2 q.f0 q.f1 q.f2 q.f3 q.f4 q.f5 = some (findSP q x) := by
      unfold cl31.f findSP
      simp only [impl_SameQuestion_eq x.f0 q, Option.bind_some]
      cases sameQ x.f0 q with
      | false => rfl
      | true =>
        by_cases c : x.f0.f5 ≤ q.f5
        · simp only [if_true, if_pos c, decide_eq_true c, Bool.true_and]
        · simp only [if_true, if_neg c, decide_eq_false c, Bool.false_and, Bool.and_false]
    constructor
    · intro hp
      refine Ev.succ ?_
      simp only [slices_IndexFunc30_31.l0, h1, h2, if_true, rd_at_T34 hx, hc, Option.bind_some, hp]
      exact Ev.now _
    · intro hp he
      refine Ev.succ ?_
      simp only [slices_IndexFunc30_31.l0, h1, h2, if_true, rd_at_T34 hx, hc, Option.bind_some, hp, Bool.false_eq_true, if_false, wr1 hj (by omega)]
      exact he

-- skip impl_SaveDecision
-- dirs v2
theorem find_one (x : S34) (q : S30) : Ev (fun k => impl_FindSaved.f k [x] q.f0 q.f1 q.f2 q.f3 q.f4 q.f5) (if findSP q x = true then 0 else -1) := by
  refine Ev.eqv ?_ (impl_FindSaved_ev [x] q (by simp))
  simp only [idxV]
theorem sameQ_at (q : S30) (t : Int) : sameQ q (atT q t) = true := by
  simp [sameQ, atT]
theorem FnSavedAnswers : laws_FnSavedAnswers.Pure := by
  intro a h1 h2
  refine Ev.rounds ?_
  unfold laws_FnSavedAnswers.f laws_big.f
  simp only [Option.bind_some, decide_eq_true_eq]
  by_cases cb : (a.length : Int) > 1048576
  · simp only [if_pos cb]; exact Ev.now _
  simp only [if_neg cb]
  have ha : a.length ≤ 1048576 := by omega
  obtain ⟨⟨l, s, v, P, q0, q1, q2, q3, q4, q5, most⟩, e1, hl, hs, hP, hx⟩ := spec_DrawSaveDecision_tt a ha
  refine Ev.bind e1 ?_
  dsimp only at hl hs hP hx ⊢
  have hpol : nPol P ≤ 1048576 := by
    unfold nPol
    have : ∀ L : List S60, (∀ x ∈ L, n58 x.f3 ≤ 10) → (L.map n60).sum ≤ 10 * L.length := by
      intro L
      induction L with
      | nil => intro _; simp
      | cons x L ih =>
        intro h
        have h1 := ih fun y hy => h y (List.mem_cons_of_mem _ hy)
        have h2 := h x List.mem_cons_self
        rw [List.map_cons, List.sum_cons, List.length_cons]
        have : n60 x = n58 x.f3 := rfl
        omega
    have := this P hx
    omega
  obtain ⟨r, eU, hU0, hU1⟩ := impl_DecisionUntil_ev l s v P ⟨q0, q1, q2, q3, q4, q5⟩ most (by omega) (by omega) hpol
  have eD := impl_DecideBy_ev l s v P ⟨q0, q1, q2, q3, q4, q5⟩ (by omega) (by omega) hpol
  have eS : Ev (fun k => impl_SaveDecision.f k l s v P q0 q1 q2 q3 q4 q5 most) (q0, q1, q2, q3, q4, q5, decV l s v P ⟨q0, q1, q2, q3, q4, q5⟩, r) := by
    unfold impl_SaveDecision.f
    exact Ev.bind eD (Ev.bind eU (Ev.now _))
  refine Ev.bind eS ?_
  obtain ⟨⟨L, y0, y1, y2, y3, y4, y5, y6, y7⟩, e3, hL⟩ := spec_DrawPutSaved_tt a ha
  refine Ev.bind e3 ?_
  dsimp only at hL ⊢
  refine Ev.bind (impl_PutSaved_ev L ⟨⟨y0, y1, y2, y3, y4, y5⟩, y6, y7⟩ (by omega)) ?_
  have hlen := putV_length L ⟨⟨y0, y1, y2, y3, y4, y5⟩, y6, y7⟩
  have hlen8 := putV_len8 L ⟨⟨y0, y1, y2, y3, y4, y5⟩, y6, y7⟩
  obtain ⟨S, hS⟩ := putV_last L ⟨⟨y0, y1, y2, y3, y4, y5⟩, y6, y7⟩
  rw [hS] at hlen hlen8
  rw [hS]
  have hSl : (S ++ [(⟨⟨y0, y1, y2, y3, y4, y5⟩, y6, y7⟩ : S34)]).length = S.length + 1 := by rw [List.length_append, List.length_singleton]
  have hw : wrap64 (((S.length + 1 : Nat) : Int) - 1) = (S.length : Int) := by rw [wr (by omega) (by omega)]; omega
  have hrd : rd_T34 (S ++ [(⟨⟨y0, y1, y2, y3, y4, y5⟩, y6, y7⟩ : S34)]) (S.length : Int) = ⟨⟨y0, y1, y2, y3, y4, y5⟩, y6, y7⟩ := rd_at_T34 (by simp)
  rw [hSl] at hlen hlen8
  simp only [hSl, hw, hrd]
  refine Ev.neg (by omega) (Ev.pos (by omega) (Ev.pos (by omega) (Ev.pos (by simp) ?_)))
  -- what follows stands there twice
  have rest : Ev (fun k => (impl_IsRequest.f q0 q1 q2 q3 q4 q5).bind fun t62 => if t62 = true then (impl_IsPolicy.f k v P).bind fun t66 => if t66 = true then laws_FnSavedAnswers.l0 k l s v P q0 q1 q2 q3 q4 q5 q0 q1 q2 q3 q4 q5 (decV l s v P ⟨q0, q1, q2, q3, q4, q5⟩) r q5 else some (decide (r = q5)) else some (decide (r = q5))) true := by
    simp only [impl_IsRequest_eq, Option.bind_some]
    cases c : reqB q0 q1 q2 q3 q4 q5 with
    | false =>
      simp only [Bool.false_eq_true, if_false]
      exact Ev.eqv (decide_eq_true (hU0 (by rw [c]; rfl))) (Ev.now _)
    | true =>
      simp only [if_true]
      refine Ev.bind (impl_IsPolicy_ev v P hpol) ?_
      cases c2 : polB v P with
      | false =>
        simp only [Bool.false_eq_true, if_false]
        exact Ev.eqv (decide_eq_true (hU0 (by rw [c, c2]; rfl))) (Ev.now _)
      | true =>
        simp only [if_true]
        obtain ⟨hr0, hr1, hr2⟩ := hU1 (by rw [c, c2]; rfl)
        dsimp only at hr0 hr2
        have ht : 0 ≤ q5 := by
          unfold reqB at c
          simp only [Bool.and_eq_true] at c
          exact (timeAt c.2.2.2.2.2).1
        have key : ∀ (d : Nat) (t : Int), r + 1 - t = (d : Int) → q5 ≤ t → Ev (fun k => laws_FnSavedAnswers.l0 k l s v P q0 q1 q2 q3 q4 q5 q0 q1 q2 q3 q4 q5 (decV l s v P ⟨q0, q1, q2, q3, q4, q5⟩) r t) true := by
          intro d
          induction d with
          | zero =>
            intro t hd h0
            refine Ev.succ ?_
            simp only [laws_FnSavedAnswers.l0, impl_AtTime.f, Option.bind_some]
            refine Ev.neg (by omega) ?_
            rw [wr (x := r + 1) (by omega) (by omega), wr (x := q5 - 1) (by omega) (by omega)]
            have n1 : findSP (atT ⟨q0, q1, q2, q3, q4, q5⟩ (r + 1)) ⟨⟨q0, q1, q2, q3, q4, q5⟩, decV l s v P ⟨q0, q1, q2, q3, q4, q5⟩, r⟩ = false := by
              unfold findSP atT
              dsimp only
              rw [decide_eq_false (show ¬ r ≥ r + 1 by omega)]
              simp
            have n2 : findSP (atT ⟨q0, q1, q2, q3, q4, q5⟩ (q5 - 1)) ⟨⟨q0, q1, q2, q3, q4, q5⟩, decV l s v P ⟨q0, q1, q2, q3, q4, q5⟩, r⟩ = false := by
              unfold findSP atT
              dsimp only
              rw [decide_eq_false (show ¬ q5 ≤ q5 - 1 by omega)]
              simp
            have f1 := find_one ⟨⟨q0, q1, q2, q3, q4, q5⟩, decV l s v P ⟨q0, q1, q2, q3, q4, q5⟩, r⟩ (atT ⟨q0, q1, q2, q3, q4, q5⟩ (r + 1))
            have f2 := find_one ⟨⟨q0, q1, q2, q3, q4, q5⟩, decV l s v P ⟨q0, q1, q2, q3, q4, q5⟩, r⟩ (atT ⟨q0, q1, q2, q3, q4, q5⟩ (q5 - 1))
            rw [n1] at f1
            rw [n2] at f2
            refine Ev.bind f1 ?_
            refine Ev.pos rfl (Ev.bind f2 ?_)
            exact Ev.now _
          | succ d ih =>
            intro t hd h0
            refine Ev.succ ?_
            simp only [laws_FnSavedAnswers.l0, impl_AtTime.f, Option.bind_some]
            refine Ev.pos (by omega) ?_
            have hD2 := impl_DecideBy_ev l s v P (atT ⟨q0, q1, q2, q3, q4, q5⟩ t) (by omega) (by omega) hpol
            refine Ev.bind hD2 (Ev.pos (hr2 t h0 (by omega)) ?_)
            have n1 : findSP (atT ⟨q0, q1, q2, q3, q4, q5⟩ t) ⟨⟨q0, q1, q2, q3, q4, q5⟩, decV l s v P ⟨q0, q1, q2, q3, q4, q5⟩, r⟩ = true := by
              unfold findSP
              rw [sameQ_at]
              unfold atT
              dsimp only
              rw [decide_eq_true h0, decide_eq_true (show r ≥ t by omega)]
              rfl
            have f1 := find_one ⟨⟨q0, q1, q2, q3, q4, q5⟩, decV l s v P ⟨q0, q1, q2, q3, q4, q5⟩, r⟩ (atT ⟨q0, q1, q2, q3, q4, q5⟩ t)
            rw [n1] at f1
            refine Ev.bind f1 (Ev.pos rfl ?_)
            rw [wr (x := t + 1) (by omega) (by omega)]
            exact ih (t + 1) (by omega) (by omega)
        exact key (r + 1 - q5).toNat q5 (by omega) (Int.le_refl _)
  by_cases c8 : (L.length : Int) ≤ 8
  · refine Ev.pos c8 (Ev.neg ?_ rest)
    have := hlen8 (by omega)
    omega
  · exact Ev.neg c8 rest

end Go.Proofs.YtomgfohmjpcocaaGreat.Pure
