/- The law FnLeases answers true for all arguments, over numbers and lists alone: what each function computes, and that program and reference compute the same. No condition. -/
import Derived.Test.YtplfbjbbnjlnkaaQFnLeasesx0
import Derived.Test.YtplfbjbbnjlnkaaL
namespace Go.Proofs.Ytplfbjbbnjlnkaa.Pure
open Go.RowKit Go.Proofs.Ytplfbjbbnjlnkaa.QFnLeases Go.Proofs.YtplfbjbbnjlnkaaL Go.Proofs.YtplfbjbbnjlnkaaW.PrintWords Go.Proofs.YtplfbjbbnjlnkaaW.PrintLast
set_option linter.unusedVariables false
set_option linter.unusedSimpArgs false

theorem eta219 (x : S219) : (⟨x.f0, x.f1, x.f2, x.f3⟩ : S219) = x := by cases x; rfl
mutual
def n219 : S219 → Nat
  | ⟨x0, x1, x2, x3⟩ => x3.length + nL219 x3
def nL219 : List S219 → Nat
  | [] => 0
  | x :: l => n219 x + nL219 l
end
theorem nL219_eq : ∀ l : List S219, nL219 l = (l.map n219).sum
  | [] => by simp [nL219]
  | x :: l => by simp [nL219, nL219_eq l]
theorem n219_f (x : S219) : n219 x = x.f3.length + (x.f3.map n219).sum := by
  cases x
  simp only [n219, nL219_eq]
def n221 (x : S221) : Nat := n219 x.f3
def n109 (x : S109) : Nat := x.f1.length + (x.f1.map n221).sum
def n111 (x : S111) : Nat := x.f2.length + n109 x.f3
theorem rd_at_T208 {l : List S208} {i : Nat} {x : S208} (h : l[i]? = some x) : rd_T208 l (i : Int) = x := getD_nat l _ i x h
theorem rd_at_T219 {l : List S219} {i : Nat} {x : S219} (h : l[i]? = some x) : rd_T219 l (i : Int) = x := getD_nat l _ i x h
theorem rd_at_T221 {l : List S221} {i : Nat} {x : S221} (h : l[i]? = some x) : rd_T221 l (i : Int) = x := getD_nat l _ i x h
theorem rd_at_T111 {l : List S111} {i : Nat} {x : S111} (h : l[i]? = some x) : rd_T111 l (i : Int) = x := getD_nat l _ i x h
def eqT208 (x y : S208) : Bool := (x.f0 == y.f0) && ((x.f1 == y.f1))

-- spec_l1New
theorem spec_l1New_ev (l : List Int) (h : l.length ≤ 1048576) : ∃ x, Ev (fun k => spec_l1New.f k l) (l, 0, x) := by
  have key : ∀ (n i : Nat) (a : Int), i + n = l.length → ∃ x, Ev (fun k => spec_l1New.l0 k l a (i : Int)) (l, 0, x) := by
    intro n
    induction n with
    | zero =>
      intro i a e
      obtain rfl : i = l.length := by omega
      refine ⟨a, Ev.succ ?_⟩
      simp only [spec_l1New.l0, Int.lt_irrefl, if_false]
      exact Ev.now _
    | succ n ih =>
      intro i a e
      have hi : i < l.length := by omega
      have h1 : ((i : Int) < (l.length : Int)) = True := eq_true (by omega)
      have h2 : (0 ≤ (i : Int)) = True := eq_true (by omega)
      by_cases c : (i : Int) < 4000
      · obtain ⟨x, hx⟩ := ih (i + 1) (Go.bits .and .i64 (wrap64 ((wrap64 ((wrap64 (a * 137)) + (wrap64 (rd l (i : Int))))) + 11)) 1073741823) (by omega)
        refine ⟨x, Ev.succ ?_⟩
        simp only [spec_l1New.l0, h1, h2, if_true, if_pos c, wr1 hi (by omega)]
        exact hx
      · refine ⟨a, Ev.succ ?_⟩
        simp only [spec_l1New.l0, h1, if_true, if_neg c]
        exact Ev.now _
  exact key l.length 0 _ (by omega)

-- spec_l1Byte
/-- What a mask of eight bits leaves. -/
theorem and255 (a : Int) : 0 ≤ Go.bits .and .i64 a 255 ∧ Go.bits .and .i64 a 255 ≤ 255 := by
  show 0 ≤ IntKind.i64.wrap ((BitVec.ofInt 64 a &&& BitVec.ofInt 64 255).toNat : Int) ∧ IntKind.i64.wrap ((BitVec.ofInt 64 a &&& BitVec.ofInt 64 255).toNat : Int) ≤ 255
  have e : (BitVec.ofInt 64 255).toNat = 255 := by decide
  have h : (BitVec.ofInt 64 a &&& BitVec.ofInt 64 255).toNat ≤ 255 := by rw [BitVec.toNat_and, e]; exact Nat.and_le_right
  generalize (BitVec.ofInt 64 a &&& BitVec.ofInt 64 255).toNat = m at h ⊢
  have hw : IntKind.i64.wrap (m : Int) = (m : Int) := by
    rw [i64_w]
    exact wr (by omega) (by omega)
  rw [hw]
  omega
theorem spec_l1Byte_ok (s : List Int) (i h : Int) (h0 : 0 ≤ i) (h1 : i ≤ s.length) (hs : s.length ≤ 1048576) : ∃ x j h', spec_l1Byte.f s i h = some (x, j, h') ∧ 0 ≤ x ∧ x ≤ 255 ∧ 0 ≤ j ∧ j ≤ s.length := by
  unfold spec_l1Byte.f
  by_cases c : i < (s.length : Int)
  · rw [if_pos c, if_pos h0]
    have e : wrap64 (i + 1) = i + 1 := wr (by omega) (by omega)
    exact ⟨_, _, _, rfl, (and255 _).1, (and255 _).2, by omega, by omega⟩
  · rw [if_neg c]
    exact ⟨_, _, _, rfl, (and255 _).1, (and255 _).2, h0, h1⟩

-- spec_l1Below
theorem spec_l1Below_ok (s : List Int) (i h : Int) (h0 : 0 ≤ i) (h1 : i ≤ s.length) (hs : s.length ≤ 1048576) (n : Int) (n0 : 0 < n) (n1 : n ≤ 256) : ∃ x j h', spec_l1Below.f s i h n = some (x, j, h') ∧ 0 ≤ x ∧ x < n ∧ 0 ≤ j ∧ j ≤ s.length := by
  obtain ⟨x, j, h', e, x0, x1, j0, j1⟩ := spec_l1Byte_ok s i h h0 h1 hs
  unfold spec_l1Below.f
  rw [if_neg (by omega), if_pos n1, e, Option.bind_some, if_neg (by omega)]
  exact ⟨_, _, _, rfl, Int.tmod_nonneg _ x0, Int.tmod_lt_of_pos _ n0, j0, j1⟩

-- spec_l14Pairs
theorem spec_l14Pairs_ev (s : List Int) (i h : Int) (h0 : 0 ≤ i) (h1 : i ≤ s.length) (hs : s.length ≤ 1048576) : ∃ (l : List S208) (j g : Int), Ev (fun k => spec_l14Pairs.f k s i h) (l, j, g) ∧ l.length ≤ 3 ∧ 0 ≤ j ∧ j ≤ s.length := by
  have key : ∀ (m : Nat) (l : List S208) (i h : Int), 0 ≤ i → i ≤ s.length → l.length + m ≤ 3 → ∃ (l' : List S208) (j g : Int), Ev (fun k => spec_l14Pairs.l0 k s i h l (m : Int)) (l', j, g) ∧ l'.length ≤ 3 ∧ 0 ≤ j ∧ j ≤ s.length := by
    intro m
    induction m with
    | zero =>
      intro l i h i0 i1 hl
      refine ⟨l, i, h, Ev.succ ?_, by omega, i0, i1⟩
      simp only [spec_l14Pairs.l0]
      exact Ev.neg (by omega) (Ev.now _)
    | succ m ih =>
      intro l i h i0 i1 hl
      obtain ⟨a, i2, g2, e2, a0, a1, i20, i21⟩ := spec_l1Below_ok s i h i0 i1 hs 5 (by omega) (by omega)
      have hw2 : wrap64 (1 + a) = 1 + a := wr (by omega) (by omega)
      obtain ⟨b, i3, g3, e3, _, _, i30, i31⟩ := spec_l1Below_ok s i2 g2 i20 i21 hs (1 + a) (by omega) (by omega)
      obtain ⟨l', j, g, e', hl', hj⟩ := ih (l ++ [⟨1 + a, b⟩]) i3 g3 i30 i31 (by rw [List.length_append, List.length_singleton]; omega)
      refine ⟨l', j, g, Ev.succ ?_, hl', hj⟩
      have hp : (((m + 1 : Nat) : Int) > 0) = True := eq_true (by omega)
      have hw : wrap64 (((m + 1 : Nat) : Int) - 1) = (m : Int) := by rw [wr (by omega) (by omega)]; omega
      have hl2 : (l.length < 8796093022208) = True := eq_true (by omega)
      simp only [spec_l14Pairs.l0, hp, if_true, hw, e2, hw2, e3, Option.bind_some, hl2]
      exact e'
  obtain ⟨n, i2, g2, e2, n0, n1, i20, i21⟩ := spec_l1Below_ok s i h h0 h1 hs 4 (by omega) (by omega)
  obtain ⟨m, rfl⟩ : ∃ m : Nat, n = (m : Int) := ⟨n.toNat, by omega⟩
  obtain ⟨l, j, g, e, hl, hj⟩ := key m [] i2 g2 i20 i21 (by simp; omega)
  refine ⟨l, j, g, ?_, hl, hj⟩
  unfold spec_l14Pairs.f
  simp only [e2, Option.bind_some]
  exact e

-- spec_l1Int
theorem spec_l1Int_ok (s : List Int) (i h : Int) (h0 : 0 ≤ i) (h1 : i ≤ s.length) (hs : s.length ≤ 1048576) (l : List Int) (n0 : 0 < l.length) (n1 : l.length ≤ 256) : ∃ x j h', spec_l1Int.f s i h l = some (x, j, h') ∧ 0 ≤ j ∧ j ≤ s.length := by
  obtain ⟨x, j, h', e, x0, x1, j0, j1⟩ := spec_l1Below_ok s i h h0 h1 hs (l.length : Int) (by omega) (by omega)
  unfold spec_l1Int.f
  rw [e, Option.bind_some, if_pos x0, if_pos x1]
  exact ⟨_, _, _, rfl, j0, j1⟩

-- spec_l15Leaf
theorem spec_l15Leaf_ok (s : List Int) (i h : Int) (h0 : 0 ≤ i) (h1 : i ≤ s.length) (hs : s.length ≤ 1048576) : ∃ (x : S219) (j g : Int), spec_l15Leaf.f s i h = some (x.f0, x.f1, x.f2, x.f3, j, g) ∧ n219 x = 0 ∧ 0 ≤ j ∧ j ≤ s.length := by
  have nz : ∀ a b c : Int, n219 (⟨a, b, c, []⟩ : S219) = 0 := by intro a b c; rw [n219_f]; rfl
  obtain ⟨age, i1, g1, e1, i10, i11⟩ := spec_l1Int_ok s i h h0 h1 hs [3, 10, 20] (by simp) (by simp)
  obtain ⟨m, i2, g2, e2, m0, m1, i20, i21⟩ := spec_l1Below_ok s i1 g1 i10 i11 hs 7 (by omega) (by omega)
  obtain ⟨v, i3, g3, e3, _, _, i30, i31⟩ := spec_l1Below_ok s i2 g2 i20 i21 hs 3 (by omega) (by omega)
  obtain ⟨v', i4, g4, e4, _, _, i40, i41⟩ := spec_l1Below_ok s i2 g2 i20 i21 hs 2 (by omega) (by omega)
  obtain ⟨u, i5, g5, e5, i50, i51⟩ := spec_l1Int_ok s i2 g2 i20 i21 hs [5, 15, 25] (by simp) (by simp)
  unfold spec_l15Leaf.f
  simp only [e1, e2, e3, e4, e5, Option.bind_some]
  by_cases c0 : m = 0
  · exact ⟨⟨1, 0, 0, []⟩, i2, g2, if_pos c0, nz _ _ _, i20, i21⟩
  rw [if_neg c0]
  by_cases c1 : m = 1
  · exact ⟨⟨2, v, age, []⟩, i3, g3, if_pos c1, nz _ _ _, i30, i31⟩
  rw [if_neg c1]
  by_cases c2 : m = 2
  · exact ⟨⟨2, v, age, []⟩, i3, g3, if_pos c2, nz _ _ _, i30, i31⟩
  rw [if_neg c2]
  by_cases c3 : m = 3
  · exact ⟨⟨3, 0, age, []⟩, i2, g2, if_pos c3, nz _ _ _, i20, i21⟩
  rw [if_neg c3]
  by_cases c4 : m = 4
  · exact ⟨⟨4, wrap64 (1 + v), age, []⟩, i3, g3, if_pos c4, nz _ _ _, i30, i31⟩
  rw [if_neg c4]
  by_cases c5 : m = 5
  · exact ⟨⟨5, wrap64 (1 + v'), age, []⟩, i4, g4, if_pos c5, nz _ _ _, i40, i41⟩
  rw [if_neg c5]
  exact ⟨⟨6, u, 0, []⟩, i5, g5, rfl, nz _ _ _, i50, i51⟩

-- spec_l1Once
theorem spec_l1Once_ok (s : List Int) (i h : Int) (h0 : 0 ≤ i) (h1 : i ≤ s.length) (hs : s.length ≤ 1048576) (n : Int) (n0 : 0 < n) (n1 : n ≤ 256) : ∃ x j h', spec_l1Once.f s i h n = some (x, j, h') ∧ 0 ≤ j ∧ j ≤ s.length := by
  obtain ⟨x, j, g, e, _, _, j0, j1⟩ := spec_l1Below_ok s i h h0 h1 hs n n0 n1
  unfold spec_l1Once.f
  rw [e, Option.bind_some]
  exact ⟨_, _, _, rfl, j0, j1⟩

-- spec_l15Copy
theorem copyC_evN (N : Nat) : ∀ x : S219, n219 x ≤ N → N ≤ 1048576 → Ev (fun k => spec_l15Copy.f k x.f0 x.f1 x.f2 x.f3) (x.f0, x.f1, x.f2, x.f3) := by
  induction N using Nat.strongRecOn with
  | _ N ih =>
  intro x h hN
  rw [n219_f] at h
  refine Ev.succ ?_
  simp only [spec_l15Copy.f]
  have key : ∀ (d i : Nat), x.f3.length - i = d → i ≤ x.f3.length → Ev (fun k => spec_l15Copy.l0 k x.f0 x.f1 x.f2 x.f3 0 0 0 [] x.f0 x.f1 x.f2 (x.f3.take i) (i : Int)) (x.f0, x.f1, x.f2, x.f3) := by
    intro d
    induction d with
    | zero =>
      intro i hd hi
      obtain rfl : i = x.f3.length := by omega
      refine Ev.succ ?_
      simp only [spec_l15Copy.l0, Int.lt_irrefl, if_false, List.take_length]
      exact Ev.now _
    | succ d ihd =>
      intro i hd hi
      have hi' : i < x.f3.length := by omega
      obtain ⟨y, hy⟩ := getAt (l := x.f3) (i := i) hi'
      have hn := le_sum n219 hy
      have h1 : ((i : Int) < (x.f3.length : Int)) = True := eq_true (by omega)
      have h2 : (0 ≤ (i : Int)) = True := eq_true (by omega)
      have h3 : ((x.f3.take i).length < 2932031007402) = True := eq_true (by rw [List.length_take]; omega)
      have e := ih (n219 y) (by omega) y (Nat.le_refl _) (by omega)
      have e3 : x.f3.take i ++ [y] = x.f3.take (i + 1) := by rw [List.take_add_one, hy]; rfl
      refine Ev.succ ?_
      simp only [spec_l15Copy.l0, h1, h2, if_true, rd_at_T219 hy, wr1 hi' (by omega)]
      refine Ev.bind e ?_
      simp only [h3, if_true, eta219, e3]
      exact ihd (i + 1) (by omega) (by omega)
  exact key x.f3.length 0 (by omega) (by omega)
theorem spec_l15Copy_ev (x : S219) (h : n219 x ≤ 1048576) : Ev (fun k => spec_l15Copy.f k x.f0 x.f1 x.f2 x.f3) (x.f0, x.f1, x.f2, x.f3) := copyC_evN _ x (Nat.le_refl _) h

-- spec_CondNot
theorem spec_CondNot_ev (x : S219) (h : n219 x ≤ 1048576) : Ev (fun k => spec_CondNot.f k x.f0 x.f1 x.f2 x.f3) (7, 0, 0, [x]) := by
  unfold spec_CondNot.f
  refine Ev.bind (spec_l15Copy_ev x h) ?_
  simp only [eta219]
  exact Ev.now _

-- spec_CondAnd
theorem spec_CondAnd_ev (x y : S219) (h : n219 x ≤ 1048576) (h2 : n219 y ≤ 1048576) : Ev (fun k => spec_CondAnd.f k x.f0 x.f1 x.f2 x.f3 y.f0 y.f1 y.f2 y.f3) (8, 0, 0, [x, y]) := by
  unfold spec_CondAnd.f
  refine Ev.bind (spec_l15Copy_ev x h) (Ev.bind (spec_l15Copy_ev y h2) ?_)
  simp only [eta219]
  exact Ev.now _

-- spec_CondOr
theorem spec_CondOr_ev (x y : S219) (h : n219 x ≤ 1048576) (h2 : n219 y ≤ 1048576) : Ev (fun k => spec_CondOr.f k x.f0 x.f1 x.f2 x.f3 y.f0 y.f1 y.f2 y.f3) (9, 0, 0, [x, y]) := by
  unfold spec_CondOr.f
  refine Ev.bind (spec_l15Copy_ev x h) (Ev.bind (spec_l15Copy_ev y h2) ?_)
  simp only [eta219]
  exact Ev.now _

-- spec_l15Cond
theorem condN1 (a b c : Int) (x : S219) : n219 (⟨a, b, c, [x]⟩ : S219) = 1 + n219 x := by rw [n219_f]; simp
theorem condN2 (a b c : Int) (x y : S219) : n219 (⟨a, b, c, [x, y]⟩ : S219) = 2 + (n219 x + n219 y) := by rw [n219_f]; simp
/-- A drawn condition, by its depth. -/
theorem spec_l15Cond_evD (s : List Int) (hs : s.length ≤ 1048576) : ∀ (D : Nat) (i h : Int), D ≤ 2 → 0 ≤ i → i ≤ s.length → ∃ (x : S219) (j g : Int), Ev (fun k => spec_l15Cond.f k s i h (D : Int)) (x.f0, x.f1, x.f2, x.f3, j, g) ∧ n219 x ≤ (if D = 0 then 0 else if D = 1 then 2 else 6) ∧ 0 ≤ j ∧ j ≤ s.length := by
  intro D
  induction D with
  | zero =>
    intro i h _ i0 i1
    obtain ⟨x, j, g, e, hx, j0, j1⟩ := spec_l15Leaf_ok s i h i0 i1 hs
    refine ⟨x, j, g, Ev.succ ?_, by omega, j0, j1⟩
    simp only [spec_l15Cond.f, e, Option.bind_some]
    exact Ev.pos (by omega) (Ev.now _)
  | succ D ih =>
    intro i h hD i0 i1
    have w : wrap64 (((D + 1 : Nat) : Int) - 1) = (D : Int) := by rw [wr (by omega) (by omega)]; omega
    have hle : (if D = 0 then 0 else if D = 1 then 2 else 6 : Nat) ≤ 2 := by
      split
      · omega
      · split <;> omega
    have bnd : 2 + ((if D = 0 then 0 else if D = 1 then 2 else 6) + (if D = 0 then 0 else if D = 1 then 2 else 6)) ≤ (if D + 1 = 0 then 0 else if D + 1 = 1 then 2 else 6 : Nat) := by
      have hd : D = 0 ∨ D = 1 := by omega
      rcases hd with rfl | rfl <;> decide
    obtain ⟨o, i2, g2, e2, i20, i21⟩ := spec_l1Once_ok s i h i0 i1 hs 3 (by omega) (by omega)
    have hn : ¬ ((D + 1 : Nat) : Int) < 1 := by omega
    cases o with
    | true =>
      obtain ⟨x, j, g, e, hx, j0, j1⟩ := spec_l15Leaf_ok s i2 g2 i20 i21 hs
      refine ⟨x, j, g, Ev.succ ?_, by omega, j0, j1⟩
      simp only [spec_l15Cond.f, if_neg hn, e2, e, Option.bind_some, if_true]
      exact Ev.now _
    | false =>
      obtain ⟨m, i3, g3, e3, _, _, i30, i31⟩ := spec_l1Below_ok s i2 g2 i20 i21 hs 5 (by omega) (by omega)
      obtain ⟨x, i4, g4, e4, hx, i40, i41⟩ := ih i3 g3 (by omega) i30 i31
      obtain ⟨y, i5, g5, e5, hy, i50, i51⟩ := ih i4 g4 (by omega) i40 i41
      by_cases c : m = 0
      · refine ⟨⟨7, 0, 0, [x]⟩, i4, g4, Ev.succ ?_, by rw [condN1]; omega, i40, i41⟩
        simp only [spec_l15Cond.f, if_neg hn, e2, e3, Option.bind_some, Bool.false_eq_true, if_false, if_pos c, w]
        exact Ev.bind e4 (Ev.bind (spec_CondNot_ev x (by omega)) (Ev.now _))
      by_cases c1 : m = 1
      · refine ⟨⟨8, 0, 0, [x, y]⟩, i5, g5, Ev.succ ?_, by rw [condN2]; omega, i50, i51⟩
        simp only [spec_l15Cond.f, if_neg hn, e2, e3, Option.bind_some, Bool.false_eq_true, if_false, if_neg c, if_pos c1, w]
        exact Ev.bind e4 (Ev.bind e5 (Ev.bind (spec_CondAnd_ev x y (by omega) (by omega)) (Ev.now _)))
      by_cases c2 : m = 2
      · refine ⟨⟨8, 0, 0, [x, y]⟩, i5, g5, Ev.succ ?_, by rw [condN2]; omega, i50, i51⟩
        simp only [spec_l15Cond.f, if_neg hn, e2, e3, Option.bind_some, Bool.false_eq_true, if_false, if_neg c, if_neg c1, if_pos c2, w]
        exact Ev.bind e4 (Ev.bind e5 (Ev.bind (spec_CondAnd_ev x y (by omega) (by omega)) (Ev.now _)))
      refine ⟨⟨9, 0, 0, [x, y]⟩, i5, g5, Ev.succ ?_, by rw [condN2]; omega, i50, i51⟩
      simp only [spec_l15Cond.f, if_neg hn, e2, e3, Option.bind_some, Bool.false_eq_true, if_false, if_neg c, if_neg c1, if_neg c2, w]
      exact Ev.bind e4 (Ev.bind e5 (Ev.bind (spec_CondOr_ev x y (by omega) (by omega)) (Ev.now _)))
theorem spec_l15Cond_ev (s : List Int) (hs : s.length ≤ 1048576) (i h : Int) (i0 : 0 ≤ i) (i1 : i ≤ s.length) : ∃ (x : S219) (j g : Int), Ev (fun k => spec_l15Cond.f k s i h 2) (x.f0, x.f1, x.f2, x.f3, j, g) ∧ n219 x ≤ 6 ∧ 0 ≤ j ∧ j ≤ s.length := by
  obtain ⟨x, j, g, e, hx, hj⟩ := spec_l15Cond_evD s hs 2 i h (by omega) i0 i1
  exact ⟨x, j, g, e, hx, hj⟩

-- spec_l5Name
theorem spec_l5Name_ok (s : List Int) (i h : Int) (h0 : 0 ≤ i) (h1 : i ≤ s.length) (hs : s.length ≤ 1048576) (a : Int) : ∃ x j h', spec_l5Name.f s i h a = some (x, j, h') ∧ 0 ≤ j ∧ j ≤ s.length := by
  obtain ⟨x, j, g, e, _, _, j0, j1⟩ := spec_l1Below_ok s i h h0 h1 hs 3 (by omega) (by omega)
  unfold spec_l5Name.f
  rw [e, Option.bind_some]
  exact ⟨_, _, _, rfl, j0, j1⟩

-- spec_l19Rule
theorem spec_l19Rule_ev (s : List Int) (i h : Int) (h0 : 0 ≤ i) (h1 : i ≤ s.length) (hs : s.length ≤ 1048576) : ∃ (x : S221) (j g : Int), Ev (fun k => spec_l19Rule.f k s i h) (x.f0, x.f1, x.f2, x.f3.f0, x.f3.f1, x.f3.f2, x.f3.f3, j, g) ∧ n219 x.f3 ≤ 6 ∧ 0 ≤ j ∧ j ≤ s.length := by
  obtain ⟨a, i1, g1, e1, i10, i11⟩ := spec_l1Int_ok s i h h0 h1 hs [1, 1, 1, 0] (by simp) (by simp)
  obtain ⟨b, i2, g2, e2, i20, i21⟩ := spec_l1Int_ok s i1 g1 i10 i11 hs [(-1), 0, 1, (-1)] (by simp) (by simp)
  obtain ⟨x, i3, g3, e3, hx, i30, i31⟩ := spec_l15Cond_ev s hs i2 g2 i20 i21
  obtain ⟨o, i4, g4, e4, i40, i41⟩ := spec_l1Once_ok s i3 g3 i30 i31 hs 2 (by omega) (by omega)
  cases o with
  | true =>
    obtain ⟨v, i5, g5, e5, i50, i51⟩ := spec_l5Name_ok s i4 g4 i40 i41 hs 4
    refine ⟨⟨a, b, v, x⟩, i5, g5, ?_, hx, i50, i51⟩
    unfold spec_l19Rule.f
    simp only [e1, e2, Option.bind_some]
    refine Ev.bind e3 ?_
    simp only [e4, Option.bind_some, if_true, e5]
    exact Ev.now _
  | false =>
    refine ⟨⟨a, b, (-1), x⟩, i4, g4, ?_, hx, i40, i41⟩
    unfold spec_l19Rule.f
    simp only [e1, e2, Option.bind_some]
    refine Ev.bind e3 ?_
    simp only [e4, Option.bind_some, Bool.false_eq_true, if_false]
    exact Ev.now _

-- spec_l19Policy
theorem spec_l19Policy_ev (s : List Int) (i h : Int) (h0 : 0 ≤ i) (h1 : i ≤ s.length) (hs : s.length ≤ 1048576) : ∃ (v : Int) (l : List S221) (j g : Int), Ev (fun k => spec_l19Policy.f k s i h) (v, l, j, g) ∧ l.length ≤ 4 ∧ (∀ x ∈ l, n219 x.f3 ≤ 6) ∧ 0 ≤ j ∧ j ≤ s.length := by
  obtain ⟨v, i1, g1, e1, _, _, i10, i11⟩ := spec_l1Below_ok s i h h0 h1 hs 5 (by omega) (by omega)
  have key : ∀ (m : Nat) (l : List S221) (i h : Int), 0 ≤ i → i ≤ s.length → l.length + m ≤ 4 → (∀ x ∈ l, n219 x.f3 ≤ 6) → ∃ (l' : List S221) (j g : Int), Ev (fun k => spec_l19Policy.l0 k s i h 0 [] v l (m : Int)) (v, l', j, g) ∧ l'.length ≤ 4 ∧ (∀ x ∈ l', n219 x.f3 ≤ 6) ∧ 0 ≤ j ∧ j ≤ s.length := by
    intro m
    induction m with
    | zero =>
      intro l i h i0 i1 hl hx
      refine ⟨l, i, h, Ev.succ ?_, by omega, hx, i0, i1⟩
      simp only [spec_l19Policy.l0]
      exact Ev.neg (by omega) (Ev.now _)
    | succ m ih =>
      intro l i h i0 i1 hl hx
      obtain ⟨x, i2, g2, e, hx3, i20, i21⟩ := spec_l19Rule_ev s i h i0 i1 hs
      obtain ⟨l', j, g, e', hl', hx', hj⟩ := ih (l ++ [x]) i2 g2 i20 i21 (by rw [List.length_append, List.length_singleton]; omega) (fun y hy => by
        rcases List.mem_append.1 hy with hy | hy
        · exact hx y hy
        · rw [List.mem_singleton.1 hy]; exact hx3)
      refine ⟨l', j, g, Ev.succ ?_, hl', hx', hj⟩
      have hp : (((m + 1 : Nat) : Int) > 0) = True := eq_true (by omega)
      have hw : wrap64 (((m + 1 : Nat) : Int) - 1) = (m : Int) := by rw [wr (by omega) (by omega)]; omega
      have hl2 : (l.length < 1954687338268) = True := eq_true (by omega)
      simp only [spec_l19Policy.l0, hp, if_true, hw]
      refine Ev.bind e ?_
      simp only [hl2, if_true, eta219]
      exact e'
  obtain ⟨n, i2, g2, e2, n0, n1, i20, i21⟩ := spec_l1Below_ok s i1 g1 i10 i11 hs 4 (by omega) (by omega)
  obtain ⟨m, hm⟩ : ∃ m : Nat, wrap64 (1 + n) = (m : Int) := ⟨(1 + n).toNat, by rw [wr (by omega) (by omega)]; omega⟩
  have hm4 : m ≤ 4 := by rw [wr (by omega) (by omega)] at hm; omega
  obtain ⟨l, j, g, e, hl, hx, hj⟩ := key m [] i2 g2 i20 i21 (by simpa using hm4) (by simp)
  refine ⟨v, l, j, g, ?_, hl, hx, hj⟩
  unfold spec_l19Policy.f
  simp only [e1, e2, Option.bind_some, hm]
  exact e

-- spec_l1In
theorem spec_l1In_eq (a b c : Int) : spec_l1In.f a b c = some (inB a b c) := by
  unfold spec_l1In.f
  rw [ite_dand]; rfl

-- spec_IsTime
theorem spec_IsTime_eq (a : Int) : spec_IsTime.f a = some (timeB a) := by
  unfold spec_IsTime.f
  rw [spec_l1In_eq]; rfl

-- spec_RolesUnder
def roleB (n : Int) : Bool := decide (0 ≤ n) && decide (n ≤ 5)
def mkR (m : List Bool) (r : Int) : Bool := m.getD r.toNat false
def visX (a : Int) (s : List Bool × List Int) (x : S208) : List Bool × List Int := if x.f0 = a ∧ roleB x.f1 = true ∧ mkR s.1 x.f1 = false then (s.1.set x.f1.toNat true, s.2 ++ [x.f1]) else s
def popX (l : List S208) (a : Int) (s : List Bool × List Int) : List Bool × List Int := l.foldl (visX a) s
def bfsX (l : List S208) : Nat → List Int → List Bool → Option (List Bool)
  | 0, _, _ => none
  | _ + 1, [], m => some m
  | k + 1, a :: rest, m => bfsX l k (popX l a (m, rest)).2 (popX l a (m, rest)).1
/-- An edge between roles. -/
def edgeP (l : List S208) (a b : Int) : Prop := ∃ x ∈ l, x.f0 = a ∧ x.f1 = b ∧ roleB a = true ∧ roleB b = true
inductive Rch (l : List S208) (a : Int) : Int → Prop
  | refl : Rch l a a
  | step {b c : Int} : Rch l a b → edgeP l b c → Rch l a c
theorem Rch.trans {l : List S208} {a b c : Int} (h1 : Rch l a b) (h2 : Rch l b c) : Rch l a c := by
  induction h2 with
  | refl => exact h1
  | step _ e ih => exact .step ih e
/-- By one edge or more. -/
def RchP (l : List S208) (a c : Int) : Prop := ∃ b, edgeP l a b ∧ Rch l b c
theorem RchP.step {l : List S208} {a b c : Int} (h : RchP l a b) (e : edgeP l b c) : RchP l a c := by
  obtain ⟨d, h1, h2⟩ := h
  exact ⟨d, h1, .step h2 e⟩
theorem Rch_iff {l : List S208} {a c : Int} : Rch l a c ↔ a = c ∨ RchP l a c := by
  constructor
  · intro h
    induction h with
    | refl => exact .inl rfl
    | step h e ih =>
      rcases ih with rfl | ih
      · exact .inr ⟨_, e, .refl⟩
      · exact .inr (ih.step e)
  · rintro (rfl | ⟨b, e, h⟩)
    · exact .refl
    · exact Rch.trans (.step .refl e) h
def markX (m : List Bool) (x : S208) : List Bool := if roleB x.f0 && roleB x.f1 && mkR m x.f0 then m.set x.f1.toNat true else m
def roundX (l : List S208) (m : List Bool) : List Bool := l.foldl markX m
def itX (l : List S208) : Nat → List Bool → List Bool
  | 0, m => m
  | n + 1, m => itX l n (roundX l m)
theorem roleB_iff {n : Int} : roleB n = true ↔ 0 ≤ n ∧ n ≤ 5 := by simp [roleB]
theorem mk_set {m : List Bool} (hm : m.length = 6) {r : Int} (hr : roleB r = true) (q : Int) (hq : roleB q = true) : mkR (m.set r.toNat true) q = (decide (q = r) || mkR m q) := by
  rw [roleB_iff] at hr hq
  unfold mkR
  rw [List.getD_eq_getElem?_getD, List.getD_eq_getElem?_getD]
  by_cases h : q = r
  · subst h
    rw [List.getElem?_set_self (by omega)]
    simp
  · rw [List.getElem?_set_ne (by omega)]
    simp [h]
theorem markX_len {m : List Bool} (x : S208) : (markX m x).length = m.length := by
  unfold markX; split <;> simp
theorem roundX_len (l : List S208) : ∀ m : List Bool, (roundX l m).length = m.length := by
  unfold roundX
  induction l with
  | nil => intro m; rfl
  | cons x l ih => intro m; rw [List.foldl_cons, ih, markX_len]
theorem mk_markX {m : List Bool} (hm : m.length = 6) (x : S208) (q : Int) (hq : roleB q = true) : mkR (markX m x) q = (mkR m q || (decide (q = x.f1) && (roleB x.f0 && roleB x.f1 && mkR m x.f0))) := by
  unfold markX
  split
  · rename_i h
    rw [h]
    simp only [Bool.and_eq_true] at h
    rw [mk_set hm h.1.2 q hq, Bool.and_true, Bool.or_comm]
  · rename_i h
    rw [Bool.not_eq_true] at h
    rw [h]; simp
theorem mk_mono_markX {m : List Bool} (hm : m.length = 6) (x : S208) {q : Int} (hq : roleB q = true) (h : mkR m q = true) : mkR (markX m x) q = true := by
  rw [mk_markX hm x q hq, h]; rfl
theorem mk_mono_round (l : List S208) : ∀ {m : List Bool}, m.length = 6 → ∀ {q : Int}, roleB q = true → mkR m q = true → mkR (roundX l m) q = true := by
  unfold roundX
  induction l with
  | nil => intro m hm q hq h; exact h
  | cons x l ih => intro m hm q hq h; exact ih (m := markX m x) (by rw [markX_len]; exact hm) hq (mk_mono_markX hm x hq h)
/-- A round marks what an edge leads to. -/
theorem round_edge (l : List S208) : ∀ {m : List Bool}, m.length = 6 → ∀ {a b : Int}, edgeP l a b → mkR m a = true → mkR (roundX l m) b = true := by
  induction l with
  | nil => rintro m hm a b ⟨x, hx, _⟩; cases hx
  | cons x l ih =>
    rintro m hm a b ⟨y, hy, rfl, rfl, ha, hb⟩ h
    have hl : (markX m x).length = 6 := by rw [markX_len]; exact hm
    change mkR (roundX l (markX m x)) y.f1 = true
    rcases List.mem_cons.1 hy with rfl | hy
    · refine mk_mono_round l hl hb ?_
      rw [mk_markX hm y _ hb, ha, hb, h]; simp
    · exact ih hl ⟨y, hy, rfl, rfl, ha, hb⟩ (mk_mono_markX hm x ha h)
/-- A round marks nothing else. -/
theorem round_sound (l0 : List S208) (P : Int → Prop) (hP : ∀ a b, P a → edgeP l0 a b → P b) (l : List S208) (hl : ∀ x ∈ l, x ∈ l0) : ∀ {m : List Bool}, m.length = 6 → (∀ q, roleB q = true → mkR m q = true → P q) → ∀ q, roleB q = true → mkR (roundX l m) q = true → P q := by
  induction l with
  | nil => intro m hm h q hq hk; exact h q hq hk
  | cons x l ih =>
    intro m hm h
    refine ih (fun y hy => hl y (List.mem_cons_of_mem _ hy)) (m := markX m x) (by rw [markX_len]; exact hm) ?_
    intro q hq hk
    rw [mk_markX hm x q hq, Bool.or_eq_true] at hk
    rcases hk with hk | hk
    · exact h q hq hk
    · simp only [Bool.and_eq_true, decide_eq_true_eq] at hk
      obtain ⟨rfl, ⟨h1, h2⟩, h3⟩ := hk
      exact hP x.f0 x.f1 (h _ h1 h3) ⟨x, hl x List.mem_cons_self, rfl, rfl, h1, h2⟩
def cntB (m : List Bool) : Nat := m.countP id
theorem cnt_set : ∀ (m : List Bool) (i : Nat), cntB m ≤ cntB (m.set i true) ∧ (m[i]? = some false → cntB m < cntB (m.set i true)) := by
  intro m
  induction m with
  | nil => intro i; simp
  | cons b m ih =>
    intro i
    cases i with
    | zero => cases b <;> simp [cntB]
    | succ i =>
      have := ih i
      simp only [List.set_cons_succ, List.getElem?_cons_succ, cntB, List.countP_cons] at this ⊢
      exact ⟨by omega, fun h => by have := this.2 h; omega⟩
theorem cnt_markX (m : List Bool) (hm : m.length = 6) (x : S208) : cntB m ≤ cntB (markX m x) ∧ (markX m x = m ∨ cntB m < cntB (markX m x)) := by
  unfold markX
  split
  · rename_i h
    simp only [Bool.and_eq_true, roleB_iff] at h
    have hlt : x.f1.toNat < m.length := by omega
    refine ⟨(cnt_set m _).1, ?_⟩
    cases hb : m[x.f1.toNat] with
    | true =>
      left
      apply List.ext_getElem?
      intro j
      by_cases e : x.f1.toNat = j
      · subst e; rw [List.getElem?_set_self hlt, List.getElem?_eq_getElem hlt, hb]
      · rw [List.getElem?_set_ne e]
    | false => exact .inr ((cnt_set m _).2 (by rw [List.getElem?_eq_getElem hlt, hb]))
  · exact ⟨Nat.le_refl _, .inl rfl⟩
theorem cnt_round (l : List S208) : ∀ (m : List Bool), m.length = 6 → cntB m ≤ cntB (roundX l m) ∧ (roundX l m = m ∨ cntB m < cntB (roundX l m)) := by
  induction l with
  | nil => intro m hm; exact ⟨Nat.le_refl _, .inl rfl⟩
  | cons x l ih =>
    intro m hm
    obtain ⟨h1, h2⟩ := cnt_markX m hm x
    obtain ⟨h3, h4⟩ := ih (markX m x) (by rw [markX_len]; exact hm)
    change cntB m ≤ cntB (roundX l (markX m x)) ∧ (roundX l (markX m x) = m ∨ cntB m < cntB (roundX l (markX m x)))
    refine ⟨by omega, ?_⟩
    rcases h2 with h2 | h2
    · rw [h2] at h4 ⊢; exact h4
    · right; omega
theorem cnt_le (m : List Bool) : cntB m ≤ m.length := List.countP_le_length
theorem itX_len (l : List S208) : ∀ (n : Nat) (m : List Bool), (itX l n m).length = m.length := by
  intro n
  induction n with
  | zero => intro m; rfl
  | succ n ih => intro m; change (itX l n (roundX l m)).length = _; rw [ih, roundX_len]
theorem itX_fix (l : List S208) : ∀ (n : Nat) (m : List Bool), roundX l m = m → itX l n m = m := by
  intro n
  induction n with
  | zero => intro m _; rfl
  | succ n ih => intro m h; change itX l n (roundX l m) = m; rw [h]; exact ih m h
/-- After so many rounds as there are unmarked ones, and one, nothing changes. -/
theorem itX_closed (l : List S208) : ∀ (n : Nat) (m : List Bool), m.length = 6 → 6 ≤ cntB m + n → roundX l (itX l n m) = itX l n m := by
  intro n
  induction n with
  | zero =>
    intro m hm h
    rcases (cnt_round l m hm).2 with h2 | h2
    · exact h2
    · have := cnt_le (roundX l m); rw [roundX_len] at this; omega
  | succ n ih =>
    intro m hm h
    change roundX l (itX l n (roundX l m)) = itX l n (roundX l m)
    rcases (cnt_round l m hm).2 with h2 | h2
    · rw [h2, itX_fix l n m h2]; exact h2
    · exact ih _ (by rw [roundX_len]; exact hm) (by omega)
theorem itX_sound (l : List S208) (P : Int → Prop) (hP : ∀ a b, P a → edgeP l a b → P b) : ∀ (n : Nat) (m : List Bool), m.length = 6 → (∀ q, roleB q = true → mkR m q = true → P q) → ∀ q, roleB q = true → mkR (itX l n m) q = true → P q := by
  intro n
  induction n with
  | zero => intro m _ h; exact h
  | succ n ih => intro m hm h; exact ih _ (by rw [roundX_len]; exact hm) (round_sound l P hP l (fun _ h => h) hm h)
theorem itX_mono (l : List S208) : ∀ (n : Nat) (m : List Bool), m.length = 6 → ∀ q, roleB q = true → mkR m q = true → mkR (itX l n m) q = true := by
  intro n
  induction n with
  | zero => intro m _ q _ h; exact h
  | succ n ih => intro m hm q hq h; exact ih _ (by rw [roundX_len]; exact hm) q hq (mk_mono_round l hm hq h)
def closX (l : List S208) (role : Int) : List Bool := itX l 6 ((List.replicate 6 false).set role.toNat true)
theorem mk_start {role : Int} (hr : roleB role = true) (q : Int) (hq : roleB q = true) : mkR ((List.replicate 6 false).set role.toNat true) q = decide (q = role) := by
  rw [mk_set (by simp) hr q hq]
  have : mkR (List.replicate 6 false) q = false := by
    unfold mkR
    rw [List.getD_eq_getElem?_getD, List.getElem?_replicate]
    split <;> rfl
  rw [this, Bool.or_false]
theorem closX_iff (l : List S208) {role : Int} (hr : roleB role = true) {q : Int} (hq : roleB q = true) : mkR (closX l role) q = true ↔ Rch l role q := by
  have hl : ((List.replicate 6 false).set role.toNat true).length = 6 := by simp
  constructor
  · exact itX_sound l (Rch l role) (fun a b h e => .step h e) 6 _ hl (fun q hq h => by
      rw [mk_start hr q hq, decide_eq_true_eq] at h; subst h; exact .refl) q hq
  · intro h
    have hc : roundX l (closX l role) = closX l role := itX_closed l 6 _ hl (by omega)
    have h6 : (closX l role).length = 6 := by unfold closX; rw [itX_len]; exact hl
    have key : roleB q = true ∧ mkR (closX l role) q = true := by
      clear hq
      induction h with
      | refl => exact ⟨hr, itX_mono l 6 _ hl _ hr (by rw [mk_start hr _ hr]; simp)⟩
      | step h e ih =>
        have := round_edge l h6 e ih.2
        rw [hc] at this
        obtain ⟨x, _, _, _, _, hb⟩ := e
        exact ⟨hb, this⟩
    exact key.2

theorem visX_len (a : Int) (s : List Bool × List Int) (x : S208) : (visX a s x).1.length = s.1.length := by
  unfold visX; split <;> simp
theorem popX_len (l : List S208) (a : Int) : ∀ s : List Bool × List Int, (popX l a s).1.length = s.1.length := by
  unfold popX
  induction l with
  | nil => intro s; rfl
  | cons x l ih => intro s; rw [List.foldl_cons, ih, visX_len]
theorem cnt_set_lt {m : List Bool} {r : Int} (hm : m.length = 6) (hr : roleB r = true) (h : mkR m r = false) : cntB (m.set r.toNat true) = cntB m + 1 := by
  rw [roleB_iff] at hr
  have hlt : r.toNat < m.length := by omega
  have hb : m[r.toNat] = false := by
    unfold mkR at h; rw [List.getD_eq_getElem?_getD, List.getElem?_eq_getElem hlt] at h; exact h
  have key : ∀ (m : List Bool) (i : Nat), m[i]? = some false → cntB (m.set i true) = cntB m + 1 := by
    intro m
    induction m with
    | nil => intro i h; simp at h
    | cons b m ih =>
      intro i h
      cases i with
      | zero => simp at h; subst h; simp [cntB]
      | succ i =>
        have := ih i (by simpa using h)
        simp only [List.set_cons_succ, cntB, List.countP_cons] at this ⊢
        omega
  exact key m _ (by rw [List.getElem?_eq_getElem hlt, hb])
/-- What one visit does: what is marked stays, all is told. -/
structure VisOk (l0 : List S208) (a : Int) (s t : List Bool × List Int) : Prop where
  len : t.1.length = 6
  sum : t.2.length + (6 - cntB t.1) = s.2.length + (6 - cntB s.1)
  le : cntB s.1 ≤ cntB t.1
  mono : ∀ q, roleB q = true → mkR s.1 q = true → mkR t.1 q = true
  old : ∀ q, q ∈ s.2 → q ∈ t.2
  new : ∀ q, roleB q = true → mkR t.1 q = true → mkR s.1 q = true ∨ (q ∈ t.2 ∧ edgeP l0 a q)
  newq : ∀ q, q ∈ t.2 → q ∈ s.2 ∨ edgeP l0 a q
theorem VisOk.rfl' {l0 : List S208} {a : Int} {s : List Bool × List Int} (h : s.1.length = 6) : VisOk l0 a s s := ⟨h, rfl, Nat.le_refl _, fun _ _ h => h, fun _ h => h, fun _ _ h => .inl h, fun _ h => .inl h⟩
theorem vis_ok (l0 : List S208) (a : Int) (ha : roleB a = true) (s : List Bool × List Int) (h : s.1.length = 6) (x : S208) (hx : x ∈ l0) : VisOk l0 a s (visX a s x) := by
  unfold visX
  split
  · rename_i hc
    obtain ⟨h1, h2, h3⟩ := hc
    have e : edgeP l0 a x.f1 := ⟨x, hx, h1, rfl, ha, h2⟩
    have hcn := cnt_set_lt h h2 h3
    have hle := cnt_le (s.1.set x.f1.toNat true)
    rw [List.length_set] at hle
    refine ⟨by simp [h], ?_, by rw [hcn]; omega, fun q hq hm => ?_, fun q hq => List.mem_append_left _ hq, fun q hq hm => ?_, fun q hq => ?_⟩
    · simp only [List.length_append, List.length_singleton, hcn]; omega
    · show mkR (s.1.set _ true) q = true
      rw [mk_set h h2 q hq, hm, Bool.or_true]
    · rw [show (s.1.set x.f1.toNat true, s.2 ++ [x.f1]).1 = s.1.set x.f1.toNat true from rfl, mk_set h h2 q hq, Bool.or_eq_true, decide_eq_true_eq] at hm
      rcases hm with rfl | hm
      · exact .inr ⟨by simp, e⟩
      · exact .inl hm
    · rcases List.mem_append.1 hq with hq | hq
      · exact .inl hq
      · rw [List.mem_singleton.1 hq]; exact .inr e
  · exact VisOk.rfl' h
theorem VisOk.trans {l0 : List S208} {a : Int} {s t u : List Bool × List Int} (h1 : VisOk l0 a s t) (h2 : VisOk l0 a t u) : VisOk l0 a s u :=
  ⟨h2.len, h2.sum.trans h1.sum, Nat.le_trans h1.le h2.le, fun q hq h => h2.mono q hq (h1.mono q hq h), fun q h => h2.old q (h1.old q h),
    fun q hq h => by
      rcases h2.new q hq h with h | h
      · rcases h1.new q hq h with h | ⟨h, e⟩
        · exact .inl h
        · exact .inr ⟨h2.old q h, e⟩
      · exact .inr h,
    fun q h => by
      rcases h2.newq q h with h | h
      · exact h1.newq q h
      · exact .inr h⟩
theorem pop_ok (l0 : List S208) (a : Int) (ha : roleB a = true) (l : List S208) (hl : ∀ x ∈ l, x ∈ l0) : ∀ (s : List Bool × List Int), s.1.length = 6 → VisOk l0 a s (popX l a s) ∧ ∀ x ∈ l, x.f0 = a → roleB x.f1 = true → mkR (popX l a s).1 x.f1 = true := by
  unfold popX
  induction l with
  | nil => intro s h; exact ⟨VisOk.rfl' h, by intro x hx; cases hx⟩
  | cons x l ih =>
    intro s h
    have h1 := vis_ok l0 a ha s h x (hl x List.mem_cons_self)
    obtain ⟨h2, h3⟩ := ih (fun y hy => hl y (List.mem_cons_of_mem _ hy)) (visX a s x) h1.len
    refine ⟨h1.trans h2, fun y hy e1 e2 => ?_⟩
    rw [List.foldl_cons]
    rcases List.mem_cons.1 hy with rfl | hy
    · refine h2.mono _ e2 ?_
      unfold visX
      split
      · rw [show (s.1.set y.f1.toNat true, s.2 ++ [y.f1]).1 = s.1.set y.f1.toNat true from rfl, mk_set h e2 _ e2]; simp
      · rename_i hc
        cases hmk : mkR s.1 y.f1 with
        | true => rfl
        | false => exact absurd ⟨e1, e2, hmk⟩ hc
    · exact h3 y hy e1 e2
theorem bfsX_nil (l : List S208) (role : Int) (k : Nat) (m : List Bool) (hk : 0 < k) (hm : m.length = 6) (hs : ∀ q, roleB q = true → mkR m q = true → RchP l role q) (hc : ∀ a, (a = role ∨ roleB a = true ∧ mkR m a = true) → a ∈ ([] : List Int) ∨ ∀ b, edgeP l a b → mkR m b = true) :
    ∃ r, bfsX l k [] m = some r ∧ r.length = 6 ∧ ∀ q, roleB q = true → (mkR r q = true ↔ RchP l role q) := by
  obtain ⟨k, rfl⟩ : ∃ j, k = j + 1 := ⟨k - 1, by omega⟩
  refine ⟨m, rfl, hm, fun q hq => ⟨hs q hq, ?_⟩⟩
  rintro ⟨b, e, h⟩
  have h0 : mkR m b = true := (hc role (.inl rfl)).elim (fun h => absurd h (by simp)) (fun h => h b e)
  have key : mkR m q = true := by
    clear hq
    induction h with
    | refl => exact h0
    | step h e2 ih =>
      obtain ⟨x, _, _, _, hb, _⟩ := id e2
      exact (hc _ (.inr ⟨hb, ih⟩)).elim (fun h => absurd h (by simp)) (fun h => h _ e2)
  exact key
/-- What the search says of a role: all that it comes to by one pair or more. -/
theorem bfsX_spec (l : List S208) (role : Int) (hr : roleB role = true) : ∀ (d k : Nat) (todo : List Int) (m : List Bool), m.length = 6 → todo.length + (6 - cntB m) ≤ d → d < k →
    (∀ q ∈ todo, roleB q = true ∧ Rch l role q) → (∀ q, roleB q = true → mkR m q = true → RchP l role q) → (∀ a, (a = role ∨ roleB a = true ∧ mkR m a = true) → a ∈ todo ∨ ∀ b, edgeP l a b → mkR m b = true) →
    ∃ r, bfsX l k todo m = some r ∧ r.length = 6 ∧ ∀ q, roleB q = true → (mkR r q = true ↔ RchP l role q) := by
  intro d
  induction d with
  | zero =>
    intro k todo m hm hd hk ht hs hc
    cases todo with
    | cons a rest => simp at hd
    | nil => exact bfsX_nil l role k m (by omega) hm hs hc
  | succ d ih =>
    intro k todo m hm hd hk ht hs hc
    cases todo with
    | nil => exact bfsX_nil l role k m (by omega) hm hs hc
    | cons a rest =>
      obtain ⟨k, rfl⟩ : ∃ j, k = j + 1 := ⟨k - 1, by omega⟩
      obtain ⟨ha, hra⟩ := ht a List.mem_cons_self
      obtain ⟨ok, hall⟩ := pop_ok l a ha l (fun _ h => h) (m, rest) hm
      refine ih k _ _ ok.len (by have := ok.sum; simp only [List.length_cons] at hd this ⊢; omega) (by omega) (fun q hq => ?_) (fun q hq hmq => ?_) (fun b hb => ?_)
      · rcases ok.newq q hq with h | h
        · exact ht q (List.mem_cons_of_mem _ h)
        · obtain ⟨x, _, _, _, _, hb⟩ := id h
          exact ⟨hb, .step hra h⟩
      · rcases ok.new q hq hmq with h | ⟨_, h⟩
        · exact hs q hq h
        · rcases Rch_iff.1 hra with rfl | h2
          · exact ⟨q, h, .refl⟩
          · exact h2.step h
      · have hmono : ∀ c, mkR m c = true → roleB c = true → mkR (popX l a (m, rest)).1 c = true := fun c h hcr => ok.mono c hcr h
        have edgeR : ∀ {c e : Int}, edgeP l c e → roleB e = true := fun ⟨_, _, _, _, _, h⟩ => h
        by_cases hba : b = a
        · subst hba
          right
          rintro c ⟨x, hx, e1, e2, _, hcr⟩
          subst e2
          exact hall x hx e1 hcr
        · have hold : b = role ∨ roleB b = true ∧ mkR m b = true ∨ b ∈ (popX l a (m, rest)).2 := by
            rcases hb with rfl | ⟨h1, h2⟩
            · exact .inl rfl
            · rcases ok.new b h1 h2 with h | ⟨h, _⟩
              · exact .inr (.inl ⟨h1, h⟩)
              · exact .inr (.inr h)
          rcases hold with h | h | h
          · rcases hc b (.inl h) with h3 | h3
            · rcases List.mem_cons.1 h3 with h3 | h3
              · exact absurd h3 hba
              · exact .inl (ok.old b h3)
            · exact .inr fun c e => hmono c (h3 c e) (edgeR e)
          · rcases hc b (.inr h) with h3 | h3
            · rcases List.mem_cons.1 h3 with h3 | h3
              · exact absurd h3 hba
              · exact .inl (ok.old b h3)
            · exact .inr fun c e => hmono c (h3 c e) (edgeR e)
          · exact .inl h
theorem below_spec (l : List S208) (role : Int) (hr : roleB role = true) (k : Nat) (hk : 8 ≤ k) : ∃ r, bfsX l k [role] (List.replicate 6 false) = some r ∧ r.length = 6 ∧ ∀ q, roleB q = true → (mkR r q = true ↔ RchP l role q) := by
  have h0 : ∀ q, mkR (List.replicate 6 false) q = false := by
    intro q
    unfold mkR
    rw [List.getD_eq_getElem?_getD, List.getElem?_replicate]
    split <;> rfl
  refine bfsX_spec l role hr 7 k [role] _ (by simp) (by simp; omega) (by omega) (fun q hq => ?_) (fun q _ h => ?_) (fun a ha => ?_)
  · rw [List.mem_singleton.1 hq]; exact ⟨hr, .refl⟩
  · rw [h0] at h; cases h
  · rcases ha with rfl | ⟨_, h⟩
    · exact .inl (by simp)
    · rw [h0] at h; cases h
def hasI (l : List Int) (a : Int) : Bool := l.any (fun x => decide (a = x))
def underB (a b : List Int) : Bool := !(a.any fun x => !hasI b x)
/-- The roles under a role. -/
def outV (m : List Bool) : List Int := [0, 1, 2, 3, 4, 5].filter (fun r => mkR m r)
def rolesV (l : List S208) (role : Int) : List Int := if inB role 0 5 = true then outV (closX l role) else []
def pairP (l : List S208) (x : S208) : Bool := roleB x.f0 && (roleB x.f1 && !hasI (rolesV l x.f1) x.f0)
def pairsB (l : List S208) : Bool := l.all (pairP l) && decide ((l.length : Int) ≤ 10)
theorem roleB_in (n : Int) : inB n 0 5 = roleB n := rfl
theorem has_out (m : List Bool) (r : Int) (hr : roleB r = true) : hasI (outV m) r = mkR m r := by
  have h := roleB_iff.1 hr
  unfold hasI outV
  rw [Bool.eq_iff_iff, List.any_eq_true]
  constructor
  · rintro ⟨x, hx, he⟩
    rw [of_decide_eq_true he]
    exact (List.mem_filter.1 hx).2
  · intro hm
    exact ⟨r, List.mem_filter.2 ⟨by rcases (by omega : r = 0 ∨ r = 1 ∨ r = 2 ∨ r = 3 ∨ r = 4 ∨ r = 5) with rfl | rfl | rfl | rfl | rfl | rfl <;> simp, hm⟩, decide_eq_true rfl⟩
theorem has_roles (l : List S208) (a b : Int) (ha : roleB a = true) (hb : roleB b = true) : hasI (rolesV l b) a = mkR (closX l b) a := by
  unfold rolesV
  rw [roleB_in, if_pos hb, has_out _ _ ha]
/-- No role leads to itself: told by any of its pairs alike. -/
theorem pairs_alike (l : List S208) (p : S208 → Bool) (hp : ∀ x, p x = true ↔ roleB x.f0 = true ∧ roleB x.f1 = true ∧ ¬ RchP l x.f0 x.f0) : l.all p = l.all (pairP l) := by
  have hq : ∀ x, pairP l x = true ↔ roleB x.f0 = true ∧ roleB x.f1 = true ∧ ¬ Rch l x.f1 x.f0 := by
    intro x
    unfold pairP
    simp only [Bool.and_eq_true, Bool.not_eq_true']
    constructor
    · rintro ⟨h1, h2, h3⟩
      refine ⟨h1, h2, fun h => ?_⟩
      rw [has_roles l _ _ h1 h2, (closX_iff l h2 h1).2 h] at h3
      cases h3
    · rintro ⟨h1, h2, h3⟩
      refine ⟨h1, h2, ?_⟩
      rw [has_roles l _ _ h1 h2]
      cases hm : mkR (closX l x.f1) x.f0 with
      | false => rfl
      | true => exact absurd ((closX_iff l h2 h1).1 hm) h3
  rw [Bool.eq_iff_iff, List.all_eq_true, List.all_eq_true]
  constructor
  · intro h x hx
    obtain ⟨h1, h2, h3⟩ := (hp x).1 (h x hx)
    exact (hq x).2 ⟨h1, h2, fun hr => h3 ⟨x.f1, ⟨x, hx, rfl, rfl, h1, h2⟩, hr⟩⟩
  · intro h x hx
    obtain ⟨h1, h2, _⟩ := (hq x).1 (h x hx)
    refine (hp x).2 ⟨h1, h2, ?_⟩
    rintro ⟨b, ⟨y, hy, e1, rfl, _, _⟩, hr⟩
    have := (hq y).1 (h y hy)
    rw [e1] at this
    exact this.2.2 hr
theorem roles_l2 (m : List Bool) (hm : m.length = 6) : ∀ (d : Nat) (r : Nat) (out : List Int), r + d = 6 → out.length ≤ r → Ev (fun k => spec_RolesUnder.l2 k out m (r : Int)) (out ++ (([0, 1, 2, 3, 4, 5] : List Int).drop r).filter (fun r => mkR m r)) := by
  intro d
  induction d with
  | zero =>
    intro r out hr _
    obtain rfl : r = 6 := by omega
    refine Ev.succ ?_
    simp only [spec_RolesUnder.l2]
    refine Ev.neg (by omega) ?_
    simp only [List.drop_succ_cons, List.drop_nil, List.filter_nil, List.append_nil]
    exact Ev.now _
  | succ d ih =>
    intro r out hr ho
    have hd : (([0, 1, 2, 3, 4, 5] : List Int).drop r) = (r : Int) :: (([0, 1, 2, 3, 4, 5] : List Int).drop (r + 1)) := by
      rcases (by omega : r = 0 ∨ r = 1 ∨ r = 2 ∨ r = 3 ∨ r = 4 ∨ r = 5) with rfl | rfl | rfl | rfl | rfl | rfl <;> rfl
    have e : wrap64 ((r : Int) + 1) = ((r + 1 : Nat) : Int) := wr1 (n := 6) (by omega) (by omega)
    have e2 : rdOf false m (r : Int) = mkR m (r : Int) := rfl
    rw [hd, List.filter_cons]
    refine Ev.succ ?_
    simp only [spec_RolesUnder.l2, e, e2]
    refine Ev.pos (by omega) (Ev.pos (by omega) (Ev.pos (by omega) ?_))
    cases mkR m (r : Int) with
    | false => simp only [Bool.false_eq_true, if_false]; exact ih (r + 1) out (by omega) (by omega)
    | true =>
      simp only [if_true]
      refine Ev.pos (by omega) ?_
      have := ih (r + 1) (out ++ [(r : Int)]) (by omega) (by simp; omega)
      rw [List.append_assoc] at this
      exact this
theorem roles_l0 (l : List S208) (h : l.length ≤ 1048576) : ∀ (d n : Nat) (m : List Bool), n + d = 6 → m.length = 6 → Ev (fun k => spec_RolesUnder.l0 k l [] m (n : Int)) (outV (itX l d m)) := by
  intro d
  induction d with
  | zero =>
    intro n m hn hm
    obtain rfl : n = 6 := by omega
    refine Ev.succ ?_
    simp only [spec_RolesUnder.l0]
    refine Ev.neg (by omega) ?_
    exact roles_l2 m hm 6 0 [] rfl (by simp)
  | succ d ih =>
    intro n m hn hm
    have e : wrap64 ((n : Int) + 1) = ((n + 1 : Nat) : Int) := wr1 (n := 6) (by omega) (by omega)
    refine Ev.succ ?_
    simp only [spec_RolesUnder.l0]
    refine Ev.pos (by omega) ?_
    change Ev _ ((fun s => outV (itX l d s)) (l.foldl markX m))
    refine ev_fold l markX (fun s => outV (itX l d s)) (fun _ s => s.length = 6) (fun k s i => spec_RolesUnder.l1 k l [] s (n : Int) i) ?_ ?_ ?_ m hm
    · intro s hs
      refine Ev.succ ?_
      simp only [spec_RolesUnder.l1, Int.lt_irrefl, if_false, e]
      exact ih (n + 1) s (by omega) hs
    · intro i x s _ hs; rw [markX_len]; exact hs
    · intro i x s r hx hs hr
      have hi := lt_of_get hx
      have h1 : ((i : Int) < (l.length : Int)) = True := eq_true (by omega)
      have h2 : (0 ≤ (i : Int)) = True := eq_true (by omega)
      have e3 := wr1 hi (show l.length ≤ 9223372036854775807 by omega)
      refine Ev.succ ?_
      simp only [spec_RolesUnder.l1, h1, h2, if_true, rd_at_T208 hx, spec_l1In_eq, Option.bind_some, roleB_in, e3]
      unfold markX at hr
      cases h5 : roleB x.f0 with
      | false =>
        simp only [Bool.false_eq_true, if_false]
        simp only [h5, Bool.false_and, Bool.false_eq_true, if_false] at hr
        exact hr
      | true =>
        cases h6 : roleB x.f1 with
        | false =>
          simp only [Bool.false_eq_true, if_false, if_true]
          simp only [h5, h6, Bool.false_and, Bool.and_false, Bool.false_eq_true, if_false] at hr
          exact hr
        | true =>
          have h7 := roleB_iff.1 h5
          simp only [if_true]
          simp only [h5, h6, Bool.true_and] at hr
          refine Ev.pos (by omega) (Ev.pos (by omega) ?_)
          have h8 := roleB_iff.1 h6
          have hk : rdOf false s x.f0 = mkR s x.f0 := rfl
          rw [hk]
          cases h9 : mkR s x.f0 with
          | false => simp only [h9, Bool.false_eq_true, if_false] at hr ⊢; exact hr
          | true =>
            simp only [h9, if_true] at hr ⊢
            exact Ev.pos (by omega) (Ev.pos (by omega) hr)
theorem spec_RolesUnder_ev (l : List S208) (role : Int) (h : l.length ≤ 1048576) : Ev (fun k => spec_RolesUnder.f k l role) (rolesV l role) := by
  unfold spec_RolesUnder.f rolesV
  simp only [Option.bind_some, spec_l1In_eq]
  cases hr : inB role 0 5 with
  | false => simp only [Bool.false_eq_true, if_false]; exact Ev.now _
  | true =>
    have h2 := inB_iff.1 hr
    simp only [if_true]
    refine Ev.pos (by omega) (Ev.pos (by simp only [List.length_replicate]; omega) ?_)
    exact roles_l0 l h 6 0 _ rfl (by simp)

-- spec_l13Has
theorem spec_l13Has_ev (l : List Int) (a : Int) (h : l.length ≤ 1048576) : Ev (fun k => spec_l13Has.f k l a) (hasI l a) := by
  unfold spec_l13Has.f hasI
  rw [← idxV_any]
  refine ev_idx l (fun x => decide (a = x)) (fun r => decide (r ≥ 0)) (fun k i => spec_l13Has.l0 k l a i) ?_ ?_
  · refine Ev.succ ?_
    simp only [spec_l13Has.l0, Int.lt_irrefl, if_false]
    exact Ev.now _
  · intro i x hx
    have hi := lt_of_get hx
    have h1 : ((i : Int) < (l.length : Int)) = True := eq_true (by omega)
    have h2 : (0 ≤ (i : Int)) = True := eq_true (by omega)
    constructor
    · intro c r hr
      have c' : ¬ x = a := fun e => of_decide_eq_false c e.symm
      refine Ev.succ ?_
      simp only [spec_l13Has.l0, h1, h2, if_true, rd_nat l i x hx, wr1 hi (by omega), if_neg c']
      exact hr
    · intro c
      have c' : x = a := (of_decide_eq_true c).symm
      refine Ev.succ ?_
      simp only [spec_l13Has.l0, h1, h2, if_true, rd_nat l i x hx, if_pos c', show decide ((i : Int) ≥ 0) = true from decide_eq_true (by omega)]
      exact Ev.now _

-- spec_ArePairs
theorem spec_ArePairs_ev (l : List S208) (h : l.length ≤ 1048576) : Ev (fun k => spec_ArePairs.f k l) (pairsB l) := by
  unfold spec_ArePairs.f pairsB
  have hout : ∀ m, (outV m).length ≤ 1048576 := fun m => by
    unfold outV
    have := List.length_filter_le (fun r => mkR m r) ([0, 1, 2, 3, 4, 5] : List Int)
    simp only [List.length_cons, List.length_nil] at this
    omega
  have hro : ∀ r, (rolesV l r).length ≤ 1048576 := fun r => by
    unfold rolesV
    split
    · exact hout _
    · simp
  have key : ∀ d i : Nat, l.length - i = d → i ≤ l.length → Ev (fun k => spec_ArePairs.l0 k l (i : Int)) ((l.drop i).all (pairP l) && decide ((l.length : Int) ≤ 10)) := by
    intro d
    induction d with
    | zero =>
      intro i hd hi
      obtain rfl : i = l.length := by omega
      refine Ev.succ ?_
      simp only [spec_ArePairs.l0, Int.lt_irrefl, if_false, List.drop_length, List.all_nil, Bool.true_and]
      exact Ev.now _
    | succ d ih =>
      intro i hd hi
      have hi' : i < l.length := by omega
      have hx : l[i]? = some l[i] := List.getElem?_eq_getElem hi'
      have hr := ih (i + 1) (by omega) (by omega)
      rw [List.drop_eq_getElem_cons hi', List.all_cons, Bool.and_assoc]
      generalize l[i] = x at hx ⊢
      have h1 : ((i : Int) < (l.length : Int)) = True := eq_true (by omega)
      have h2 : (0 ≤ (i : Int)) = True := eq_true (by omega)
      have hj : ∀ (b : Bool) r, Ev (fun k => spec_ArePairs.l0 k l ((i + 1 : Nat) : Int)) r → Ev (fun k => if b = true then some false else spec_ArePairs.l0 k l ((i + 1 : Nat) : Int)) (!b && r) := by
        intro b r hr
        cases b with
        | false => exact Ev.neg (by simp) hr
        | true => exact Ev.pos rfl (Ev.now _)
      refine Ev.succ ?_
      simp only [spec_ArePairs.l0, h1, h2, if_true, rd_at_T208 hx, spec_l1In_eq, Option.bind_some, roleB_in, wr1 hi' (show l.length ≤ 9223372036854775807 by omega)]
      unfold pairP
      cases roleB x.f0 with
      | false => simp only [Bool.false_eq_true, if_false]; exact Ev.now _
      | true =>
        cases roleB x.f1 with
        | false => simp only [Bool.false_eq_true, if_false, if_true]; exact Ev.now _
        | true =>
          simp only [if_true, Bool.true_and]
          refine Ev.bind (spec_RolesUnder_ev l x.f1 h) ?_
          refine Ev.bind (spec_l13Has_ev _ x.f0 (hro _)) ?_
          exact hj _ _ hr
  exact Ev.eqv (by rw [List.drop_zero]) (key l.length 0 (by omega) (by omega))

-- spec_l15Left
theorem spec_l15Left_evN (N : Nat) : ∀ (x : S219) (a : Int), n219 x ≤ N → N ≤ 1048576 → 0 ≤ a → a ≤ 1048576 → ∃ r, Ev (fun k => spec_l15Left.f k x.f0 x.f1 x.f2 x.f3 a) r ∧ -1 ≤ r ∧ (1 + (n219 x : Int) ≤ a → r = a - 1 - (n219 x : Int)) ∧ (a < 1 + (n219 x : Int) → r < 0) := by
  induction N using Nat.strongRecOn with
  | _ N ih =>
  intro x a hx hN ha0 ha1
  rw [n219_f] at hx ⊢
  have key : ∀ (d i : Nat) (s : Int), x.f3.length - i = d → i ≤ x.f3.length → -1 ≤ s → s ≤ 1048576 → ∃ r, Ev (fun k => spec_l15Left.l0 k s x.f0 x.f1 x.f2 x.f3 (i : Int)) r ∧ -1 ≤ r ∧ ((((x.f3.drop i).length + ((x.f3.drop i).map n219).sum : Nat) : Int) ≤ s → r = s - (((x.f3.drop i).length + ((x.f3.drop i).map n219).sum : Nat) : Int)) ∧ (s < (((x.f3.drop i).length + ((x.f3.drop i).map n219).sum : Nat) : Int) → r < 0) := by
    intro d
    induction d with
    | zero =>
      intro i s hd hi h0 hs
      obtain rfl : i = x.f3.length := by omega
      rw [List.drop_length, List.length_nil, List.map_nil, List.sum_nil]
      refine ⟨s, Ev.succ ?_, h0, fun _ => by omega, fun h => by omega⟩
      simp only [spec_l15Left.l0, Int.lt_irrefl, if_false]
      exact Ev.now _
    | succ d ih2 =>
      intro i s hd hi h0 hs
      have hi' : i < x.f3.length := by omega
      have hy : x.f3[i]? = some x.f3[i] := List.getElem?_eq_getElem hi'
      have hn := le_sum n219 hy
      rw [List.drop_eq_getElem_cons hi']
      simp only [List.length_cons, List.map_cons, List.sum_cons]
      generalize x.f3[i] = y at hy hn ⊢
      have h1 : ((i : Int) < (x.f3.length : Int)) = True := eq_true (by omega)
      have h2 : (0 ≤ (i : Int)) = True := eq_true (by omega)
      by_cases c : s ≥ 0
      · obtain ⟨r1, e1, r10, r11, r12⟩ := ih (n219 y) (by omega) y s (Nat.le_refl _) (by omega) (by omega) hs
        obtain ⟨r, e, r0, r2, r3⟩ := ih2 (i + 1) r1 (by omega) (by omega) r10 (by
          by_cases q : 1 + (n219 y : Int) ≤ s
          · have := r11 q; omega
          · have := r12 (by omega); omega)
        refine ⟨r, Ev.succ ?_, r0, ?_, ?_⟩
        · simp only [spec_l15Left.l0, h1, h2, if_true, if_pos c, rd_at_T219 hy, wr1 hi' (by omega)]
          exact Ev.bind e1 e
        · intro h
          have q := r11 (by omega)
          have := r2 (by omega)
          omega
        · intro h
          by_cases q : 1 + (n219 y : Int) ≤ s
          · have := r11 q; exact r3 (by omega)
          · have := r12 (by omega); exact r3 (by omega)
      · refine ⟨s, Ev.succ ?_, h0, fun h => by omega, fun _ => by omega⟩
        simp only [spec_l15Left.l0, h1, if_true, if_neg c]
        exact Ev.now _
  obtain ⟨r, e, r0, r1, r2⟩ := key x.f3.length 0 (a - 1) (by omega) (by omega) (by omega) (by omega)
  rw [List.drop_zero] at r1 r2
  refine ⟨r, Ev.succ ?_, r0, fun h => ?_, fun h => ?_⟩
  · simp only [spec_l15Left.f, wr (show (-9223372036854775808 : Int) ≤ a - 1 by omega) (by omega)]
    exact e
  · have := r1 (by omega); omega
  · exact r2 (by omega)

-- spec_ArityOf
-- told elsewhere

-- spec_IsCond
theorem idx_ev {α : Type} (L : Nat → Int → Option Int) (p : α → Bool) : ∀ (l : List α) (i n : Nat), i + l.length = n → Ev (fun k => L k (n : Int)) (-1) →
    (∀ (j : Nat) (x : α) (r : Int), i ≤ j → l[j - i]? = some x → (p x = true → Ev (fun k => L k (j : Int)) (j : Int)) ∧ (p x = false → Ev (fun k => L k ((j + 1 : Nat) : Int)) r → Ev (fun k => L k (j : Int)) r)) → Ev (fun k => L k (i : Int)) (idxV p l (i : Int))
  | [], i, n, hn, h0, _ => by
    simp only [List.length_nil, Nat.add_zero] at hn
    subst hn
    exact h0
  | x :: l, i, n, hn, h0, hs => by
    have h := hs i x (idxV p l ((i : Int) + 1)) (Nat.le_refl _) (by simp)
    unfold idxV
    cases c : p x with
    | true => simp only [if_true]; exact h.1 c
    | false =>
      simp only [Bool.false_eq_true, if_false]
      refine h.2 c ?_
      have := idx_ev L p l (i + 1) n (by simp only [List.length_cons] at hn; omega) h0 (fun j y r hj hy => hs j y r (by omega) (by rw [show j - i = (j - (i + 1)) + 1 by omega]; simpa using hy))
      exact_mod_cast this
theorem impl_InRange_eq (a b c : Int) : impl_InRange.f a b c = some (inB a b c) := by
  unfold impl_InRange.f
  rw [ite_dand]; rfl
theorem node_eq (a b c : Int) (l : List S219) : impl_isNode.f a b c l = spec_l15Node.f a b c l := by
  unfold impl_isNode.f spec_l15Node.f impl_ArityOf.f spec_ArityOf.f
  simp only [impl_InRange_eq, spec_l1In_eq, spec_IsTime_eq, Option.bind_some]
  generalize (l.length : Int) = n
  by_cases h1 : a = 1
  · subst h1; simp [inB, timeB]; (repeat' split) <;> first | rfl | omega | (simp_all; done) | (simp_all; omega) | (rw [Option.some.injEq, Bool.eq_iff_iff]; simp_all; done) | (rw [Option.some.injEq, Bool.eq_iff_iff]; simp_all; omega)
  by_cases h2 : a = 2
  · subst h2; simp [inB, timeB]; (repeat' split) <;> first | rfl | omega | (simp_all; done) | (simp_all; omega) | (rw [Option.some.injEq, Bool.eq_iff_iff]; simp_all; done) | (rw [Option.some.injEq, Bool.eq_iff_iff]; simp_all; omega)
  by_cases h3 : a = 3
  · subst h3; simp [inB, timeB]; (repeat' split) <;> first | rfl | omega | (simp_all; done) | (simp_all; omega) | (rw [Option.some.injEq, Bool.eq_iff_iff]; simp_all; done) | (rw [Option.some.injEq, Bool.eq_iff_iff]; simp_all; omega)
  by_cases h4 : a = 4
  · subst h4; simp [inB, timeB]; (repeat' split) <;> first | rfl | omega | (simp_all; done) | (simp_all; omega) | (rw [Option.some.injEq, Bool.eq_iff_iff]; simp_all; done) | (rw [Option.some.injEq, Bool.eq_iff_iff]; simp_all; omega)
  by_cases h5 : a = 5
  · subst h5; simp [inB, timeB]; (repeat' split) <;> first | rfl | omega | (simp_all; done) | (simp_all; omega) | (rw [Option.some.injEq, Bool.eq_iff_iff]; simp_all; done) | (rw [Option.some.injEq, Bool.eq_iff_iff]; simp_all; omega)
  by_cases h6 : a = 6
  · subst h6; simp [inB, timeB]; (repeat' split) <;> first | rfl | omega | (simp_all; done) | (simp_all; omega) | (rw [Option.some.injEq, Bool.eq_iff_iff]; simp_all; done) | (rw [Option.some.injEq, Bool.eq_iff_iff]; simp_all; omega)
  by_cases h7 : a = 7
  · subst h7; simp [inB, timeB]; (repeat' split) <;> first | rfl | omega | (simp_all; done) | (simp_all; omega) | (rw [Option.some.injEq, Bool.eq_iff_iff]; simp_all; done) | (rw [Option.some.injEq, Bool.eq_iff_iff]; simp_all; omega)
  by_cases h8 : a = 8
  · subst h8; simp [inB, timeB]; (repeat' split) <;> first | rfl | omega | (simp_all; done) | (simp_all; omega) | (rw [Option.some.injEq, Bool.eq_iff_iff]; simp_all; done) | (rw [Option.some.injEq, Bool.eq_iff_iff]; simp_all; omega)
  by_cases h9 : a = 9
  · subst h9; simp [inB, timeB]; (repeat' split) <;> first | rfl | omega | (simp_all; done) | (simp_all; omega) | (rw [Option.some.injEq, Bool.eq_iff_iff]; simp_all; done) | (rw [Option.some.injEq, Bool.eq_iff_iff]; simp_all; omega)
  simp [h1, h2, h3, h4, h5, h6, h7, h8, h9, inB, timeB]; (repeat' split) <;> (try simp only [Option.bind_some]) <;> (repeat' split) <;> first | rfl | omega | (simp_all; done) | (simp_all; omega) | (rw [Option.some.injEq, Bool.eq_iff_iff]; simp_all; done) | (rw [Option.some.injEq, Bool.eq_iff_iff]; simp_all; omega)
theorem node_some (a b c : Int) (l : List S219) : ∃ t, spec_l15Node.f a b c l = some t := by
  have ha : ∃ m, spec_ArityOf.f a = some m := by
    unfold spec_ArityOf.f
    (repeat' split) <;> exact ⟨_, rfl⟩
  obtain ⟨m, hm⟩ := ha
  unfold spec_l15Node.f
  simp only [spec_l1In_eq, spec_IsTime_eq, hm, Option.bind_some]
  (repeat' split) <;> exact ⟨_, rfl⟩
theorem idxV_anyI {α : Type} (q : α → Bool) : ∀ (l : List α) (i : Int), 0 ≤ i → decide (idxV q l i ≥ 0) = l.any q
  | [], i, _ => by simp [idxV]
  | x :: l, i, h => by
    unfold idxV
    rw [List.any_cons]
    cases c : q x with
    | true => simp only [if_true, Bool.true_or]; exact decide_eq_true h
    | false => simp only [Bool.false_eq_true, if_false, Bool.false_or]; exact idxV_anyI q l (i + 1) (by omega)
mutual
def vldC : S219 → Bool
  | ⟨a, b, c, l⟩ => (spec_l15Node.f a b c l).getD false && vldL l
def vldL : List S219 → Bool
  | [] => true
  | x :: l => vldC x && vldL l
end
theorem vldL_eq : ∀ l : List S219, vldL l = l.all vldC
  | [] => by simp [vldL]
  | x :: l => by simp [vldL, vldL_eq l]
theorem vldC_f (x : S219) : vldC x = ((spec_l15Node.f x.f0 x.f1 x.f2 x.f3).getD false && x.f3.all vldC) := by
  cases x
  simp only [vldC, vldL_eq]
def bothV (x : S219) (b : Bool) : Prop := Ev (fun k => spec_l15Valid.f k x.f0 x.f1 x.f2 x.f3) b ∧ Ev (fun k => impl_areNodes.f k x.f0 x.f1 x.f2 x.f3) b
theorem valid_evN (N : Nat) : ∀ x : S219, n219 x ≤ N → N ≤ 1048576 → bothV x (vldC x) := by
  induction N using Nat.strongRecOn with
  | _ N ih =>
  intro x hx hN
  rw [n219_f] at hx
  obtain ⟨t, ht⟩ := node_some x.f0 x.f1 x.f2 x.f3
  have hti := (node_eq x.f0 x.f1 x.f2 x.f3).trans ht
  rw [vldC_f, ht, Option.getD_some]
  cases t with
  | false => exact ⟨Ev.succ (by simp only [spec_l15Valid.f, ht, Option.bind_some, Bool.false_eq_true, if_false, Bool.false_and]; exact Ev.now _), Ev.succ (by simp only [impl_areNodes.f, hti, Option.bind_some, Bool.false_eq_true, if_false, Bool.false_and]; exact Ev.now _)⟩
  | true =>
  have hp : ∀ y ∈ x.f3, bothV y (vldC y) := fun y hy => by
    obtain ⟨i, hi, rfl⟩ := List.getElem_of_mem hy
    have hn := le_sum n219 (List.getElem?_eq_getElem hi)
    exact ih (n219 x.f3[i]) (by omega) _ (Nat.le_refl _) (by omega)
  rw [Bool.true_and]
  refine ⟨Ev.succ ?_, Ev.succ ?_⟩
  · simp only [spec_l15Valid.f, ht, Option.bind_some, if_true]
    have key : ∀ d i : Nat, x.f3.length - i = d → i ≤ x.f3.length → Ev (fun k => spec_l15Valid.l0 k x.f0 x.f1 x.f2 x.f3 (i : Int)) ((x.f3.drop i).all vldC) := by
      intro d
      induction d with
      | zero =>
        intro i hd hi
        obtain rfl : i = x.f3.length := by omega
        refine Ev.succ ?_
        simp only [spec_l15Valid.l0, Int.lt_irrefl, if_false, List.drop_length, List.all_nil]
        exact Ev.now _
      | succ d ih2 =>
        intro i hd hi
        have hi' : i < x.f3.length := by omega
        have hy : x.f3[i]? = some x.f3[i] := List.getElem?_eq_getElem hi'
        have hb := (hp x.f3[i] (List.getElem_mem hi')).1
        rw [List.drop_eq_getElem_cons hi', List.all_cons]
        generalize x.f3[i] = y at hy hb ⊢
        have h1 : ((i : Int) < (x.f3.length : Int)) = True := eq_true (by omega)
        have h2 : (0 ≤ (i : Int)) = True := eq_true (by omega)
        refine Ev.succ ?_
        simp only [spec_l15Valid.l0, h1, h2, if_true, rd_at_T219 hy, wr1 hi' (by omega)]
        refine Ev.bind hb ?_
        cases vldC y with
        | true => simp only [if_true, Bool.true_and]; exact ih2 (i + 1) (by omega) (by omega)
        | false => simp only [Bool.false_eq_true, if_false, Bool.false_and]; exact Ev.now _
    exact Ev.eqv (by rw [List.drop_zero]) (key x.f3.length 0 (by omega) (by omega))
  · simp only [impl_areNodes.f, hti, Option.bind_some, if_true]
    have hI : Ev (fun k => slices_IndexFunc254_251.f k x.f3) (idxV (fun y => !vldC y) x.f3 0) := by
      refine Ev.succ ?_
      simp only [slices_IndexFunc254_251.f]
      refine idx_ev (fun k i => slices_IndexFunc254_251.l0 k x.f3 (x.f3.length : Int) i) (fun y => !vldC y) x.f3 0 x.f3.length (by omega) ?_ ?_
      · refine Ev.succ ?_
        simp only [slices_IndexFunc254_251.l0, Int.lt_irrefl, if_false]
        exact Ev.now _
      · intro j y r _ hy
        rw [Nat.sub_zero] at hy
        have hj := lt_of_get hy
        have h1 : ((j : Int) < (x.f3.length : Int)) = True := eq_true (by omega)
        have h2 : (0 ≤ (j : Int)) = True := eq_true (by omega)
        have hc : Ev (fun k => cl251.f k y.f0 y.f1 y.f2 y.f3) (!vldC y) := by
          refine Ev.succ ?_
          simp only [cl251.f]
          exact Ev.bind (hp y (List.mem_of_getElem? hy)).2 (Ev.now _)
        constructor
        · intro hq
          refine Ev.succ ?_
          simp only [slices_IndexFunc254_251.l0, h1, h2, if_true, rd_at_T219 hy]
          refine Ev.bind hc ?_
          simp only [hq, if_true]
          exact Ev.now _
        · intro hq he
          refine Ev.succ ?_
          simp only [slices_IndexFunc254_251.l0, h1, h2, if_true, rd_at_T219 hy, wr1 hj (by omega)]
          refine Ev.bind hc ?_
          simp only [hq, Bool.false_eq_true, if_false]
          exact he
    have hC : Ev (fun k => slices_ContainsFunc250_251.f k x.f3) (x.f3.any (fun y => !vldC y)) := by
      refine Ev.succ ?_
      simp only [slices_ContainsFunc250_251.f]
      exact Ev.bind hI (Ev.eqv (idxV_anyI (fun y => !vldC y) x.f3 0 (by omega)) (Ev.now _))
    refine Ev.bind hC ?_
    refine Ev.eqv ?_ (Ev.now _)
    simp [List.any_eq_not_all_not]
/-- A condition is in order: not too many nodes, each of them right. -/
def condB (x : S219) : Bool := decide (1 + (n219 x : Int) ≤ 15) && vldC x
theorem spec_IsCond_ev (x : S219) (h : n219 x ≤ 1048576) : Ev (fun k => spec_IsCond.f k x.f0 x.f1 x.f2 x.f3) (condB x) := by
  have hv := (valid_evN _ x (Nat.le_refl _) h).1
  obtain ⟨r, hr, _, r1, r2⟩ := spec_l15Left_evN _ x 15 (Nat.le_refl _) h (by omega) (by omega)
  unfold spec_IsCond.f condB
  by_cases c : 1 + (n219 x : Int) ≤ 15
  · have q := r1 c
    refine Ev.bind hr ?_
    simp only [if_pos (show r ≥ 0 by omega), decide_eq_true c, Bool.true_and]
    exact Ev.bind hv (Ev.now _)
  · have q := r2 (by omega)
    refine Ev.bind hr ?_
    simp only [if_neg (show ¬ r ≥ 0 by omega), decide_eq_false c, Bool.false_and]
    exact Ev.now _

-- spec_IsName
theorem spec_IsName_eq (a : Int) : spec_IsName.f a = some (nameB a) := by
  unfold spec_IsName.f
  rw [spec_l1In_eq]; rfl

-- spec_HasKind
theorem spec_HasKind_eq (a b : Int) : spec_HasKind.f a b = some (kindB a b) := by
  unfold spec_HasKind.f kindB
  rw [spec_IsName_eq, Option.bind_some]
  cases h : nameB a with
  | true => simp only [if_true, name_div h, Bool.true_and]; rfl
  | false => rfl

-- spec_IsRule
def ruleB (r : S221) : Bool := inB r.f0 0 1 && (inB r.f1 (-1) 5 && ((r.f2 == -1 || kindB r.f2 4) && condB r.f3))
def policyB (p : S109) : Bool := inB p.f0 0 999 && (decide ((p.f1.length : Int) ≤ 8) && p.f1.all ruleB)
theorem rule_n (r : S221) : n219 r.f3 ≤ n221 r := by unfold n221; omega
theorem spec_IsRule_ev (r : S221) (h : n221 r ≤ 1048576) : Ev (fun k => spec_IsRule.f k r.f0 r.f1 r.f2 r.f3.f0 r.f3.f1 r.f3.f2 r.f3.f3) (ruleB r) := by
  have hc := spec_IsCond_ev r.f3 (by have := rule_n r; omega)
  unfold spec_IsRule.f ruleB
  simp only [spec_l1In_eq, spec_HasKind_eq, Option.bind_some]
  refine Ev.bifT fun _ => Ev.bifT fun _ => ?_
  by_cases c : r.f2 = -1
  · simp only [if_pos c, beq_iff_eq.2 c, Bool.true_or, Bool.true_and]
    exact Ev.bind hc (Ev.now _)
  · simp only [if_neg c, beq_eq_false_iff_ne.2 c, Bool.false_or]
    exact Ev.bifT fun _ => Ev.bind hc (Ev.now _)

-- spec_IsPolicy
theorem spec_IsPolicy_ev (p : S109) (h : n109 p ≤ 1048576) : Ev (fun k => spec_IsPolicy.f k p.f0 p.f1) (policyB p) := by
  unfold n109 at h
  unfold spec_IsPolicy.f policyB
  have key : ∀ d i : Nat, p.f1.length - i = d → i ≤ p.f1.length → Ev (fun k => spec_IsPolicy.l0 k p.f0 p.f1 (i : Int)) ((p.f1.drop i).all ruleB && (inB p.f0 0 999 && decide ((p.f1.length : Int) ≤ 8))) := by
    intro d
    induction d with
    | zero =>
      intro i hd hi
      obtain rfl : i = p.f1.length := by omega
      refine Ev.succ ?_
      simp only [spec_IsPolicy.l0, Int.lt_irrefl, if_false, List.drop_length, List.all_nil, Bool.true_and, spec_l1In_eq, Option.bind_some]
      exact Ev.bifT fun _ => Ev.now _
    | succ d ih =>
      intro i hd hi
      have hi' : i < p.f1.length := by omega
      have hx : p.f1[i]? = some p.f1[i] := List.getElem?_eq_getElem hi'
      have hr := ih (i + 1) (by omega) (by omega)
      have hn := le_sum n221 hx
      rw [List.drop_eq_getElem_cons hi', List.all_cons, Bool.and_assoc]
      generalize p.f1[i] = x at hx hn ⊢
      have h1 : ((i : Int) < (p.f1.length : Int)) = True := eq_true (by omega)
      have h2 : (0 ≤ (i : Int)) = True := eq_true (by omega)
      refine Ev.succ ?_
      simp only [spec_IsPolicy.l0, h1, h2, if_true, rd_at_T221 hx, wr1 hi' (show p.f1.length ≤ 9223372036854775807 by omega)]
      exact Ev.band (spec_IsRule_ev x (by omega)) fun _ => hr
  refine Ev.eqv ?_ (key p.f1.length 0 (by omega) (by omega))
  rw [List.drop_zero]
  cases p.f1.all ruleB <;> cases inB p.f0 0 999 <;> simp

-- spec_IsEpoch
/-- Each element is in order (p), and with the one ahead of it (q). -/
def adjT {α : Type} (p : α → Bool) (q : α → α → Bool) : α → List α → Bool
  | _, [] => true
  | y, x :: t => p x && (q y x && adjT p q x t)
def adjB {α : Type} (p : α → Bool) (q : α → α → Bool) : List α → Bool
  | [] => true
  | x :: t => p x && adjT p q x t
theorem ev_adj {α : Type} (l : List α) (p : α → Bool) (q : α → α → Bool) (fin : Bool) (L : Nat → Int → Option Bool) (hend : Ev (fun k => L k (l.length : Int)) fin)
    (hs0 : ∀ x r, l[0]? = some x → Ev (fun k => L k ((0 + 1 : Nat) : Int)) r → Ev (fun k => L k 0) (p x && r))
    (hs : ∀ (i : Nat) y x r, l[i]? = some y → l[i + 1]? = some x → Ev (fun k => L k ((i + 1 + 1 : Nat) : Int)) r → Ev (fun k => L k ((i + 1 : Nat) : Int)) (p x && (q y x && r))) : Ev (fun k => L k 0) (adjB p q l && fin) := by
  have key : ∀ (d i : Nat) (y : α), l[i]? = some y → l.length - (i + 1) = d → Ev (fun k => L k ((i + 1 : Nat) : Int)) (adjT p q y (l.drop (i + 1)) && fin) := by
    intro d
    induction d with
    | zero =>
      intro i y hy hd
      have hi := lt_of_get hy
      have e : i + 1 = l.length := by omega
      rw [e, List.drop_length]
      exact hend
    | succ d ih =>
      intro i y hy hd
      have hi : i + 1 < l.length := by omega
      have hx : l[i + 1]? = some l[i + 1] := List.getElem?_eq_getElem hi
      have h := hs i y l[i + 1] _ hy hx (ih (i + 1) l[i + 1] hx (by omega))
      rw [List.drop_eq_getElem_cons hi]
      simp only [adjT, Bool.and_assoc]
      exact h
  cases l with
  | nil => exact hend
  | cons x t =>
    have h := hs0 x _ rfl (key _ 0 x rfl rfl)
    simp only [adjB, Bool.and_assoc]
    exact h
theorem wrp {i n : Nat} (h : i + 1 < n) (hn : n ≤ 9223372036854775807) : wrap64 (((i + 1 : Nat) : Int) - 1) = (i : Int) := by rw [wr (by omega) (by omega)]; omega
def epochB (e : S111) : Bool := inB e.f0 0 999 && (timeB e.f1 && (pairsB e.f2 && (policyB e.f3 && (e.f3.f0 == e.f0))))
def epochQ (y x : S111) : Bool := !decide (y.f0 ≥ x.f0) && !decide (y.f1 > x.f1)
def epochsB (l : List S111) : Bool := adjB epochB epochQ l && decide ((l.length : Int) ≤ 6)
theorem epochQ_step {y x : S111} {g : Nat → Option Bool} {r : Bool} (h : epochQ y x = true → Ev g r) : Ev (fun k => if y.f0 ≥ x.f0 then some false else if y.f1 > x.f1 then some false else g k) (epochQ y x && r) := by
  unfold epochQ at h ⊢
  rw [Bool.and_assoc]
  exact Ev.dnot fun a => Ev.dnot fun b => h (by rw [decide_eq_false a, decide_eq_false b]; rfl)
theorem spec_IsEpoch_ev (e : S111) (h : n111 e ≤ 1048576) : Ev (fun k => spec_IsEpoch.f k e.f0 e.f1 e.f2 e.f3.f0 e.f3.f1) (epochB e) := by
  unfold n111 at h
  unfold spec_IsEpoch.f epochB
  simp only [spec_l1In_eq, spec_IsTime_eq, Option.bind_some]
  exact Ev.bifT fun _ => Ev.bifT fun _ => Ev.band (spec_ArePairs_ev e.f2 (by omega)) fun _ => Ev.band (spec_IsPolicy_ev e.f3 (by omega)) fun _ => Ev.now _

-- spec_AreEpochs
theorem spec_AreEpochs_ev (l : List S111) (h : l.length + (l.map n111).sum ≤ 1048576) : Ev (fun k => spec_AreEpochs.f k l) (epochsB l) := by
  unfold spec_AreEpochs.f epochsB
  refine ev_adj l epochB epochQ _ (fun k i => spec_AreEpochs.l0 k l i) ?_ ?_ ?_
  · refine Ev.succ ?_
    simp only [spec_AreEpochs.l0, Int.lt_irrefl, if_false]
    exact Ev.now _
  · intro x r hx hr
    have hi := lt_of_get hx
    have h1 : ((0 : Int) < (l.length : Int)) = True := eq_true (by omega)
    have e := rd_at_T111 hx
    have e2 := wr1 hi (show l.length ≤ 9223372036854775807 by omega)
    simp only [Int.ofNat_zero, Int.natCast_zero] at e e2
    refine Ev.succ ?_
    simp only [spec_AreEpochs.l0, h1, if_true, Int.le_refl, gt_iff_lt, Int.lt_irrefl, if_false, e, e2, Option.bind_some]
    exact Ev.band (spec_IsEpoch_ev x (by have := le_sum n111 hx; omega)) fun _ => hr
  · intro i y x r hy hx hr
    have hi := lt_of_get hx
    have h1 : (((i + 1 : Nat) : Int) < (l.length : Int)) = True := eq_true (by omega)
    have h2 : (0 ≤ ((i + 1 : Nat) : Int)) = True := eq_true (by omega)
    have h3 : (((i + 1 : Nat) : Int) > 0) = True := eq_true (by omega)
    have h4 : (0 ≤ (i : Int)) = True := eq_true (by omega)
    have h5 : ((i : Int) < (l.length : Int)) = True := eq_true (by omega)
    refine Ev.succ ?_
    simp only [spec_AreEpochs.l0, h1, h2, h3, h4, h5, if_true, rd_at_T111 hx, rd_at_T111 hy, wr1 hi (show l.length ≤ 9223372036854775807 by omega), wrp hi (show l.length ≤ 9223372036854775807 by omega), Option.bind_some]
    exact Ev.band (spec_IsEpoch_ev x (by have := le_sum n111 hx; omega)) fun _ => epochQ_step fun _ => hr

-- spec_NewestNumber
theorem spec_NewestNumber_ok (l : List S111) (h : l.length ≤ 1048576) : ∃ v, spec_NewestNumber.f l = some v := by
  unfold spec_NewestNumber.f
  by_cases c : (l.length : Int) = 0
  · exact ⟨_, if_pos c⟩
  · have w : wrap64 ((l.length : Int) - 1) = (l.length : Int) - 1 := wr (by omega) (by omega)
    rw [if_neg c, w, if_pos (by omega), if_pos (by omega)]
    exact ⟨_, rfl⟩

-- spec_l19Copy
theorem spec_l19Copy_ev (v : Int) (l : List S221) (h : l.length ≤ 1048576) (hn : ∀ x ∈ l, n219 x.f3 ≤ 1048576) : Ev (fun k => spec_l19Copy.f k v l) (v, l) := by
  unfold spec_l19Copy.f
  have key : ∀ (d i : Nat), l.length - i = d → i ≤ l.length → Ev (fun k => spec_l19Copy.l0 k v l 0 [] v (l.take i) (i : Int)) (v, l) := by
    intro d
    induction d with
    | zero =>
      intro i hd hi
      obtain rfl : i = l.length := by omega
      refine Ev.succ ?_
      simp only [spec_l19Copy.l0, Int.lt_irrefl, if_false, List.take_length]
      exact Ev.now _
    | succ d ihd =>
      intro i hd hi
      have hi' : i < l.length := by omega
      obtain ⟨y, hy⟩ := getAt (l := l) (i := i) hi'
      have h1 : ((i : Int) < (l.length : Int)) = True := eq_true (by omega)
      have h2 : (0 ≤ (i : Int)) = True := eq_true (by omega)
      have h3 : ((l.take i).length < 1954687338268) = True := eq_true (by rw [List.length_take]; omega)
      have e3 : l.take i ++ [y] = l.take (i + 1) := by rw [List.take_add_one, hy]; rfl
      refine Ev.succ ?_
      simp only [spec_l19Copy.l0, h1, h2, if_true, rd_at_T221 hy, wr1 hi' (by omega)]
      refine Ev.bind (spec_l15Copy_ev y.f3 (hn y (List.mem_of_getElem? hy))) ?_
      simp only [h3, if_true, eta219, e3]
      exact ihd (i + 1) (by omega) (by omega)
  exact key l.length 0 (by omega) (by omega)

-- spec_l24Copy
/-- An epoch of a bounded size. -/
def okE (x : S111) : Prop := x.f2.length ≤ 3 ∧ x.f3.f1.length ≤ 4 ∧ ∀ r ∈ x.f3.f1, n219 r.f3 ≤ 6
theorem sum_bd {α : Type} (f : α → Nat) (B : Nat) : ∀ l : List α, (∀ x ∈ l, f x ≤ B) → (l.map f).sum ≤ l.length * B
  | [], _ => by simp
  | x :: l, h => by
    have h1 := h x List.mem_cons_self
    have h2 := sum_bd f B l fun y hy => h y (List.mem_cons_of_mem _ hy)
    rw [List.map_cons, List.sum_cons, List.length_cons, Nat.succ_mul]
    omega
theorem okE_n {x : S111} (h : okE x) : n111 x ≤ 31 := by
  obtain ⟨h1, h2, h3⟩ := h
  have := sum_bd n221 6 x.f3.f1 (fun r hr => by unfold n221; exact h3 r hr)
  unfold n111 n109
  omega
theorem okE_all {l : List S111} (h : ∀ x ∈ l, okE x) (hl : l.length ≤ 7) : l.length + (l.map n111).sum ≤ 1048576 := by
  have := sum_bd n111 31 l (fun x hx => okE_n (h x hx))
  omega
theorem spec_l24Copy_ev (x : S111) (h : okE x) : Ev (fun k => spec_l24Copy.f k x.f0 x.f1 x.f2 x.f3.f0 x.f3.f1) (x.f0, x.f1, x.f2, x.f3.f0, x.f3.f1) := by
  obtain ⟨h1, h2, h3⟩ := h
  unfold spec_l24Copy.f
  refine Ev.pos (by omega) ?_
  exact Ev.bind (spec_l19Copy_ev x.f3.f0 x.f3.f1 (by omega) (fun r hr => by have := h3 r hr; omega)) (Ev.now _)

-- spec_l24All
theorem spec_l24All_ev (l : List S111) (h : l.length ≤ 1048576) (hn : ∀ x ∈ l, okE x) : Ev (fun k => spec_l24All.f k l) l := by
  unfold spec_l24All.f
  have key : ∀ (d i : Nat), l.length - i = d → i ≤ l.length → Ev (fun k => spec_l24All.l0 k l (l.take i) (i : Int)) l := by
    intro d
    induction d with
    | zero =>
      intro i hd hi
      obtain rfl : i = l.length := by omega
      refine Ev.succ ?_
      simp only [spec_l24All.l0, Int.lt_irrefl, if_false, List.take_length]
      exact Ev.now _
    | succ d ihd =>
      intro i hd hi
      have hi' : i < l.length := by omega
      obtain ⟨y, hy⟩ := getAt (l := l) (i := i) hi'
      have h1 : ((i : Int) < (l.length : Int)) = True := eq_true (by omega)
      have h2 : (0 ≤ (i : Int)) = True := eq_true (by omega)
      have h3 : ((l.take i).length < 1954687338268) = True := eq_true (by rw [List.length_take]; omega)
      have e3 : l.take i ++ [y] = l.take (i + 1) := by rw [List.take_add_one, hy]; rfl
      refine Ev.succ ?_
      simp only [spec_l24All.l0, h1, h2, if_true, rd_at_T111 hy, wr1 hi' (by omega)]
      refine Ev.bind (spec_l24Copy_ev y (hn y (List.mem_of_getElem? hy))) ?_
      simp only [h3, if_true, e3]
      exact ihd (i + 1) (by omega) (by omega)
  exact key l.length 0 (by omega) (by omega)

-- spec_PublishEpoch
theorem spec_PublishEpoch_ev (l : List S111) (p : List S208) (q : List S221) (a : Int) (hl : l.length ≤ 6) (hn : ∀ x ∈ l, okE x) (hp : p.length ≤ 3) (hq : q.length ≤ 4) (hr : ∀ r ∈ q, n219 r.f3 ≤ 6) :
    ∃ (l' : List S111) (b : Bool), Ev (fun k => spec_PublishEpoch.f k l p q a) (l', b) ∧ l'.length ≤ 6 ∧ ∀ x ∈ l', okE x := by
  obtain ⟨v, hv⟩ := spec_NewestNumber_ok l (by omega)
  have ha := spec_AreEpochs_ev l (okE_all hn (by omega))
  have hc := spec_l24All_ev l (by omega) hn
  have hx : okE (⟨wrap64 (v + 1), a, p, ⟨wrap64 (v + 1), q⟩⟩ : S111) := ⟨hp, hq, hr⟩
  have hcp := spec_l24Copy_ev _ hx
  have hn2 : ∀ x ∈ l ++ [(⟨wrap64 (v + 1), a, p, ⟨wrap64 (v + 1), q⟩⟩ : S111)], okE x := by
    intro x hx'
    rcases List.mem_append.1 hx' with h | h
    · exact hn x h
    · rw [List.mem_singleton.1 h]; exact hx
  have hn3 : ∀ x ∈ (l ++ [(⟨wrap64 (v + 1), a, p, ⟨wrap64 (v + 1), q⟩⟩ : S111)]).drop 1, okE x := fun x h => hn2 x (List.mem_of_mem_drop h)
  have hl2 : (l ++ [(⟨wrap64 (v + 1), a, p, ⟨wrap64 (v + 1), q⟩⟩ : S111)]).length = l.length + 1 := by simp
  cases hb : epochsB l with
  | false =>
    rw [hb] at ha
    refine ⟨l, false, ?_, hl, hn⟩
    unfold spec_PublishEpoch.f
    refine Ev.bind ha ?_
    simp only [Bool.false_eq_true, if_false]
    exact Ev.bind hc (Ev.now _)
  | true =>
    rw [hb] at ha
    have h3 : (l.length < 1954687338268) = True := eq_true (by omega)
    by_cases c : (l.length : Int) + 1 > 6
    · have ha3 := spec_AreEpochs_ev _ (okE_all hn3 (by rw [List.length_drop]; omega))
      have hl3 : ((l ++ [(⟨wrap64 (v + 1), a, p, ⟨wrap64 (v + 1), q⟩⟩ : S111)]).drop 1).length ≤ 6 := by rw [List.length_drop, hl2]; omega
      have c1 : (((l ++ [(⟨wrap64 (v + 1), a, p, ⟨wrap64 (v + 1), q⟩⟩ : S111)]).length : Int) > 6) = True := eq_true (by rw [hl2]; omega)
      have c2 : (1 ≤ ((l ++ [(⟨wrap64 (v + 1), a, p, ⟨wrap64 (v + 1), q⟩⟩ : S111)]).length : Int)) = True := eq_true (by rw [hl2]; omega)
      cases hb3 : epochsB ((l ++ [(⟨wrap64 (v + 1), a, p, ⟨wrap64 (v + 1), q⟩⟩ : S111)]).drop 1) with
      | true =>
        rw [hb3] at ha3
        refine ⟨_, true, ?_, hl3, hn3⟩
        unfold spec_PublishEpoch.f
        refine Ev.bind ha ?_
        simp only [if_true, hv, Option.bind_some]
        refine Ev.bind hc (Ev.bind hcp ?_)
        simp only [h3, c1, c2, if_true]
        refine Ev.bind ha3 ?_
        simp only [if_true]
        exact Ev.now _
      | false =>
        rw [hb3] at ha3
        refine ⟨l, false, ?_, hl, hn⟩
        unfold spec_PublishEpoch.f
        refine Ev.bind ha ?_
        simp only [if_true, hv, Option.bind_some]
        refine Ev.bind hc (Ev.bind hcp ?_)
        simp only [h3, c1, c2, if_true]
        refine Ev.bind ha3 ?_
        simp only [Bool.false_eq_true, if_false]
        exact Ev.bind hc (Ev.now _)
    · have ha3 := spec_AreEpochs_ev _ (okE_all hn2 (by omega))
      have c1 : (((l ++ [(⟨wrap64 (v + 1), a, p, ⟨wrap64 (v + 1), q⟩⟩ : S111)]).length : Int) > 6) = False := eq_false (by rw [hl2]; omega)
      cases hb3 : epochsB (l ++ [(⟨wrap64 (v + 1), a, p, ⟨wrap64 (v + 1), q⟩⟩ : S111)]) with
      | true =>
        rw [hb3] at ha3
        refine ⟨_, true, ?_, by omega, hn2⟩
        unfold spec_PublishEpoch.f
        refine Ev.bind ha ?_
        simp only [if_true, hv, Option.bind_some]
        refine Ev.bind hc (Ev.bind hcp ?_)
        simp only [h3, c1, if_true, if_false]
        refine Ev.bind ha3 ?_
        simp only [if_true]
        exact Ev.now _
      | false =>
        rw [hb3] at ha3
        refine ⟨l, false, ?_, hl, hn⟩
        unfold spec_PublishEpoch.f
        refine Ev.bind ha ?_
        simp only [if_true, hv, Option.bind_some]
        refine Ev.bind hc (Ev.bind hcp ?_)
        simp only [h3, c1, if_true, if_false]
        refine Ev.bind ha3 ?_
        simp only [Bool.false_eq_true, if_false]
        exact Ev.bind hc (Ev.now _)

-- spec_l24List
theorem spec_l24List_ev (s : List Int) (i h : Int) (h0 : 0 ≤ i) (h1 : i ≤ s.length) (hs : s.length ≤ 1048576) : ∃ (l : List S111) (j g : Int), Ev (fun k => spec_l24List.f k s i h) (l, j, g) ∧ l.length ≤ 6 ∧ (∀ x ∈ l, okE x) ∧ 0 ≤ j ∧ j ≤ s.length := by
  have key : ∀ (m : Nat) (l : List S111) (a i h : Int), m ≤ 4 → 0 ≤ i → i ≤ s.length → l.length ≤ 6 → (∀ x ∈ l, okE x) → ∃ (l' : List S111) (j g : Int), Ev (fun k => spec_l24List.l0 k s i h l a (m : Int)) (l', j, g) ∧ l'.length ≤ 6 ∧ (∀ x ∈ l', okE x) ∧ 0 ≤ j ∧ j ≤ s.length := by
    intro m
    induction m with
    | zero =>
      intro l a i h _ i0 i1 hl hx
      refine ⟨l, i, h, Ev.succ ?_, hl, hx, i0, i1⟩
      simp only [spec_l24List.l0]
      exact Ev.neg (by omega) (Ev.now _)
    | succ m ih =>
      intro l a i h hm i0 i1 hl hx
      obtain ⟨b, i2, g2, e2, _, _, i20, i21⟩ := spec_l1Below_ok s i h i0 i1 hs 8 (by omega) (by omega)
      obtain ⟨p, i3, g3, e3, hp, i30, i31⟩ := spec_l14Pairs_ev s i2 g2 i20 i21 hs
      obtain ⟨v, q, i4, g4, e4, hq, hr, i40, i41⟩ := spec_l19Policy_ev s i3 g3 i30 i31 hs
      obtain ⟨l2, b2, e5, hl2, hx2⟩ := spec_PublishEpoch_ev l p q (wrap64 (a + b)) hl hx hp hq hr
      obtain ⟨l', j, g, e', hl', hx', hj⟩ := ih l2 (wrap64 (a + b)) i4 g4 (by omega) i40 i41 hl2 hx2
      refine ⟨l', j, g, Ev.succ ?_, hl', hx', hj⟩
      have hpos : (((m + 1 : Nat) : Int) > 0) = True := eq_true (by omega)
      have hw : wrap64 (((m + 1 : Nat) : Int) - 1) = (m : Int) := by rw [wr (by omega) (by omega)]; omega
      simp only [spec_l24List.l0, hpos, if_true, hw, e2, Option.bind_some]
      exact Ev.bind e3 (Ev.bind e4 (Ev.bind e5 e'))
  obtain ⟨n, i2, g2, e2, n0, n1, i20, i21⟩ := spec_l1Below_ok s i h h0 h1 hs 4 (by omega) (by omega)
  obtain ⟨m, rfl⟩ : ∃ m : Nat, n = (m : Int) := ⟨n.toNat, by omega⟩
  obtain ⟨l, j, g, e, hl, hx, hj⟩ := key m [] 0 i2 g2 (by omega) i20 i21 (by simp) (by simp)
  refine ⟨l, j, g, ?_, hl, hx, hj⟩
  unfold spec_l24List.f
  simp only [e2, Option.bind_some]
  exact e

-- spec_l4Time
theorem spec_l4Time_ok (s : List Int) (i h : Int) (h0 : 0 ≤ i) (h1 : i ≤ s.length) (hs : s.length ≤ 1048576) : ∃ x j h', spec_l4Time.f s i h = some (x, j, h') ∧ 0 ≤ j ∧ j ≤ s.length := by
  obtain ⟨b, i1, g1, e1, i10, i11⟩ := spec_l1Once_ok s i h h0 h1 hs 8 (by omega) (by omega)
  obtain ⟨x, i2, g2, e2, i20, i21⟩ := spec_l1Int_ok s i1 g1 i10 i11 hs [(-1), 0, 10000, 10001, 9223372036854775807, (-9223372036854775808)] (by simp) (by simp)
  obtain ⟨c, i3, g3, e3, _, _, i30, i31⟩ := spec_l1Below_ok s i1 g1 i10 i11 hs 40 (by omega) (by omega)
  unfold spec_l4Time.f
  simp only [e1, Option.bind_some]
  cases b with
  | true => exact ⟨x, i2, g2, by simp only [if_true, e2, Option.bind_some], i20, i21⟩
  | false => exact ⟨c, i3, g3, by simp only [Bool.false_eq_true, if_false, e3, Option.bind_some], i30, i31⟩

-- spec_DrawTakeLease
theorem spec_DrawTakeLease_ev (s : List Int) (hs : s.length ≤ 1048576) : ∃ (l : List S111) (a b : Int), Ev (fun k => spec_DrawTakeLease.f k s) (l, a, b) ∧ l.length ≤ 6 ∧ (∀ x ∈ l, okE x) := by
  obtain ⟨x, hx⟩ := spec_l1New_ev s hs
  obtain ⟨l, i2, g2, e2, hl, hn, i20, i21⟩ := spec_l24List_ev s 0 x (by omega) (by omega) hs
  obtain ⟨a, i3, g3, e3, i30, i31⟩ := spec_l4Time_ok s i2 g2 i20 i21 hs
  obtain ⟨b, i4, g4, e4, _, _⟩ := spec_l1Int_ok s i3 g3 i30 i31 hs [0, 5, 10, 11, (-1)] (by simp) (by simp)
  refine ⟨l, a, b, ?_, hl, hn⟩
  unfold spec_DrawTakeLease.f
  refine Ev.bind hx (Ev.bind e2 ?_)
  simp only [e3, e4, Option.bind_some]
  exact Ev.now _

-- impl_NumberAt
def endB (a b : Int) : Int := if timeB a = true ∧ timeB b = true then (if 10000 < a + b then 10000 else a + b) else 0
theorem timeB_iff {t : Int} : timeB t = true ↔ 0 ≤ t ∧ t ≤ 10000 := inB_iff
def numStep (t : Int) (s : Int) (x : S111) : Int := if x.f1 ≤ t then x.f0 else s
def numV (l : List S111) (t : Int) : Int := l.foldl (numStep t) 0
def leaseB (n f u : Int) : Bool := inB n 1 999 && (timeB f && (timeB u && (decide (f ≤ u) && decide (u - f ≤ 10))))
def takeLV (l : List S111) (now span : Int) : Int × Int × Int × Bool := if leaseB (numV l now) now (endB now span) = true ∧ ¬ span < 0 then (numV l now, now, endB now span, true) else (0, 0, 0, false)
def renewV (a b c : Int) (l : List S111) (now span : Int) : Int × Int × Int × Bool := if (takeLV l now span).2.2.2 = true ∧ ¬ (takeLV l now span).1 < a then ((takeLV l now span).1, (takeLV l now span).2.1, (takeLV l now span).2.2.1, true) else (a, b, c, false)
theorem impl_NumberAt_ev (l : List S111) (t : Int) (h : l.length ≤ 1048576) : Ev (fun k => impl_NumberAt.f k l t) (numV l t) := by
  unfold impl_NumberAt.f numV
  refine ev_fold l (numStep t) id (fun _ _ => True) (fun k s i => impl_NumberAt.l0 k t s l (l.length : Int) i) ?_ ?_ ?_ 0 trivial
  · intro s _
    refine Ev.succ ?_
    simp only [impl_NumberAt.l0, Int.lt_irrefl, if_false]
    exact Ev.now _
  · intro i x s hx hs
    trivial
  · intro i x s r hx hs hr
    have hi := lt_of_get hx
    have h1 : ((i : Int) < (l.length : Int)) = True := eq_true (by omega)
    have h2 : (0 ≤ (i : Int)) = True := eq_true (by omega)
    refine Ev.succ ?_
    simp only [impl_NumberAt.l0, h1, h2, if_true, rd_at_T111 hx, wr1 hi (by omega)]
    unfold numStep at hr
    by_cases c : x.f1 ≤ t
    · simp only [if_pos c] at hr ⊢; exact hr
    · simp only [if_neg c] at hr ⊢; exact hr

-- impl_InRange


-- impl_IsTime
theorem impl_IsTime_eq (a : Int) : impl_IsTime.f a = some (timeB a) := by
  unfold impl_IsTime.f
  rw [impl_InRange_eq]; rfl

-- impl_EndOf
theorem impl_EndOf_eq (a b : Int) : impl_EndOf.f a b = some (endB a b) := by
  unfold impl_EndOf.f endB
  simp only [impl_IsTime_eq, impl_InRange_eq, Option.bind_some]
  by_cases c : timeB a = true
  · by_cases c2 : inB b 0 10000 = true
    · have h1 := timeB_iff.1 c
      have h2 := timeB_iff.1 (show timeB b = true from c2)
      simp only [if_pos c, if_pos c2, if_pos (show timeB a = true ∧ timeB b = true from ⟨c, c2⟩), wr (x := a + b) (by omega) (by omega)]
      try rfl
    · simp only [if_pos c, if_neg c2, if_neg (show ¬ (timeB a = true ∧ timeB b = true) from fun h => c2 h.2)]
  · simp only [if_neg c, if_neg (show ¬ (timeB a = true ∧ timeB b = true) from fun h => c h.1)]

-- impl_IsLease
theorem impl_IsLease_eq (n f u : Int) : impl_IsLease.f n f u = some (leaseB n f u) := by
  unfold impl_IsLease.f leaseB
  simp only [impl_InRange_eq, impl_IsTime_eq, Option.bind_some]
  cases inB n 1 999 with
  | false => rfl
  | true =>
    cases c1 : timeB f with
    | false => rfl
    | true =>
      cases c2 : timeB u with
      | false => rfl
      | true =>
        have h1 := timeB_iff.1 c1
        have h2 := timeB_iff.1 c2
        simp only [if_true, Bool.true_and, wr (x := u - f) (by omega) (by omega), inB]
        by_cases c3 : f ≤ u
        · rw [decide_eq_true c3, decide_eq_true (show 0 ≤ u - f by omega)]
        · rw [decide_eq_false c3, decide_eq_false (show ¬ 0 ≤ u - f by omega)]

-- impl_TakeLease
theorem impl_TakeLease_ev (l : List S111) (now span : Int) (h : l.length ≤ 1048576) : Ev (fun k => impl_TakeLease.f k l now span) (takeLV l now span) := by
  unfold impl_TakeLease.f takeLV
  refine Ev.bind (impl_NumberAt_ev l now h) ?_
  simp only [impl_EndOf_eq, impl_IsLease_eq, Option.bind_some]
  by_cases c2 : span < 0
  · simp only [if_pos c2, if_neg (show ¬ (leaseB (numV l now) now (endB now span) = true ∧ ¬ span < 0) from fun h => h.2 c2)]; exact Ev.now _
  · by_cases c : leaseB (numV l now) now (endB now span) = true
    · simp only [if_pos c, if_neg c2, if_pos (show leaseB (numV l now) now (endB now span) = true ∧ ¬ span < 0 from ⟨c, c2⟩)]; exact Ev.now _
    · simp only [if_neg c, if_neg c2, if_neg (show ¬ (leaseB (numV l now) now (endB now span) = true ∧ ¬ span < 0) from fun h => c h.1)]; exact Ev.now _

-- impl_IsWithin
def withB (a b c : Int) : Bool := timeB a && (timeB b && (timeB c && inB c a b))
theorem impl_IsWithin_eq (a b c : Int) : impl_IsWithin.f a b c = some (withB a b c) := by
  unfold impl_IsWithin.f withB
  simp only [impl_IsTime_eq, impl_InRange_eq, Option.bind_some]
  cases timeB a <;> cases timeB b <;> cases timeB c <;> rfl

-- impl_IsInForce
theorem impl_IsInForce_eq (n a b c : Int) : impl_IsInForce.f n a b c = some (leaseB n a b && withB a b c) := by
  unfold impl_IsInForce.f
  simp only [impl_IsLease_eq, impl_IsWithin_eq, Option.bind_some]
  cases leaseB n a b <;> rfl

-- slices_IndexFunc138_139
def findV (l : List S111) (n : Int) : Int := idxV (fun x => x.f0 == n) l 0
theorem findV_in (l : List S111) (n : Int) : findV l n = -1 ∨ (0 ≤ findV l n ∧ findV l n < (l.length : Int)) := by
  rcases idxV_spec (fun x : S111 => x.f0 == n) l with ⟨h, _⟩ | ⟨j, x, h1, h2, _⟩
  · left; exact h
  · right
    have := lt_of_get h2
    unfold findV
    rw [h1]; omega
def stillV (l : List S111) (n t : Int) : Bool := if findV l n < 0 then false else if numV l t = n then true else if findV l n + 1 < (l.length : Int) then decide (t ≤ endB (rd_T111 l (findV l n + 1)).f1 10) else false
theorem slices_IndexFunc138_139_ev (l : List S111) (n : Int) (h : l.length ≤ 1048576) : Ev (fun k => slices_IndexFunc138_139.f k l n) (findV l n) := by
  unfold slices_IndexFunc138_139.f findV
  refine idx_ev (fun k i => slices_IndexFunc138_139.l0 k l n (l.length : Int) i) (fun x => x.f0 == n) l 0 l.length (by omega) ?_ ?_
  · refine Ev.succ ?_
    simp only [slices_IndexFunc138_139.l0, Int.lt_irrefl, if_false]
    exact Ev.now _
  · intro j x r _ hx
    rw [Nat.sub_zero] at hx
    have hj := lt_of_get hx
    have h1 : ((j : Int) < (l.length : Int)) = True := eq_true (by omega)
    have h2 : (0 ≤ (j : Int)) = True := eq_true (by omega)
    constructor
    · intro hp
      refine Ev.succ ?_
      have hp : x.f0 = n := by simpa using hp
      simp only [slices_IndexFunc138_139.l0, h1, h2, if_true, rd_at_T111 hx, cl139.f, Option.bind_some, hp, decide_true]
      exact Ev.now _
    · intro hp he
      refine Ev.succ ?_
      have hp : ¬ x.f0 = n := by simpa using hp
      simp only [slices_IndexFunc138_139.l0, h1, h2, if_true, rd_at_T111 hx, cl139.f, Option.bind_some, hp, decide_false, Bool.false_eq_true, if_false, wr1 hj (by omega)]
      exact he

-- impl_FindEpoch
theorem impl_FindEpoch_ev (l : List S111) (n : Int) (h : l.length ≤ 1048576) : Ev (fun k => impl_FindEpoch.f k l n) (findV l n) := by
  unfold impl_FindEpoch.f
  exact Ev.bind (slices_IndexFunc138_139_ev l n h) (Ev.now _)

-- impl_MayStillUse
theorem impl_MayStillUse_ev (l : List S111) (n t : Int) (h : l.length ≤ 1048576) : Ev (fun k => impl_MayStillUse.f k l n t) (stillV l n t) := by
  unfold impl_MayStillUse.f stillV
  refine Ev.bind (impl_FindEpoch_ev l n h) ?_
  by_cases c : findV l n < 0
  · simp only [if_pos c]; exact Ev.now _
  · simp only [if_neg c]
    have hf := findV_in l n
    refine Ev.bind (impl_NumberAt_ev l t h) ?_
    by_cases c2 : numV l t = n
    · simp only [if_pos c2]; exact Ev.now _
    · have hw : wrap64 (findV l n + 1) = findV l n + 1 := wr (by omega) (by omega)
      simp only [if_neg c2, hw]
      by_cases c3 : findV l n + 1 < (l.length : Int)
      · have h0 : (0 ≤ findV l n + 1) = True := eq_true (by omega)
        simp only [if_pos c3, h0, if_true, impl_EndOf_eq, Option.bind_some]; exact Ev.now _
      · simp only [if_neg c3]; exact Ev.now _

-- spec_l25Lease
theorem spec_l25Lease_ok (s : List Int) (i h : Int) (h0 : 0 ≤ i) (h1 : i ≤ s.length) (hs : s.length ≤ 1048576) : ∃ a b c j g, spec_l25Lease.f s i h = some (a, b, c, j, g) ∧ 0 ≤ j ∧ j ≤ s.length := by
  obtain ⟨a, i2, g2, e2, _, _, i20, i21⟩ := spec_l1Below_ok s i h h0 h1 hs 20 (by omega) (by omega)
  obtain ⟨b, i3, g3, e3, _, _, i30, i31⟩ := spec_l1Below_ok s i2 g2 i20 i21 hs 3 (by omega) (by omega)
  obtain ⟨c, i4, g4, e4, _, _, i40, i41⟩ := spec_l1Below_ok s i3 g3 i30 i31 hs 11 (by omega) (by omega)
  unfold spec_l25Lease.f
  simp only [e2, e3, e4, Option.bind_some]
  exact ⟨_, _, _, i4, g4, rfl, i40, i41⟩

-- spec_l25Any
theorem spec_l25Any_ok (s : List Int) (i h : Int) (h0 : 0 ≤ i) (h1 : i ≤ s.length) (hs : s.length ≤ 1048576) : ∃ a b c j g, spec_l25Any.f s i h = some (a, b, c, j, g) ∧ 0 ≤ j ∧ j ≤ s.length := by
  obtain ⟨a, b, c, i2, g2, e2, i20, i21⟩ := spec_l25Lease_ok s i h h0 h1 hs
  obtain ⟨m, i3, g3, e3, _, _, i30, i31⟩ := spec_l1Below_ok s i2 g2 i20 i21 hs 6 (by omega) (by omega)
  obtain ⟨u, i4, g4, e4, i40, i41⟩ := spec_l1Int_ok s i3 g3 i30 i31 hs [0, 1, 999, 1000] (by simp) (by simp)
  obtain ⟨t, i5, g5, e5, i50, i51⟩ := spec_l4Time_ok s i3 g3 i30 i31 hs
  unfold spec_l25Any.f
  simp only [e2, e3, e4, e5, Option.bind_some]
  by_cases c0 : m = 0
  · exact ⟨_, _, _, i4, g4, if_pos c0, i40, i41⟩
  rw [if_neg c0]
  by_cases c1 : m = 1
  · exact ⟨_, _, _, i5, g5, if_pos c1, i50, i51⟩
  rw [if_neg c1]
  by_cases c2 : m = 2
  · exact ⟨_, _, _, i5, g5, if_pos c2, i50, i51⟩
  rw [if_neg c2]
  exact ⟨_, _, _, i3, g3, rfl, i30, i31⟩

-- spec_DrawRenewLease
theorem spec_DrawRenewLease_ev (s : List Int) (hs : s.length ≤ 1048576) : ∃ (a b c : Int) (l : List S111) (t n : Int), Ev (fun k => spec_DrawRenewLease.f k s) (a, b, c, l, t, n) ∧ l.length ≤ 6 ∧ (∀ x ∈ l, okE x) := by
  obtain ⟨x, hx⟩ := spec_l1New_ev s hs
  obtain ⟨l, t, n, e, hl, hn⟩ := spec_DrawTakeLease_ev s hs
  obtain ⟨a, b, c, i3, g3, e3, _, _⟩ := spec_l25Any_ok s 0 x (by omega) (by omega) hs
  refine ⟨a, b, c, l, t, n, ?_, hl, hn⟩
  unfold spec_DrawRenewLease.f
  refine Ev.bind e (Ev.bind hx ?_)
  simp only [e3, Option.bind_some]
  exact Ev.now _

-- impl_RenewLease
theorem impl_RenewLease_ev (a b c : Int) (l : List S111) (now span : Int) (h : l.length ≤ 1048576) : Ev (fun k => impl_RenewLease.f k a b c l now span) (renewV a b c l now span) := by
  unfold impl_RenewLease.f renewV
  refine Ev.bind (impl_TakeLease_ev l now span h) ?_
  generalize takeLV l now span = t
  by_cases c1 : t.2.2.2 = true
  · by_cases c2 : t.1 < a
    · simp only [if_pos c1, if_pos c2, if_neg (show ¬ (t.2.2.2 = true ∧ ¬ t.1 < a) from fun h => h.2 c2)]; exact Ev.now _
    · simp only [if_pos c1, if_neg c2, if_pos (show t.2.2.2 = true ∧ ¬ t.1 < a from ⟨c1, c2⟩)]; exact Ev.now _
  · simp only [if_neg c1, if_neg (show ¬ (t.2.2.2 = true ∧ ¬ t.1 < a) from fun h => c1 h.1)]; exact Ev.now _

-- spec_DrawMayStillUse
theorem spec_DrawMayStillUse_ev (s : List Int) (hs : s.length ≤ 1048576) : ∃ (l : List S111) (a b : Int), Ev (fun k => spec_DrawMayStillUse.f k s) (l, a, b) ∧ l.length ≤ 6 ∧ (∀ x ∈ l, okE x) := by
  obtain ⟨x, hx⟩ := spec_l1New_ev s hs
  obtain ⟨l, i2, g2, e2, hl, hn, i20, i21⟩ := spec_l24List_ev s 0 x (by omega) (by omega) hs
  obtain ⟨a, i3, g3, e3, _, _, i30, i31⟩ := spec_l1Below_ok s i2 g2 i20 i21 hs 5 (by omega) (by omega)
  obtain ⟨b, i4, g4, e4, _, _, _, _⟩ := spec_l1Below_ok s i3 g3 i30 i31 hs 40 (by omega) (by omega)
  refine ⟨l, a, b, ?_, hl, hn⟩
  unfold spec_DrawMayStillUse.f
  refine Ev.bind hx (Ev.bind e2 ?_)
  simp only [e3, e4, Option.bind_some]
  exact Ev.now _

-- impl_isRole
-- told elsewhere

-- impl_below
theorem popX_len2 (l : List S208) (a : Int) : ∀ s : List Bool × List Int, (popX l a s).2.length ≤ s.2.length + l.length := by
  unfold popX
  induction l with
  | nil => intro s; simp
  | cons x l ih =>
    intro s
    rw [List.foldl_cons]
    have := ih (visX a s x)
    have h : (visX a s x).2.length ≤ s.2.length + 1 := by
      unfold visX; split
      · simp
      · omega
    simp only [List.length_cons]
    omega
theorem isRole_role (a : Int) : impl_isRole.f a = some (roleB a) := by
  unfold impl_isRole.f
  rw [impl_InRange_eq]; rfl
theorem below_in (l : List S208) (hl : l.length ≤ 1048576) (a : Int) (c0 c1 c2 c3 c4 c5 : Bool) (r : Bool × Bool × Bool × Bool × Bool × Bool) : ∀ (d i : Nat) (b0 b1 b2 b3 b4 b5 : Bool) (q : List Int), i + d = l.length → q.length + d ≤ 20000000 →
    (∀ (e0 e1 e2 e3 e4 e5 : Bool) (q' : List Int), popX (l.drop i) a ([b0, b1, b2, b3, b4, b5], q) = ([e0, e1, e2, e3, e4, e5], q') → Ev (fun k => impl_below.l0 k l c0 c1 c2 c3 c4 c5 e0 e1 e2 e3 e4 e5 q') r) →
    Ev (fun k => impl_below.l1 k l c0 c1 c2 c3 c4 c5 b0 b1 b2 b3 b4 b5 q a l (l.length : Int) (i : Int)) r := by
  intro d
  induction d with
  | zero =>
    intro i b0 b1 b2 b3 b4 b5 q hi hq h
    obtain rfl : i = l.length := by omega
    refine Ev.succ ?_
    simp only [impl_below.l1, Int.lt_irrefl, if_false]
    exact h _ _ _ _ _ _ _ (by rw [List.drop_length]; rfl)
  | succ d ih =>
    intro i b0 b1 b2 b3 b4 b5 q hi hq h
    have hil : i < l.length := by omega
    obtain ⟨x, hx⟩ := getAt (l := l) (i := i) hil
    have hd : l.drop i = x :: l.drop (i + 1) := by
      rw [List.drop_eq_getElem_cons hil]
      rw [List.getElem?_eq_getElem hil] at hx
      rw [Option.some.inj hx]
    have h1 : ((i : Int) < (l.length : Int)) = True := eq_true (by omega)
    have h2 : (0 ≤ (i : Int)) = True := eq_true (by omega)
    have h3 : (q.length < 17592186044416) = True := eq_true (by omega)
    have go : ∀ (b0 b1 b2 b3 b4 b5 : Bool) (q2 : List Int), q2.length ≤ q.length + 1 → visX a ([b0, b1, b2, b3, b4, b5], q2) x = ([b0, b1, b2, b3, b4, b5], q2) ∨ True → True := fun _ _ _ _ _ _ _ _ _ => trivial
    clear go
    have keep : visX a ([b0, b1, b2, b3, b4, b5], q) x = ([b0, b1, b2, b3, b4, b5], q) → Ev (fun k => impl_below.l1 k l c0 c1 c2 c3 c4 c5 b0 b1 b2 b3 b4 b5 q a l (l.length : Int) ((i + 1 : Nat) : Int)) r := by
      intro hv
      refine ih (i + 1) _ _ _ _ _ _ q (by omega) (by omega) fun e0 e1 e2 e3 e4 e5 q' he => h _ _ _ _ _ _ _ ?_
      rw [hd]
      show popX (l.drop (i + 1)) a (visX a ([b0, b1, b2, b3, b4, b5], q) x) = _
      rw [hv]; exact he
    have put : ∀ (f0 f1 f2 f3 f4 f5 : Bool), visX a ([b0, b1, b2, b3, b4, b5], q) x = ([f0, f1, f2, f3, f4, f5], q ++ [x.f1]) → Ev (fun k => impl_below.l1 k l c0 c1 c2 c3 c4 c5 f0 f1 f2 f3 f4 f5 (q ++ [x.f1]) a l (l.length : Int) ((i + 1 : Nat) : Int)) r := by
      intro f0 f1 f2 f3 f4 f5 hv
      refine ih (i + 1) _ _ _ _ _ _ _ (by omega) (by rw [List.length_append, List.length_singleton]; omega) fun e0 e1 e2 e3 e4 e5 q' he => h _ _ _ _ _ _ _ ?_
      rw [hd]
      show popX (l.drop (i + 1)) a (visX a ([b0, b1, b2, b3, b4, b5], q) x) = _
      rw [hv]; exact he
    refine Ev.succ ?_
    simp only [impl_below.l1, h1, h2, h3, if_true, rd_at_T208 hx, wr1 hil (by omega), isRole_role, Option.bind_some]
    by_cases ca : x.f0 = a
    · simp only [if_pos ca]
      cases hr : roleB x.f1 with
      | false =>
        simp only [Bool.false_eq_true, if_false, ca, if_true]
        exact keep (by unfold visX; simp [hr])
      | true =>
        have hr' := roleB_iff.1 hr
        have hc : x.f1 = 0 ∨ x.f1 = 1 ∨ x.f1 = 2 ∨ x.f1 = 3 ∨ x.f1 = 4 ∨ x.f1 = 5 := by omega
        rcases hc with e | e | e | e | e | e <;> simp only [e, if_true, Int.reduceEq, if_false] at put ⊢
        · cases b0 with
          | true => simp only [if_true]; exact keep (by unfold visX; simp [mkR, e])
          | false => simp only [Bool.false_eq_true, if_false]; exact put _ _ _ _ _ _ (by unfold visX; simp [mkR, e, ca, roleB])
        · cases b1 with
          | true => simp only [if_true]; exact keep (by unfold visX; simp [mkR, e])
          | false => simp only [Bool.false_eq_true, if_false]; exact put _ _ _ _ _ _ (by unfold visX; simp [mkR, e, ca, roleB])
        · cases b2 with
          | true => simp only [if_true]; exact keep (by unfold visX; simp [mkR, e])
          | false => simp only [Bool.false_eq_true, if_false]; exact put _ _ _ _ _ _ (by unfold visX; simp [mkR, e, ca, roleB])
        · cases b3 with
          | true => simp only [if_true]; exact keep (by unfold visX; simp [mkR, e])
          | false => simp only [Bool.false_eq_true, if_false]; exact put _ _ _ _ _ _ (by unfold visX; simp [mkR, e, ca, roleB])
        · cases b4 with
          | true => simp only [if_true]; exact keep (by unfold visX; simp [mkR, e])
          | false => simp only [Bool.false_eq_true, if_false]; exact put _ _ _ _ _ _ (by unfold visX; simp [mkR, e, ca, roleB])
        · cases b5 with
          | true => simp only [if_true]; exact keep (by unfold visX; simp [mkR, e])
          | false => simp only [Bool.false_eq_true, if_false]; exact put _ _ _ _ _ _ (by unfold visX; simp [mkR, e, ca, roleB])
    · simp only [if_neg ca]
      exact keep (by unfold visX; simp [ca])
theorem below_out (l : List S208) (hl : l.length ≤ 1048576) (c0 c1 c2 c3 c4 c5 r0 r1 r2 r3 r4 r5 : Bool) : ∀ (n : Nat) (q : List Int) (b0 b1 b2 b3 b4 b5 : Bool), q.length + n * 1048576 ≤ 10000000 → bfsX l n q [b0, b1, b2, b3, b4, b5] = some [r0, r1, r2, r3, r4, r5] →
    Ev (fun k => impl_below.l0 k l c0 c1 c2 c3 c4 c5 b0 b1 b2 b3 b4 b5 q) (r0, r1, r2, r3, r4, r5) := by
  intro n
  induction n with
  | zero => intro q b0 b1 b2 b3 b4 b5 hq h; cases h
  | succ n ih =>
    intro q b0 b1 b2 b3 b4 b5 hq h
    cases q with
    | nil =>
      cases h
      refine Ev.succ ?_
      simp only [impl_below.l0, List.length_nil, Int.ofNat_eq_natCast, Int.natCast_zero, gt_iff_lt, Int.lt_irrefl, if_false]
      exact Ev.now _
    | cons a rest =>
      simp only [List.length_cons] at hq
      have h1 : (((a :: rest).length : Int) > 0) = True := eq_true (by simp only [List.length_cons]; omega)
      have h2 : (0 < ((a :: rest).length : Int)) = True := eq_true (by simp only [List.length_cons]; omega)
      have h3 : (1 ≤ ((a :: rest).length : Int)) = True := eq_true (by simp only [List.length_cons]; omega)
      refine Ev.succ ?_
      simp only [impl_below.l0, h1, h2, h3, if_true]
      have hrd : rd (a :: rest) 0 = a := rfl
      have hdr : (a :: rest).drop 1 = rest := rfl
      rw [hrd, hdr]
      refine below_in l hl a c0 c1 c2 c3 c4 c5 _ l.length 0 b0 b1 b2 b3 b4 b5 rest (by omega) (by omega) fun e0 e1 e2 e3 e4 e5 q' he => ?_
      rw [List.drop_zero] at he
      have hp := popX_len2 l a ([b0, b1, b2, b3, b4, b5], rest)
      rw [he] at hp
      simp only at hp
      refine ih q' e0 e1 e2 e3 e4 e5 (by omega) ?_
      have h' : bfsX l n (popX l a ([b0, b1, b2, b3, b4, b5], rest)).2 (popX l a ([b0, b1, b2, b3, b4, b5], rest)).1 = some [r0, r1, r2, r3, r4, r5] := h
      rw [he] at h'
      exact h'
theorem six {r : List Bool} (h : r.length = 6) : ∃ r0 r1 r2 r3 r4 r5, r = [r0, r1, r2, r3, r4, r5] := by
  match r, h with
  | [a, b, c, d, e, f], _ => exact ⟨a, b, c, d, e, f, rfl⟩
theorem impl_below_ev (l : List S208) (hl : l.length ≤ 1048576) (a : Int) (ha : roleB a = true) : ∃ r0 r1 r2 r3 r4 r5, Ev (fun k => impl_below.f k l a) (r0, r1, r2, r3, r4, r5) ∧ bfsX l 8 [a] (List.replicate 6 false) = some [r0, r1, r2, r3, r4, r5] := by
  obtain ⟨r, e, hr, -⟩ := below_spec l a ha 8 (by omega)
  obtain ⟨r0, r1, r2, r3, r4, r5, rfl⟩ := six hr
  exact ⟨r0, r1, r2, r3, r4, r5, below_out l hl _ _ _ _ _ _ _ _ _ _ _ _ 8 [a] _ _ _ _ _ _ (by simp) e, e⟩

-- impl_ArePairs
theorem impl_ArePairs_ev (l : List S208) (h : l.length ≤ 1048576) : Ev (fun k => impl_ArePairs.f k l) (pairsB l) := by
  have hb := fun r hr => below_spec l r hr 8 (by omega)
  have e0 : (l.all (fun x => roleB x.f0 && (roleB x.f1 && !mkR ((bfsX l 8 [x.f0] (List.replicate 6 false)).getD []) x.f0)) && decide ((l.length : Int) ≤ 10)) = pairsB l := by
    rw [pairs_alike l]
    · rfl
    intro x
    simp only [Bool.and_eq_true, Bool.not_eq_true']
    constructor
    · rintro ⟨h1, h2, h3⟩
      obtain ⟨m, e, _, hm⟩ := hb x.f0 h1
      rw [e, Option.getD_some] at h3
      exact ⟨h1, h2, fun hc => by rw [(hm _ h1).2 hc] at h3; cases h3⟩
    · rintro ⟨h1, h2, h3⟩
      obtain ⟨m, e, _, hm⟩ := hb x.f0 h1
      rw [e, Option.getD_some]
      refine ⟨h1, h2, ?_⟩
      cases hc : mkR m x.f0 with
      | false => rfl
      | true => exact absurd ((hm _ h1).1 hc) h3
  rw [← e0]
  unfold impl_ArePairs.f
  have key : ∀ (d i : Nat), i + d = l.length → Ev (fun k => impl_ArePairs.l0 k l l (l.length : Int) (i : Int)) ((l.drop i).all (fun x => roleB x.f0 && (roleB x.f1 && !mkR ((bfsX l 8 [x.f0] (List.replicate 6 false)).getD []) x.f0)) && decide ((l.length : Int) ≤ 10)) := by
    intro d
    induction d with
    | zero =>
      intro i hi
      obtain rfl : i = l.length := by omega
      refine Ev.succ ?_
      simp only [impl_ArePairs.l0, Int.lt_irrefl, if_false, List.drop_length, List.all_nil, Bool.true_and]
      exact Ev.now _
    | succ d ih =>
      intro i hi
      have hil : i < l.length := by omega
      obtain ⟨x, hx⟩ := getAt (l := l) (i := i) hil
      have hd : l.drop i = x :: l.drop (i + 1) := by
        rw [List.drop_eq_getElem_cons hil]
        rw [List.getElem?_eq_getElem hil] at hx
        rw [Option.some.inj hx]
      have h1 : ((i : Int) < (l.length : Int)) = True := eq_true (by omega)
      have h2 : (0 ≤ (i : Int)) = True := eq_true (by omega)
      have ih := ih (i + 1) (by omega)
      rw [hd, List.all_cons]
      refine Ev.succ ?_
      simp only [impl_ArePairs.l0, h1, h2, if_true, rd_at_T208 hx, wr1 hil (by omega), isRole_role, Option.bind_some]
      cases q1 : roleB x.f0 with
      | false => simp only [Bool.false_eq_true, if_false, Bool.false_and]; exact Ev.now _
      | true =>
        cases q2 : roleB x.f1 with
        | false => simp only [Bool.false_eq_true, if_false, if_true, Bool.false_and, Bool.true_and]; exact Ev.now _
        | true =>
          obtain ⟨r0, r1, r2, r3, r4, r5, ev, eb⟩ := impl_below_ev l h x.f0 q1
          simp only [if_true, Bool.true_and, eb, Option.getD_some]
          refine Ev.bind ev ?_
          have hr' := roleB_iff.1 q1
          have hc : x.f0 = 0 ∨ x.f0 = 1 ∨ x.f0 = 2 ∨ x.f0 = 3 ∨ x.f0 = 4 ∨ x.f0 = 5 := by omega
          have fin : ∀ (b : Bool), mkR [r0, r1, r2, r3, r4, r5] x.f0 = b → Ev (fun k => if b = true then some false else impl_ArePairs.l0 k l l (l.length : Int) ((i + 1 : Nat) : Int)) ((!mkR [r0, r1, r2, r3, r4, r5] x.f0 && (l.drop (i + 1)).all (fun x => roleB x.f0 && (roleB x.f1 && !mkR ((bfsX l 8 [x.f0] (List.replicate 6 false)).getD []) x.f0))) && decide ((l.length : Int) ≤ 10)) := by
            intro b hb
            rw [hb]
            cases b with
            | true => simp only [if_true, Bool.not_true, Bool.false_and]; exact Ev.now _
            | false => simp only [Bool.false_eq_true, if_false, Bool.not_false, Bool.true_and]; exact ih
          rcases hc with e | e | e | e | e | e <;> simp only [e, if_true, Int.reduceEq, if_false] <;> (rw [e] at fin) <;> exact fin _ rfl
  have := key l.length 0 (by omega)
  rwa [List.drop_zero] at this

-- impl_SizeOf
theorem impl_SizeOf_evN (N : Nat) : ∀ x : S219, n219 x ≤ N → N ≤ 1048576 → Ev (fun k => impl_SizeOf.f k x.f0 x.f1 x.f2 x.f3) (1 + (n219 x : Int)) := by
  induction N using Nat.strongRecOn with
  | _ N ih =>
  intro x hx hN
  rw [n219_f] at hx ⊢
  have key : ∀ (d i : Nat) (s : Int), x.f3.length - i = d → i ≤ x.f3.length → 0 ≤ s → s + (((x.f3.drop i).length + ((x.f3.drop i).map n219).sum : Nat) : Int) ≤ 2000000 → Ev (fun k => impl_SizeOf.l0 k s x.f3 (x.f3.length : Int) (i : Int)) (s + (((x.f3.drop i).length + ((x.f3.drop i).map n219).sum : Nat) : Int)) := by
    intro d
    induction d with
    | zero =>
      intro i s hd hi h0 hs
      obtain rfl : i = x.f3.length := by omega
      refine Ev.succ ?_
      simp only [impl_SizeOf.l0, Int.lt_irrefl, if_false, List.drop_length, List.length_nil, List.map_nil, List.sum_nil]
      exact Ev.eqv (by omega) (Ev.now _)
    | succ d ih2 =>
      intro i s hd hi h0 hs
      have hi' : i < x.f3.length := by omega
      have hy : x.f3[i]? = some x.f3[i] := List.getElem?_eq_getElem hi'
      have hn := le_sum n219 hy
      rw [List.drop_eq_getElem_cons hi'] at hs ⊢
      simp only [List.length_cons, List.map_cons, List.sum_cons] at hs ⊢
      generalize x.f3[i] = y at hy hn hs ⊢
      have e := ih (n219 y) (by omega) y (Nat.le_refl _) (by omega)
      have h1 : ((i : Int) < (x.f3.length : Int)) = True := eq_true (by omega)
      have h2 : (0 ≤ (i : Int)) = True := eq_true (by omega)
      refine Ev.succ ?_
      simp only [impl_SizeOf.l0, h1, h2, if_true, rd_at_T219 hy, wr1 hi' (by omega)]
      refine Ev.bind e ?_
      rw [wr (show (-9223372036854775808 : Int) ≤ s + (1 + (n219 y : Int)) by omega) (by omega)]
      exact Ev.eqv (by omega) (ih2 (i + 1) (s + (1 + (n219 y : Int))) (by omega) (by omega) (by omega) (by omega))
  refine Ev.succ ?_
  simp only [impl_SizeOf.f]
  exact Ev.eqv (by rw [List.drop_zero]) (key x.f3.length 0 1 (by omega) (by omega) (by omega) (by rw [List.drop_zero]; omega))
theorem impl_SizeOf_ev (x : S219) (h : n219 x ≤ 1048576) : Ev (fun k => impl_SizeOf.f k x.f0 x.f1 x.f2 x.f3) (1 + (n219 x : Int)) := impl_SizeOf_evN _ x (Nat.le_refl _) h

-- impl_ArityOf
-- told elsewhere

-- impl_isNode
-- told elsewhere

-- impl_areNodes
-- told elsewhere

-- impl_IsCond
theorem impl_IsCond_ev (x : S219) (h : n219 x ≤ 1048576) : Ev (fun k => impl_IsCond.f k x.f0 x.f1 x.f2 x.f3) (condB x) := by
  have hv := (valid_evN _ x (Nat.le_refl _) h).2
  unfold impl_IsCond.f condB
  refine Ev.bind (impl_SizeOf_ev x h) ?_
  by_cases c : 1 + (n219 x : Int) ≤ 15
  · simp only [if_pos c, decide_eq_true c, Bool.true_and]
    exact Ev.bind hv (Ev.now _)
  · simp only [if_neg c, decide_eq_false c, Bool.false_and]
    exact Ev.now _

-- impl_IsName
theorem impl_IsName_eq (a : Int) : impl_IsName.f a = some (nameB a) := by
  unfold impl_IsName.f
  rw [impl_InRange_eq]; rfl

-- impl_KindOf
theorem impl_KindOf_eq (a : Int) : impl_KindOf.f a = some (if nameB a = true then a / 10 else 0) := by
  unfold impl_KindOf.f
  rw [impl_IsName_eq, Option.bind_some]
  cases h : nameB a with
  | true => simp only [if_true, name_div h]
  | false => rfl

-- impl_HasKind
theorem impl_HasKind_eq (a b : Int) : impl_HasKind.f a b = some (kindB a b) := by
  unfold impl_HasKind.f kindB
  rw [impl_IsName_eq, impl_KindOf_eq, Option.bind_some]
  cases h : nameB a with
  | true => simp only [if_true, Option.bind_some, Bool.true_and]; rfl
  | false => rfl

-- impl_IsRule
theorem impl_IsRule_ev (r : S221) (h : n221 r ≤ 1048576) : Ev (fun k => impl_IsRule.f k r.f0 r.f1 r.f2 r.f3.f0 r.f3.f1 r.f3.f2 r.f3.f3) (ruleB r) := by
  have hc := impl_IsCond_ev r.f3 (by have := rule_n r; omega)
  unfold impl_IsRule.f ruleB
  simp only [impl_InRange_eq, impl_HasKind_eq, Option.bind_some]
  refine Ev.bifT fun _ => Ev.bifT fun _ => ?_
  by_cases c : r.f2 = -1
  · simp only [if_pos c, beq_iff_eq.2 c, Bool.true_or, Bool.true_and]
    exact Ev.bind hc (Ev.now _)
  · simp only [if_neg c, beq_eq_false_iff_ne.2 c, Bool.false_or]
    exact Ev.bifT fun _ => Ev.bind hc (Ev.now _)

-- impl_IsPolicy
theorem impl_IsPolicy_ev (p : S109) (h : n109 p ≤ 1048576) : Ev (fun k => impl_IsPolicy.f k p.f0 p.f1) (policyB p) := by
  unfold n109 at h
  unfold impl_IsPolicy.f policyB
  simp only [impl_InRange_eq, Option.bind_some]
  have hI : Ev (fun k => slices_IndexFunc223_204.f k p.f1) (idxV (fun x => !ruleB x) p.f1 0) := by
    unfold slices_IndexFunc223_204.f
    refine idx_ev (fun k i => slices_IndexFunc223_204.l0 k p.f1 (p.f1.length : Int) i) (fun x => !ruleB x) p.f1 0 p.f1.length (by omega) ?_ ?_
    · refine Ev.succ ?_
      simp only [slices_IndexFunc223_204.l0, Int.lt_irrefl, if_false]
      exact Ev.now _
    · intro j x r _ hx
      rw [Nat.sub_zero] at hx
      have hj := lt_of_get hx
      have hn := le_sum n221 hx
      have h1 : ((j : Int) < (p.f1.length : Int)) = True := eq_true (by omega)
      have h2 : (0 ≤ (j : Int)) = True := eq_true (by omega)
      have hc : Ev (fun k => cl204.f k x.f0 x.f1 x.f2 x.f3.f0 x.f3.f1 x.f3.f2 x.f3.f3) (!ruleB x) := by
        unfold cl204.f
        exact Ev.bind (impl_IsRule_ev _ (by omega)) (Ev.now _)
      constructor
      · intro hq
        refine Ev.succ ?_
        simp only [slices_IndexFunc223_204.l0, h1, h2, if_true, rd_at_T221 hx]
        refine Ev.bind hc ?_
        simp only [hq, if_true]
        exact Ev.now _
      · intro hq he
        refine Ev.succ ?_
        simp only [slices_IndexFunc223_204.l0, h1, h2, if_true, rd_at_T221 hx, wr1 hj (by omega)]
        refine Ev.bind hc ?_
        simp only [hq, Bool.false_eq_true, if_false]
        exact he
  refine Ev.bifT fun _ => Ev.dand fun _ => ?_
  have hC : Ev (fun k => slices_ContainsFunc203_204.f k p.f1) (p.f1.any (fun x => !ruleB x)) := by
    unfold slices_ContainsFunc203_204.f
    exact Ev.bind hI (Ev.eqv (idxV_anyI (fun x => !ruleB x) p.f1 0 (by omega)) (Ev.now _))
  refine Ev.bind hC ?_
  refine Ev.eqv ?_ (Ev.now _)
  simp [List.any_eq_not_all_not]

-- impl_IsEpoch
theorem impl_IsEpoch_ev (e : S111) (h : n111 e ≤ 1048576) : Ev (fun k => impl_IsEpoch.f k e.f0 e.f1 e.f2 e.f3.f0 e.f3.f1) (epochB e) := by
  unfold n111 at h
  unfold impl_IsEpoch.f epochB
  simp only [impl_InRange_eq, impl_IsTime_eq, Option.bind_some]
  exact Ev.bifT fun _ => Ev.bifT fun _ => Ev.band (impl_ArePairs_ev e.f2 (by omega)) fun _ => Ev.band (impl_IsPolicy_ev e.f3 (by omega)) fun _ => Ev.now _

-- impl_AreEpochs
theorem impl_AreEpochs_ev (l : List S111) (h : l.length + (l.map n111).sum ≤ 1048576) : Ev (fun k => impl_AreEpochs.f k l) (epochsB l) := by
  unfold impl_AreEpochs.f epochsB
  refine ev_adj l epochB epochQ _ (fun k i => impl_AreEpochs.l0 k l l (l.length : Int) i) ?_ ?_ ?_
  · refine Ev.succ ?_
    simp only [impl_AreEpochs.l0, Int.lt_irrefl, if_false]
    exact Ev.now _
  · intro x r hx hr
    have hi := lt_of_get hx
    have h1 : ((0 : Int) < (l.length : Int)) = True := eq_true (by omega)
    have e := rd_at_T111 hx
    have e2 := wr1 hi (show l.length ≤ 9223372036854775807 by omega)
    simp only [Int.ofNat_zero, Int.natCast_zero] at e e2
    refine Ev.succ ?_
    simp only [impl_AreEpochs.l0, h1, if_true, Int.le_refl, gt_iff_lt, Int.lt_irrefl, if_false, e, e2, Option.bind_some]
    exact Ev.band (impl_IsEpoch_ev x (by have := le_sum n111 hx; omega)) fun _ => hr
  · intro i y x r hy hx hr
    have hi := lt_of_get hx
    have h1 : (((i + 1 : Nat) : Int) < (l.length : Int)) = True := eq_true (by omega)
    have h2 : (0 ≤ ((i + 1 : Nat) : Int)) = True := eq_true (by omega)
    have h3 : (((i + 1 : Nat) : Int) > 0) = True := eq_true (by omega)
    have h4 : (0 ≤ (i : Int)) = True := eq_true (by omega)
    have h5 : ((i : Int) < (l.length : Int)) = True := eq_true (by omega)
    refine Ev.succ ?_
    simp only [impl_AreEpochs.l0, h1, h2, h3, h4, h5, if_true, rd_at_T111 hx, rd_at_T111 hy, wr1 hi (show l.length ≤ 9223372036854775807 by omega), wrp hi (show l.length ≤ 9223372036854775807 by omega), Option.bind_some]
    exact Ev.band (impl_IsEpoch_ev x (by have := le_sum n111 hx; omega)) fun _ => epochQ_step fun _ => hr

theorem fold_from (t : Int) : ∀ (l : List S111) (s : Int), l.foldl (numStep t) s = s ∨ ∃ x ∈ l, l.foldl (numStep t) s = x.f0
  | [], s => .inl rfl
  | x :: l, s => by
    rw [List.foldl_cons]
    rcases fold_from t l (numStep t s x) with h | ⟨y, hy, h⟩
    · unfold numStep at h ⊢
      by_cases c : x.f1 ≤ t
      · rw [if_pos c] at h
        exact .inr ⟨x, List.mem_cons_self, by rw [if_pos c]; exact h⟩
      · rw [if_neg c] at h ⊢
        exact .inl h
    · exact .inr ⟨y, List.mem_cons_of_mem _ hy, h⟩
theorem find_mem {l : List S111} {x : S111} (h : x ∈ l) : ¬ findV l x.f0 < 0 := by
  rcases idxV_spec (fun y : S111 => y.f0 == x.f0) l with ⟨_, h2⟩ | ⟨j, y, h2, _⟩
  · have := h2 x h; simp at this
  · unfold findV; rw [h2]; omega
theorem adj_lt : ∀ (l : List S111), adjB epochB epochQ l = true → ∀ x ∈ l, timeB x.f1 = true := by
  have key : ∀ (l : List S111) (y : S111), adjT epochB epochQ y l = true → ∀ x ∈ l, timeB x.f1 = true := by
    intro l
    induction l with
    | nil => intro y _ x hx; simp at hx
    | cons z l ih =>
      intro y h x hx
      simp only [adjT, Bool.and_eq_true] at h
      rcases List.mem_cons.1 hx with rfl | hx
      · have := h.1; simp only [epochB, Bool.and_eq_true] at this; exact this.2.1
      · exact ih z h.2.2 x hx
  intro l h x hx
  cases l with
  | nil => simp at hx
  | cons z l =>
    simp only [adjB, Bool.and_eq_true] at h
    rcases List.mem_cons.1 hx with rfl | hx
    · have := h.1; simp only [epochB, Bool.and_eq_true] at this; exact this.2.1
    · exact key l z h.2 x hx
theorem adjT_gt : ∀ (l : List S111) (y : S111), adjT epochB epochQ y l = true → ∀ x ∈ l, y.f0 < x.f0
  | [], _, _, x, hx => by simp at hx
  | z :: l, y, h, x, hx => by
    simp only [adjT, Bool.and_eq_true, epochQ, Bool.not_eq_true', decide_eq_false_iff_not] at h
    rcases List.mem_cons.1 hx with rfl | hx
    · omega
    · have := adjT_gt l z h.2.2 x hx; omega
theorem adj_gt (l : List S111) (h : adjB epochB epochQ l = true) : ∀ (i j : Nat) (x y : S111), i < j → l[i]? = some x → l[j]? = some y → x.f0 < y.f0 := by
  have key : ∀ (l : List S111) (z : S111), adjT epochB epochQ z l = true → ∀ (i j : Nat) (x y : S111), i < j → (z :: l)[i]? = some x → (z :: l)[j]? = some y → x.f0 < y.f0 := by
    intro l
    induction l with
    | nil =>
      intro z _ i j x y hij hx hy
      cases j with
      | zero => omega
      | succ j => simp at hy
    | cons w l ih =>
      intro z h i j x y hij hx hy
      cases j with
      | zero => omega
      | succ j =>
        cases i with
        | zero =>
          simp only [List.getElem?_cons_zero, Option.some.injEq] at hx
          subst hx
          exact adjT_gt _ _ h y (List.mem_of_getElem? (by simpa using hy))
        | succ i =>
          simp only [adjT, Bool.and_eq_true] at h
          exact ih w h.2.2 i j x y (by omega) (by simpa using hx) (by simpa using hy)
  cases l with
  | nil => intro i j x y _ hx; simp at hx
  | cons z l =>
    simp only [adjB, Bool.and_eq_true] at h
    exact key l z h.2
/-- What is found at an epoch whose time has come is no older than it. -/
theorem num_ge (l : List S111) (t : Int) (j : Nat) (y : S111) (hy : l[j]? = some y) (ht : y.f1 ≤ t) (h : adjB epochB epochQ l = true) : y.f0 ≤ numV l t := by
  have hj := lt_of_get hy
  have e : l = l.take j ++ y :: l.drop (j + 1) := by
    have := List.getElem?_eq_getElem hj
    rw [hy] at this
    have e := List.drop_eq_getElem_cons hj
    rw [← Option.some.inj this] at e
    rw [← e, List.take_append_drop]
  have e2 : numV l t = (l.drop (j + 1)).foldl (numStep t) y.f0 := by
    unfold numV
    conv => lhs; rw [e]
    rw [List.foldl_append, List.foldl_cons]
    congr 1
    unfold numStep
    rw [if_pos ht]
  rw [e2]
  rcases fold_from t (l.drop (j + 1)) y.f0 with h2 | ⟨x, hx, h2⟩
  · omega
  · rw [h2]
    obtain ⟨i, hi⟩ := List.getElem?_of_mem hx
    rw [List.getElem?_drop] at hi
    have := adj_gt l h j (j + 1 + i) y x (by omega) hy hi
    omega
theorem end_le {a b : Int} (ha : timeB a = true) (hb : 0 ≤ b) : endB a b ≤ a + b := by
  have h := timeB_iff.1 ha
  unfold endB
  split
  · split <;> omega
  · omega
theorem FnLeases : laws_FnLeases.Pure := by
  intro l h1 h2
  refine Ev.rounds ?_
  unfold laws_FnLeases.f laws_big.f
  simp only [Option.bind_some, decide_eq_true_eq]
  by_cases c : (l.length : Int) > 1048576
  · simp only [if_pos c]; exact Ev.now _
  simp only [if_neg c]
  have hl : l.length ≤ 1048576 := by omega
  have may : Ev (fun k => (spec_DrawMayStillUse.f k l).bind fun t97 => ((impl_FindEpoch.f k t97.1 t97.2.1).bind fun t103 => ((impl_AreEpochs.f k t97.1).bind fun t105 => (if t105 = true then ((impl_MayStillUse.f k t97.1 t97.2.1 t97.2.2).bind fun t111 => (if t111 = true then (if t103 ≥ 0 then (if (wrap64 (t103 + 1)) ≥ (t97.1.length : Int) then (some true) else (if 0 ≤ (wrap64 (t103 + 1)) then (if (wrap64 (t103 + 1)) < (t97.1.length : Int) then (some (decide ((wrap64 ((rd_T111 t97.1 (wrap64 (t103 + 1))).f1 + 10)) ≥ t97.2.2))) else none) else none)) else (some false)) else (some true))) else (some true))))) true := by
    obtain ⟨a, n, w, e, ha, hx⟩ := spec_DrawMayStillUse_ev l hl
    refine Ev.bind e (Ev.bind (impl_FindEpoch_ev a n (by omega)) (Ev.bind (impl_AreEpochs_ev a (okE_all hx (by omega))) ?_))
    dsimp only
    cases ce : epochsB a with
    | false => simp only [Bool.false_eq_true, if_false]; exact Ev.now _
    | true =>
      simp only [if_true]
      refine Ev.bind (impl_MayStillUse_ev a n w (by omega)) ?_
      cases cs : stillV a n w with
      | false => simp only [Bool.false_eq_true, if_false]; exact Ev.now _
      | true =>
        simp only [if_true]
        have had : adjB epochB epochQ a = true := by unfold epochsB at ce; simp only [Bool.and_eq_true] at ce; exact ce.1
        unfold stillV at cs
        by_cases c0 : findV a n < 0
        · rw [if_pos c0] at cs; cases cs
        rw [if_neg c0] at cs
        have hin := findV_in a n
        have hw : wrap64 (findV a n + 1) = findV a n + 1 := wr (by omega) (by omega)
        rw [if_pos (show findV a n ≥ 0 by omega), hw]
        by_cases c1 : findV a n + 1 ≥ (a.length : Int)
        · rw [if_pos c1]; exact Ev.now _
        rw [if_neg c1, if_pos (show 0 ≤ findV a n + 1 by omega), if_pos (show findV a n + 1 < (a.length : Int) by omega)]
        refine Ev.eqv ?_ (Ev.now _)
        rcases idxV_spec (fun y : S111 => y.f0 == n) a with ⟨h3, _⟩ | ⟨j, x, h3, h4, h5, _⟩
        · unfold findV at c0; omega
        have hfj : findV a n = (j : Int) := h3
        rw [hfj] at c1 cs ⊢
        obtain ⟨y, hy⟩ := getAt (l := a) (i := j + 1) (by omega)
        have hrd : rd_T111 a ((j : Int) + 1) = y := by
          have := rd_at_T111 hy
          rw [← this]; rfl
        have hty := adj_lt a had y (List.mem_of_getElem? hy)
        have hty2 := timeB_iff.1 hty
        have hxn : x.f0 = n := by simpa using h5
        rw [hrd] at cs ⊢
        rw [wr (x := y.f1 + 10) (by omega) (by omega)]
        refine decide_eq_true ?_
        by_cases c2 : numV a w = n
        · by_cases c3 : y.f1 ≤ w
          · have h6 := num_ge a w (j + 1) y hy c3 had
            have h7 := adj_gt a had j (j + 1) x y (by omega) h4 hy
            omega
          · omega
        · rw [if_neg c2, if_pos (by omega)] at cs
          have := of_decide_eq_true cs
          have h6 := end_le hty (b := 10) (by omega)
          omega
  have ren : Ev (fun k => (spec_DrawRenewLease.f k l).bind fun t65 => ((impl_RenewLease.f k t65.1 t65.2.1 t65.2.2.1 t65.2.2.2.1 t65.2.2.2.2.1 t65.2.2.2.2.2).bind fun t75 => (if t75.2.2.2 = true then (if t75.1 < t65.1 then (some false) else ((spec_DrawMayStillUse.f k l).bind fun t97 => ((impl_FindEpoch.f k t97.1 t97.2.1).bind fun t103 => ((impl_AreEpochs.f k t97.1).bind fun t105 => (if t105 = true then ((impl_MayStillUse.f k t97.1 t97.2.1 t97.2.2).bind fun t111 => (if t111 = true then (if t103 ≥ 0 then (if (wrap64 (t103 + 1)) ≥ (t97.1.length : Int) then (some true) else (if 0 ≤ (wrap64 (t103 + 1)) then (if (wrap64 (t103 + 1)) < (t97.1.length : Int) then (some (decide ((wrap64 ((rd_T111 t97.1 (wrap64 (t103 + 1))).f1 + 10)) ≥ t97.2.2))) else none) else none)) else (some false)) else (some true))) else (some true)))))) else (if t75.1 = t65.1 ∧ t75.2.1 = t65.2.1 ∧ t75.2.2.1 = t65.2.2.1 then ((spec_DrawMayStillUse.f k l).bind fun t97 => ((impl_FindEpoch.f k t97.1 t97.2.1).bind fun t103 => ((impl_AreEpochs.f k t97.1).bind fun t105 => (if t105 = true then ((impl_MayStillUse.f k t97.1 t97.2.1 t97.2.2).bind fun t111 => (if t111 = true then (if t103 ≥ 0 then (if (wrap64 (t103 + 1)) ≥ (t97.1.length : Int) then (some true) else (if 0 ≤ (wrap64 (t103 + 1)) then (if (wrap64 (t103 + 1)) < (t97.1.length : Int) then (some (decide ((wrap64 ((rd_T111 t97.1 (wrap64 (t103 + 1))).f1 + 10)) ≥ t97.2.2))) else none) else none)) else (some false)) else (some true))) else (some true))))) else (some false))))) true := by
    obtain ⟨a, b, c, L, t, n, e, hL, hx⟩ := spec_DrawRenewLease_ev l hl
    refine Ev.bind e (Ev.bind (impl_RenewLease_ev a b c L t n (by omega)) ?_)
    unfold renewV
    by_cases cr : (takeLV L t n).2.2.2 = true ∧ ¬ (takeLV L t n).1 < a
    · rw [if_pos cr]
      simp only [if_true, if_neg cr.2]
      exact may
    · rw [if_neg cr]
      simp only [Bool.false_eq_true, if_false, and_self, if_true]
      exact may
  obtain ⟨L, t, n, e, hL, hx⟩ := spec_DrawTakeLease_ev l hl
  refine Ev.bind e (Ev.bind (impl_TakeLease_ev L t n (by omega)) ?_)
  unfold takeLV
  by_cases cl : leaseB (numV L t) t (endB t n) = true ∧ ¬ n < 0
  · rw [if_pos cl]
    simp only [if_true]
    refine Ev.bind (impl_NumberAt_ev L t (by omega)) ?_
    have hlb := cl.1
    have hlb2 := hlb
    unfold leaseB at hlb2
    simp only [Bool.and_eq_true, decide_eq_true_eq] at hlb2
    obtain ⟨q1, q2, q3, q4, q5⟩ := hlb2
    have t1 := timeB_iff.1 q2
    have t2 := timeB_iff.1 q3
    have n1 := inB_iff.1 q1
    have w1 : withB t (endB t n) t = true := by
      unfold withB
      simp only [Bool.and_eq_true]
      exact ⟨q2, q3, q2, inB_iff.2 ⟨Int.le_refl _, q4⟩⟩
    have w2 : withB t (endB t n) (wrap64 (endB t n + 1)) = false := by
      rw [wr (by omega) (by omega)]
      unfold withB
      have : inB (endB t n + 1) t (endB t n) = false := by
        cases q : inB (endB t n + 1) t (endB t n) with
        | false => rfl
        | true => have := inB_iff.1 q; omega
      rw [this]; simp
    have w3 : stillV L (numV L t) t = true := by
      have hm : ¬ findV L (numV L t) < 0 := by
        rcases fold_from t L 0 with h | ⟨x, hx, h⟩
        · have : numV L t = 0 := h
          omega
        · have : numV L t = x.f0 := h
          rw [this]; exact find_mem hx
      unfold stillV
      rw [if_neg hm, if_pos rfl]
    simp only [impl_IsInForce_eq, hlb, w1, w2, Option.bind_some, Bool.and_true, Bool.true_and, if_true, Bool.false_eq_true, if_false]
    refine Ev.bind (impl_MayStillUse_ev L (numV L t) t (by omega)) ?_
    rw [w3]
    simp only [if_true]
    exact ren
  · rw [if_neg cl]
    simp only [Bool.false_eq_true, if_false]
    exact ren

end Go.Proofs.Ytplfbjbbnjlnkaa.Pure
