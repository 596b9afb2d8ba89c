/- The law FnExactCenterTake answers true for all arguments, over numbers and lists alone: what each function computes, and that program and reference compute the same. No condition. -/
import Derived.Test.YtpdnnndedejlhaaGreatQFnExactCenterTakex0
import Derived.Test.YtpdnnndedejlhaaGreatL
namespace Go.Proofs.YtpdnnndedejlhaaGreat.Pure
open Go.RowKit Go.Proofs.YtpdnnndedejlhaaGreat.QFnExactCenterTake Go.Proofs.YtpdnnndedejlhaaGreatL Go.Proofs.YtpdnnndedejlhaaGreatW.PrintWords Go.Proofs.YtpdnnndedejlhaaGreatW.PrintLast
set_option linter.unusedVariables false
set_option linter.unusedSimpArgs false

def cv79 (x : S79) : S92 := ⟨x.f0, x.f1, x.f2⟩
def n79 (x : S79) : Nat := x.f1.length
def cv151 (x : S151) : S140 := ⟨x.f0, x.f1⟩
theorem eta161 (x : S161) : (⟨x.f0, x.f1, x.f2, x.f3⟩ : S161) = x := by cases x; rfl
mutual
def n161 : S161 → Nat
  | ⟨x0, x1, x2, x3⟩ => x3.length + nL161 x3
def nL161 : List S161 → Nat
  | [] => 0
  | x :: l => n161 x + nL161 l
end
theorem nL161_eq : ∀ l : List S161, nL161 l = (l.map n161).sum
  | [] => by simp [nL161]
  | x :: l => by simp [nL161, nL161_eq l]
theorem n161_f (x : S161) : n161 x = x.f3.length + (x.f3.map n161).sum := by
  cases x
  simp only [n161, nL161_eq]
mutual
def cv161 : S161 → S143
  | ⟨x0, x1, x2, x3⟩ => ⟨x0, x1, x2, cvL161 x3⟩
def cvL161 : List S161 → List S143
  | [] => []
  | x :: l => cv161 x :: cvL161 l
end
theorem cvL161_eq : ∀ l : List S161, cvL161 l = l.map cv161
  | [] => by simp [cvL161]
  | x :: l => by simp [cvL161, cvL161_eq l]
theorem cv161_f (x : S161) : cv161 x = ⟨x.f0, x.f1, x.f2, x.f3.map cv161⟩ := by
  cases x
  simp only [cv161, cvL161_eq]
def cv163 (x : S163) : S145 := ⟨x.f0, x.f1, x.f2, (cv161 x.f3)⟩
def n163 (x : S163) : Nat := n161 x.f3
def cv84 (x : S84) : S100 := ⟨x.f0, (x.f1.map cv163)⟩
def n84 (x : S84) : Nat := x.f1.length + (x.f1.map n163).sum
def cv86 (x : S86) : S102 := ⟨x.f0, x.f1, (x.f2.map cv151), (cv84 x.f3)⟩
def n86 (x : S86) : Nat := x.f2.length + n84 x.f3
def cv30 (x : S30) : S44 := ⟨x.f0, x.f1, x.f2, x.f3, x.f4, x.f5⟩
def cv107 (x : S107) : S105 := ⟨x.f0, x.f1⟩
def cv111 (x : S111) : S109 := ⟨x.f0, x.f1, x.f2, x.f3, x.f4, x.f5⟩
def cv28 (x : S28) : S40 := ⟨(x.f0.map cv79), (x.f1.map cv86), (x.f2.map cv30), (x.f3.map cv107), x.f4, (x.f5.map cv111)⟩
def n28 (x : S28) : Nat := x.f0.length + (x.f0.map n79).sum + x.f1.length + (x.f1.map n86).sum + x.f2.length + x.f3.length + x.f5.length
def n92 (x : S92) : Nat := x.f1.length
theorem eta143 (x : S143) : (⟨x.f0, x.f1, x.f2, x.f3⟩ : S143) = x := by cases x; rfl
mutual
def n143 : S143 → Nat
  | ⟨x0, x1, x2, x3⟩ => x3.length + nL143 x3
def nL143 : List S143 → Nat
  | [] => 0
  | x :: l => n143 x + nL143 l
end
theorem nL143_eq : ∀ l : List S143, nL143 l = (l.map n143).sum
  | [] => by simp [nL143]
  | x :: l => by simp [nL143, nL143_eq l]
theorem n143_f (x : S143) : n143 x = x.f3.length + (x.f3.map n143).sum := by
  cases x
  simp only [n143, nL143_eq]
def n145 (x : S145) : Nat := n143 x.f3
def n100 (x : S100) : Nat := x.f1.length + (x.f1.map n145).sum
def n102 (x : S102) : Nat := x.f2.length + n100 x.f3
def n40 (x : S40) : Nat := x.f0.length + (x.f0.map n92).sum + x.f1.length + (x.f1.map n102).sum + x.f2.length + x.f3.length + x.f5.length
def cv32 (x : S32) : S46 := ⟨(cv30 x.f0), x.f1⟩
theorem rd_at_T79 {l : List S79} {i : Nat} {x : S79} (h : l[i]? = some x) : rd_T79 l (i : Int) = x := getD_nat l _ i x h
theorem rd_at_T151 {l : List S151} {i : Nat} {x : S151} (h : l[i]? = some x) : rd_T151 l (i : Int) = x := getD_nat l _ i x h
theorem rd_at_T161 {l : List S161} {i : Nat} {x : S161} (h : l[i]? = some x) : rd_T161 l (i : Int) = x := getD_nat l _ i x h
theorem rd_at_T163 {l : List S163} {i : Nat} {x : S163} (h : l[i]? = some x) : rd_T163 l (i : Int) = x := getD_nat l _ i x h
theorem rd_at_T86 {l : List S86} {i : Nat} {x : S86} (h : l[i]? = some x) : rd_T86 l (i : Int) = x := getD_nat l _ i x h
theorem rd_at_T30 {l : List S30} {i : Nat} {x : S30} (h : l[i]? = some x) : rd_T30 l (i : Int) = x := getD_nat l _ i x h
theorem rd_at_T107 {l : List S107} {i : Nat} {x : S107} (h : l[i]? = some x) : rd_T107 l (i : Int) = x := getD_nat l _ i x h
theorem rd_at_T111 {l : List S111} {i : Nat} {x : S111} (h : l[i]? = some x) : rd_T111 l (i : Int) = x := getD_nat l _ i x h
theorem rd_at_T92 {l : List S92} {i : Nat} {x : S92} (h : l[i]? = some x) : rd_T92 l (i : Int) = x := getD_nat l _ i x h
theorem rd_at_T143 {l : List S143} {i : Nat} {x : S143} (h : l[i]? = some x) : rd_T143 l (i : Int) = x := getD_nat l _ i x h
theorem rd_at_T145 {l : List S145} {i : Nat} {x : S145} (h : l[i]? = some x) : rd_T145 l (i : Int) = x := getD_nat l _ i x h
theorem rd_at_T140 {l : List S140} {i : Nat} {x : S140} (h : l[i]? = some x) : rd_T140 l (i : Int) = x := getD_nat l _ i x h
theorem rd_at_T102 {l : List S102} {i : Nat} {x : S102} (h : l[i]? = some x) : rd_T102 l (i : Int) = x := getD_nat l _ i x h
theorem rd_at_T44 {l : List S44} {i : Nat} {x : S44} (h : l[i]? = some x) : rd_T44 l (i : Int) = x := getD_nat l _ i x h
theorem rd_at_T105 {l : List S105} {i : Nat} {x : S105} (h : l[i]? = some x) : rd_T105 l (i : Int) = x := getD_nat l _ i x h
theorem rd_at_T109 {l : List S109} {i : Nat} {x : S109} (h : l[i]? = some x) : rd_T109 l (i : Int) = x := getD_nat l _ i x h
def eqT140 (x y : S140) : Bool := (x.f0 == y.f0) && ((x.f1 == y.f1))
def eqT44 (x y : S44) : Bool := (x.f0 == y.f0) && ((x.f1 == y.f1) && ((x.f2 == y.f2) && ((x.f3 == y.f3) && ((x.f4 == y.f4) && ((x.f5 == y.f5))))))
def eqT105 (x y : S105) : Bool := (x.f0 == y.f0) && ((x.f1 == y.f1))
def eqT109 (x y : S109) : Bool := (x.f0 == y.f0) && ((x.f1 == y.f1) && ((x.f2 == y.f2) && ((x.f3 == y.f3) && ((x.f4 == y.f4) && ((x.f5 == y.f5))))))
def eqT46 (x y : S46) : Bool := (x.f0.f0 == y.f0.f0) && ((x.f0.f1 == y.f0.f1) && ((x.f0.f2 == y.f0.f2) && ((x.f0.f3 == y.f0.f3) && ((x.f0.f4 == y.f0.f4) && ((x.f0.f5 == y.f0.f5) && ((x.f1 == y.f1)))))))
theorem ncv79 (x : S79) : n92 (cv79 x) = n79 x := by
  simp only [cv79, n92, n79, List.length_map, List.map_map, Function.comp_def]
theorem ncvN161 (l : List S161) : (cvL161 l).length = l.length := by rw [cvL161_eq, List.length_map]
mutual
theorem ncv161 : ∀ x : S161, n143 (cv161 x) = n161 x
  | ⟨x0, x1, x2, x3⟩ => by simp only [cv161, n143, n161, ncvL161 x3, ncvN161 x3]
theorem ncvL161 : ∀ l : List S161, nL143 (cvL161 l) = nL161 l
  | [] => by simp [cvL161, nL143, nL161]
  | x :: l => by simp only [cvL161, nL143, nL161, ncv161 x, ncvL161 l]
end
theorem ncv163 (x : S163) : n145 (cv163 x) = n163 x := by
  simp only [cv163, n145, n163, List.length_map, List.map_map, Function.comp_def, ncv161]
theorem ncv84 (x : S84) : n100 (cv84 x) = n84 x := by
  simp only [cv84, n100, n84, List.length_map, List.map_map, Function.comp_def, ncv163]
theorem ncv86 (x : S86) : n102 (cv86 x) = n86 x := by
  simp only [cv86, n102, n86, List.length_map, List.map_map, Function.comp_def, ncv84]
theorem ncv28 (x : S28) : n40 (cv28 x) = n28 x := by
  simp only [cv28, n40, n28, List.length_map, List.map_map, Function.comp_def, ncv79, ncv86]

-- laws_szIntS
theorem laws_szIntS_le (l : List Int) (hl : l.length ≤ maxLen) (a : Int) (h0 : 0 ≤ a) (ha : a ≤ 2097152) : ∃ r, laws_szIntS.f l a = some r ∧ r ≤ 2097152 ∧ (0 ≤ r → r + (l.length : Nat) ≤ a) := by
  unfold laws_szIntS.f
  unfold maxLen at hl
  rw [wr (by omega) (by omega)]
  split
  · exact ⟨_, rfl, by omega, by omega⟩
  · exact ⟨_, rfl, by omega, by omega⟩

-- laws_szIssuer
theorem laws_szIssuer_le (x : S79) (hg : g79 x) (a : Int) (h0 : 0 ≤ a) (ha : a ≤ 2097152) : ∃ r, laws_szIssuer.f x.f0 x.f1 x.f2 a = some r ∧ r ≤ 2097152 ∧ (0 ≤ r → r + (n79 x : Nat) ≤ a) := by
  unfold g79 at hg
  unfold n79 laws_szIssuer.f
  obtain ⟨r0, e0, b0, s0⟩ := laws_szIntS_le x.f1 (by have := hg; simp_all) a (by omega) (by omega)
  rw [e0]; simp only [Option.bind_some]
  by_cases c0 : r0 < 0
  · rw [if_pos c0]; exact ⟨_, rfl, by omega, by omega⟩
  rw [if_neg c0]
  have s0' := s0 (by omega)
  exact ⟨_, rfl, by omega, by omega⟩

-- laws_szIssuerS
theorem laws_szIssuerS_le (l : List (S79)) (hl : l.length ≤ maxLen) (hg : ∀ y_ ∈ l, g79 y_) (a : Int) (h0 : 0 ≤ a) (ha : a ≤ 2097152) : ∃ r, Ev (fun k => laws_szIssuerS.f k l a) r ∧ r ≤ 2097152 ∧ (0 ≤ r → r + (l.length + (l.map n79).sum : Nat) ≤ a) := by
  unfold laws_szIssuerS.f
  unfold maxLen at hl
  rw [wr (by omega) (by omega)]
  by_cases c : a - (l.length : Int) < 0
  · simp only [if_pos c]; exact ⟨_, Ev.now _, by omega, by omega⟩
  simp only [if_neg c]
  have hend : ∀ a, Ev (fun k => laws_szIssuerS.l0 k l a (l.length : Int)) a := by
    intro a
    refine Ev.succ ?_
    simp only [laws_szIssuerS.l0, Int.lt_irrefl, if_false]
    exact Ev.now _
  have hstep : ∀ (i : Nat) (x : S79) (a : Int), l[i]? = some x → 0 ≤ a → a ≤ 2097152 → (∃ r, Ev (fun k => laws_szIssuerS.l0 k l a (i : Int)) r ∧ r < 0) ∨ ∃ a', 0 ≤ a' ∧ a' + n79 x ≤ a ∧ ∀ r, Ev (fun k => laws_szIssuerS.l0 k l a' ((i + 1 : Nat) : Int)) r → Ev (fun k => laws_szIssuerS.l0 k l a (i : Int)) r := by
    intro i x a hx h0 ha
    have hi := lt_of_get hx
    have h1 : ((i : Int) < (l.length : Int)) = True := eq_true (by omega)
    have h2 : (0 ≤ (i : Int)) = True := eq_true (by omega)
    obtain ⟨r, e, b, s⟩ := laws_szIssuer_le x (hg x (List.mem_of_getElem? hx)) a h0 ha
    by_cases c2 : r < 0
    · left
      refine ⟨-1, Ev.succ ?_, by omega⟩
      simp only [laws_szIssuerS.l0, h1, h2, if_true, rd_at_T79 hx, e, Option.bind_some, if_pos c2]
      exact Ev.now _
    · right
      have s' := s (by omega)
      refine ⟨r, by omega, by omega, fun r' hr => Ev.succ ?_⟩
      simp only [laws_szIssuerS.l0, h1, h2, if_true, rd_at_T79 hx, e, Option.bind_some, if_neg c2, wr1 hi (by omega)]
      exact hr
  obtain ⟨r, h1, h2, h3⟩ := ev_sz n79 l (fun k a i => laws_szIssuerS.l0 k l a i) 2097152 hend hstep (a - l.length) (by omega) (by omega)
  exact ⟨r, h1, h2, fun h => by have := h3 h; omega⟩

-- laws_szIncludesS
theorem laws_szIncludesS_le (l : List (S151)) (hl : l.length ≤ maxLen) (a : Int) (h0 : 0 ≤ a) (ha : a ≤ 2097152) : ∃ r, laws_szIncludesS.f l a = some r ∧ r ≤ 2097152 ∧ (0 ≤ r → r + (l.length : Nat) ≤ a) := by
  unfold laws_szIncludesS.f
  unfold maxLen at hl
  rw [wr (by omega) (by omega)]
  split
  · exact ⟨_, rfl, by omega, by omega⟩
  · exact ⟨_, rfl, by omega, by omega⟩

-- laws_szCondS
theorem gin161 {x : S161} (h : g161 x) : x.f3.length ≤ maxLen ∧ ∀ y ∈ x.f3, g161 y := by
  obtain ⟨k, h⟩ := h
  cases k with
  | zero => exact h.elim
  | succ k =>
    obtain ⟨_, _, _, h1, h2⟩ := (show GF161 _ x from h)
    exact ⟨h1, fun y hy => ⟨k, h2 y hy⟩⟩
theorem laws_szCondS_leN (N : Nat) : ∀ (l : List S161) (hl : l.length ≤ maxLen) (hg : ∀ y ∈ l, g161 y) (a : Int), 0 ≤ a → a ≤ 2097152 → a.toNat ≤ N → ∃ r, Ev (fun k => laws_szCondS.f k l a) r ∧ r ≤ 2097152 ∧ (0 ≤ r → r + (l.length + (l.map n161).sum : Nat) ≤ a) := by
  induction N using Nat.strongRecOn with
  | _ N ih =>
  intro l hl hg a h0 ha hN
  unfold maxLen at hl
  by_cases c : a - (l.length : Int) < 0
  · refine ⟨-1, Ev.succ ?_, by omega, by omega⟩
    simp only [laws_szCondS.f, wr (x := a - (l.length : Int)) (by omega) (by omega), if_pos c]
    exact Ev.now _
  have hend : ∀ a, Ev (fun k => laws_szCondS.l0 k l a (l.length : Int)) a := by
    intro a
    refine Ev.succ ?_
    simp only [laws_szCondS.l0, Int.lt_irrefl, if_false]
    exact Ev.now _
  have hstep : ∀ (i : Nat) (x : S161) (b : Int), l[i]? = some x → 0 ≤ b → b ≤ a - (l.length : Int) → (∃ r, Ev (fun k => laws_szCondS.l0 k l b (i : Int)) r ∧ r < 0) ∨ ∃ a', 0 ≤ a' ∧ a' + n161 x ≤ b ∧ ∀ r, Ev (fun k => laws_szCondS.l0 k l a' ((i + 1 : Nat) : Int)) r → Ev (fun k => laws_szCondS.l0 k l b (i : Int)) r := by
    intro i x b hx hb0 hba
    have hi := lt_of_get hx
    have h1 : ((i : Int) < (l.length : Int)) = True := eq_true (by omega)
    have h2 : (0 ≤ (i : Int)) = True := eq_true (by omega)
    have hgx := gin161 (hg x (List.mem_of_getElem? hx))
    obtain ⟨r, e, br, s⟩ := ih b.toNat (by omega) x.f3 hgx.1 hgx.2 b hb0 (by omega) (Nat.le_refl _)
    have e' : Ev (fun k => laws_szCond.f k x.f0 x.f1 x.f2 x.f3 b) (if r < 0 then -1 else r) := by
      refine Ev.succ ?_
      simp only [laws_szCond.f]
      refine Ev.bind e ?_
      by_cases c2 : r < 0
      · simp only [if_pos c2]; exact Ev.now _
      · simp only [if_neg c2]; exact Ev.now _
    by_cases c2 : r < 0
    · left
      rw [if_pos c2] at e'
      refine ⟨-1, Ev.succ ?_, by omega⟩
      simp only [laws_szCondS.l0, h1, h2, if_true, rd_at_T161 hx]
      refine Ev.bind e' ?_
      exact Ev.pos (by omega) (Ev.now _)
    · right
      rw [if_neg c2] at e'
      have s' := s (by omega)
      rw [← n161_f] at s'
      refine ⟨r, by omega, by omega, fun r' hr => Ev.succ ?_⟩
      simp only [laws_szCondS.l0, h1, h2, if_true, rd_at_T161 hx]
      refine Ev.bind e' ?_
      simp only [if_neg c2, wr1 hi (by omega)]
      exact hr
  obtain ⟨r, h1, h2, h3⟩ := ev_sz n161 l (fun k a i => laws_szCondS.l0 k l a i) (a - (l.length : Int)) hend hstep (a - (l.length : Int)) (by omega) (by omega)
  refine ⟨r, Ev.succ ?_, by omega, fun h => by have := h3 h; omega⟩
  simp only [laws_szCondS.f, wr (x := a - (l.length : Int)) (by omega) (by omega), if_neg c]
  exact h1
theorem laws_szCondS_le (l : List S161) (hl : l.length ≤ maxLen) (hg : ∀ y ∈ l, g161 y) (a : Int) (h0 : 0 ≤ a) (ha : a ≤ 2097152) : ∃ r, Ev (fun k => laws_szCondS.f k l a) r ∧ r ≤ 2097152 ∧ (0 ≤ r → r + (l.length + (l.map n161).sum : Nat) ≤ a) := laws_szCondS_leN _ l hl hg a h0 ha (Nat.le_refl _)
theorem laws_szCond_le (x : S161) (hg : g161 x) (a : Int) (h0 : 0 ≤ a) (ha : a ≤ 2097152) : ∃ r, Ev (fun k => laws_szCond.f k x.f0 x.f1 x.f2 x.f3 a) r ∧ r ≤ 2097152 ∧ (0 ≤ r → r + (n161 x : Nat) ≤ a) := by
  have hgx := gin161 hg
  obtain ⟨r, e, b, s⟩ := laws_szCondS_le x.f3 hgx.1 hgx.2 a h0 ha
  by_cases c : r < 0
  · refine ⟨-1, Ev.succ ?_, by omega, by omega⟩
    simp only [laws_szCond.f]
    refine Ev.bind e ?_
    simp only [if_pos c]; exact Ev.now _
  · refine ⟨r, Ev.succ ?_, b, fun h => by rw [n161_f]; exact s h⟩
    simp only [laws_szCond.f]
    refine Ev.bind e ?_
    simp only [if_neg c]; exact Ev.now _

-- laws_szCond


-- laws_szRule
theorem laws_szRule_le (x : S163) (hg : g163 x) (a : Int) (h0 : 0 ≤ a) (ha : a ≤ 2097152) : ∃ r, Ev (fun k => laws_szRule.f k x.f0 x.f1 x.f2 x.f3.f0 x.f3.f1 x.f3.f2 x.f3.f3 a) r ∧ r ≤ 2097152 ∧ (0 ≤ r → r + (n163 x : Nat) ≤ a) := by
  unfold g163 at hg
  unfold n163 laws_szRule.f
  obtain ⟨r0, e0, b0, s0⟩ := laws_szCond_le x.f3 (by have := hg; simp_all) a (by omega) (by omega)
  by_cases c0 : r0 < 0
  · exact ⟨-1, by refine Ev.bind e0 ?_; simp only [if_pos c0]; exact Ev.now _, by omega, by omega⟩
  have s0' := s0 (by omega)
  exact ⟨r0, by refine Ev.bind e0 ?_; simp only [if_neg c0]; exact Ev.now _, by omega, fun _ => by omega⟩

-- laws_szRuleS
theorem laws_szRuleS_le (l : List (S163)) (hl : l.length ≤ maxLen) (hg : ∀ y_ ∈ l, g163 y_) (a : Int) (h0 : 0 ≤ a) (ha : a ≤ 2097152) : ∃ r, Ev (fun k => laws_szRuleS.f k l a) r ∧ r ≤ 2097152 ∧ (0 ≤ r → r + (l.length + (l.map n163).sum : Nat) ≤ a) := by
  unfold laws_szRuleS.f
  unfold maxLen at hl
  rw [wr (by omega) (by omega)]
  by_cases c : a - (l.length : Int) < 0
  · simp only [if_pos c]; exact ⟨_, Ev.now _, by omega, by omega⟩
  simp only [if_neg c]
  have hend : ∀ a, Ev (fun k => laws_szRuleS.l0 k l a (l.length : Int)) a := by
    intro a
    refine Ev.succ ?_
    simp only [laws_szRuleS.l0, Int.lt_irrefl, if_false]
    exact Ev.now _
  have hstep : ∀ (i : Nat) (x : S163) (a : Int), l[i]? = some x → 0 ≤ a → a ≤ 2097152 → (∃ r, Ev (fun k => laws_szRuleS.l0 k l a (i : Int)) r ∧ r < 0) ∨ ∃ a', 0 ≤ a' ∧ a' + n163 x ≤ a ∧ ∀ r, Ev (fun k => laws_szRuleS.l0 k l a' ((i + 1 : Nat) : Int)) r → Ev (fun k => laws_szRuleS.l0 k l a (i : Int)) r := by
    intro i x a hx h0 ha
    have hi := lt_of_get hx
    have h1 : ((i : Int) < (l.length : Int)) = True := eq_true (by omega)
    have h2 : (0 ≤ (i : Int)) = True := eq_true (by omega)
    obtain ⟨r, e, b, s⟩ := laws_szRule_le x (hg x (List.mem_of_getElem? hx)) a h0 ha
    by_cases c2 : r < 0
    · left
      refine ⟨-1, Ev.succ ?_, by omega⟩
      simp only [laws_szRuleS.l0, h1, h2, if_true, rd_at_T163 hx]
      refine Ev.bind e ?_
      simp only [if_pos c2]
      exact Ev.now _
    · right
      have s' := s (by omega)
      refine ⟨r, by omega, by omega, fun r' hr => Ev.succ ?_⟩
      simp only [laws_szRuleS.l0, h1, h2, if_true, rd_at_T163 hx]
      refine Ev.bind e ?_
      simp only [if_neg c2, wr1 hi (by omega)]
      exact hr
  obtain ⟨r, h1, h2, h3⟩ := ev_sz n163 l (fun k a i => laws_szRuleS.l0 k l a i) 2097152 hend hstep (a - l.length) (by omega) (by omega)
  exact ⟨r, h1, h2, fun h => by have := h3 h; omega⟩

-- laws_szPolicy
theorem laws_szPolicy_le (x : S84) (hg : g84 x) (a : Int) (h0 : 0 ≤ a) (ha : a ≤ 2097152) : ∃ r, Ev (fun k => laws_szPolicy.f k x.f0 x.f1 a) r ∧ r ≤ 2097152 ∧ (0 ≤ r → r + (n84 x : Nat) ≤ a) := by
  unfold g84 at hg
  unfold n84 laws_szPolicy.f
  obtain ⟨r0, e0, b0, s0⟩ := laws_szRuleS_le x.f1 (by have := hg; simp_all) (by have := hg; simp_all) a (by omega) (by omega)
  by_cases c0 : r0 < 0
  · exact ⟨-1, by refine Ev.bind e0 ?_; simp only [if_pos c0]; exact Ev.now _, by omega, by omega⟩
  have s0' := s0 (by omega)
  exact ⟨r0, by refine Ev.bind e0 ?_; simp only [if_neg c0]; exact Ev.now _, by omega, fun _ => by omega⟩

-- laws_szEpoch
theorem laws_szEpoch_le (x : S86) (hg : g86 x) (a : Int) (h0 : 0 ≤ a) (ha : a ≤ 2097152) : ∃ r, Ev (fun k => laws_szEpoch.f k x.f0 x.f1 x.f2 x.f3.f0 x.f3.f1 a) r ∧ r ≤ 2097152 ∧ (0 ≤ r → r + (n86 x : Nat) ≤ a) := by
  unfold g86 at hg
  unfold n86 laws_szEpoch.f
  obtain ⟨r0, e0, b0, s0⟩ := laws_szIncludesS_le x.f2 (by have := hg; simp_all) a (by omega) (by omega)
  by_cases c0 : r0 < 0
  · exact ⟨-1, by simp only [e0, Option.bind_some]; simp only [if_pos c0]; exact Ev.now _, by omega, by omega⟩
  have s0' := s0 (by omega)
  obtain ⟨r1, e1, b1, s1⟩ := laws_szPolicy_le x.f3 (by have := hg; simp_all) r0 (by omega) (by omega)
  by_cases c1 : r1 < 0
  · exact ⟨-1, by simp only [e0, Option.bind_some]; simp only [if_neg c0]; refine Ev.bind e1 ?_; simp only [if_pos c1]; exact Ev.now _, by omega, by omega⟩
  have s1' := s1 (by omega)
  exact ⟨r1, by simp only [e0, Option.bind_some]; simp only [if_neg c0]; refine Ev.bind e1 ?_; simp only [if_neg c1]; exact Ev.now _, by omega, fun _ => by omega⟩

-- laws_szEpochS
theorem laws_szEpochS_le (l : List (S86)) (hl : l.length ≤ maxLen) (hg : ∀ y_ ∈ l, g86 y_) (a : Int) (h0 : 0 ≤ a) (ha : a ≤ 2097152) : ∃ r, Ev (fun k => laws_szEpochS.f k l a) r ∧ r ≤ 2097152 ∧ (0 ≤ r → r + (l.length + (l.map n86).sum : Nat) ≤ a) := by
  unfold laws_szEpochS.f
  unfold maxLen at hl
  rw [wr (by omega) (by omega)]
  by_cases c : a - (l.length : Int) < 0
  · simp only [if_pos c]; exact ⟨_, Ev.now _, by omega, by omega⟩
  simp only [if_neg c]
  have hend : ∀ a, Ev (fun k => laws_szEpochS.l0 k l a (l.length : Int)) a := by
    intro a
    refine Ev.succ ?_
    simp only [laws_szEpochS.l0, Int.lt_irrefl, if_false]
    exact Ev.now _
  have hstep : ∀ (i : Nat) (x : S86) (a : Int), l[i]? = some x → 0 ≤ a → a ≤ 2097152 → (∃ r, Ev (fun k => laws_szEpochS.l0 k l a (i : Int)) r ∧ r < 0) ∨ ∃ a', 0 ≤ a' ∧ a' + n86 x ≤ a ∧ ∀ r, Ev (fun k => laws_szEpochS.l0 k l a' ((i + 1 : Nat) : Int)) r → Ev (fun k => laws_szEpochS.l0 k l a (i : Int)) r := by
    intro i x a hx h0 ha
    have hi := lt_of_get hx
    have h1 : ((i : Int) < (l.length : Int)) = True := eq_true (by omega)
    have h2 : (0 ≤ (i : Int)) = True := eq_true (by omega)
    obtain ⟨r, e, b, s⟩ := laws_szEpoch_le x (hg x (List.mem_of_getElem? hx)) a h0 ha
    by_cases c2 : r < 0
    · left
      refine ⟨-1, Ev.succ ?_, by omega⟩
      simp only [laws_szEpochS.l0, h1, h2, if_true, rd_at_T86 hx]
      refine Ev.bind e ?_
      simp only [if_pos c2]
      exact Ev.now _
    · right
      have s' := s (by omega)
      refine ⟨r, by omega, by omega, fun r' hr => Ev.succ ?_⟩
      simp only [laws_szEpochS.l0, h1, h2, if_true, rd_at_T86 hx]
      refine Ev.bind e ?_
      simp only [if_neg c2, wr1 hi (by omega)]
      exact hr
  obtain ⟨r, h1, h2, h3⟩ := ev_sz n86 l (fun k a i => laws_szEpochS.l0 k l a i) 2097152 hend hstep (a - l.length) (by omega) (by omega)
  exact ⟨r, h1, h2, fun h => by have := h3 h; omega⟩

-- laws_szFactS
theorem laws_szFactS_le (l : List (S30)) (hl : l.length ≤ maxLen) (a : Int) (h0 : 0 ≤ a) (ha : a ≤ 2097152) : ∃ r, laws_szFactS.f l a = some r ∧ r ≤ 2097152 ∧ (0 ≤ r → r + (l.length : Nat) ≤ a) := by
  unfold laws_szFactS.f
  unfold maxLen at hl
  rw [wr (by omega) (by omega)]
  split
  · exact ⟨_, rfl, by omega, by omega⟩
  · exact ⟨_, rfl, by omega, by omega⟩

-- laws_szRevokedS
theorem laws_szRevokedS_le (l : List (S107)) (hl : l.length ≤ maxLen) (a : Int) (h0 : 0 ≤ a) (ha : a ≤ 2097152) : ∃ r, laws_szRevokedS.f l a = some r ∧ r ≤ 2097152 ∧ (0 ≤ r → r + (l.length : Nat) ≤ a) := by
  unfold laws_szRevokedS.f
  unfold maxLen at hl
  rw [wr (by omega) (by omega)]
  split
  · exact ⟨_, rfl, by omega, by omega⟩
  · exact ⟨_, rfl, by omega, by omega⟩

-- laws_szCertS
theorem laws_szCertS_le (l : List (S111)) (hl : l.length ≤ maxLen) (a : Int) (h0 : 0 ≤ a) (ha : a ≤ 2097152) : ∃ r, laws_szCertS.f l a = some r ∧ r ≤ 2097152 ∧ (0 ≤ r → r + (l.length : Nat) ≤ a) := by
  unfold laws_szCertS.f
  unfold maxLen at hl
  rw [wr (by omega) (by omega)]
  split
  · exact ⟨_, rfl, by omega, by omega⟩
  · exact ⟨_, rfl, by omega, by omega⟩

-- laws_szCenter
theorem laws_szCenter_le (x : S28) (hg : g28 x) (a : Int) (h0 : 0 ≤ a) (ha : a ≤ 2097152) : ∃ r, Ev (fun k => laws_szCenter.f k x.f0 x.f1 x.f2 x.f3 x.f4 x.f5 a) r ∧ r ≤ 2097152 ∧ (0 ≤ r → r + (n28 x : Nat) ≤ a) := by
  unfold g28 at hg
  unfold n28 laws_szCenter.f
  obtain ⟨r0, e0, b0, s0⟩ := laws_szIssuerS_le x.f0 (by have := hg; simp_all) (by have := hg; simp_all) a (by omega) (by omega)
  by_cases c0 : r0 < 0
  · exact ⟨-1, by refine Ev.bind e0 ?_; simp only [if_pos c0]; exact Ev.now _, by omega, by omega⟩
  have s0' := s0 (by omega)
  obtain ⟨r1, e1, b1, s1⟩ := laws_szEpochS_le x.f1 (by have := hg; simp_all) (by have := hg; simp_all) r0 (by omega) (by omega)
  by_cases c1 : r1 < 0
  · exact ⟨-1, by refine Ev.bind e0 ?_; simp only [if_neg c0]; refine Ev.bind e1 ?_; simp only [if_pos c1]; exact Ev.now _, by omega, by omega⟩
  have s1' := s1 (by omega)
  obtain ⟨r2, e2, b2, s2⟩ := laws_szFactS_le x.f2 (by have := hg; simp_all) r1 (by omega) (by omega)
  by_cases c2 : r2 < 0
  · exact ⟨-1, by refine Ev.bind e0 ?_; simp only [if_neg c0]; refine Ev.bind e1 ?_; simp only [if_neg c1]; simp only [e2, Option.bind_some]; simp only [if_pos c2]; exact Ev.now _, by omega, by omega⟩
  have s2' := s2 (by omega)
  obtain ⟨r3, e3, b3, s3⟩ := laws_szRevokedS_le x.f3 (by have := hg; simp_all) r2 (by omega) (by omega)
  by_cases c3 : r3 < 0
  · exact ⟨-1, by refine Ev.bind e0 ?_; simp only [if_neg c0]; refine Ev.bind e1 ?_; simp only [if_neg c1]; simp only [e2, Option.bind_some]; simp only [if_neg c2]; simp only [e3, Option.bind_some]; simp only [if_pos c3]; exact Ev.now _, by omega, by omega⟩
  have s3' := s3 (by omega)
  obtain ⟨r4, e4, b4, s4⟩ := laws_szCertS_le x.f5 (by have := hg; simp_all) r3 (by omega) (by omega)
  by_cases c4 : r4 < 0
  · exact ⟨-1, by refine Ev.bind e0 ?_; simp only [if_neg c0]; refine Ev.bind e1 ?_; simp only [if_neg c1]; simp only [e2, Option.bind_some]; simp only [if_neg c2]; simp only [e3, Option.bind_some]; simp only [if_neg c3]; simp only [e4, Option.bind_some]; simp only [if_pos c4]; exact Ev.now _, by omega, by omega⟩
  have s4' := s4 (by omega)
  exact ⟨r4, by refine Ev.bind e0 ?_; simp only [if_neg c0]; refine Ev.bind e1 ?_; simp only [if_neg c1]; simp only [e2, Option.bind_some]; simp only [if_neg c2]; simp only [e3, Option.bind_some]; simp only [if_neg c3]; simp only [e4, Option.bind_some]; simp only [if_neg c4]; exact Ev.now _, by omega, fun _ => by omega⟩

-- laws_toIntS
theorem laws_toIntS_ev (l : List Int) (h : l.length ≤ 2097152) : Ev (fun k => laws_toIntS.f k l) l := by
  unfold laws_toIntS.f
  have e : l = l.map id := by simp
  conv => rhs; rw [e]
  refine Ev.pos rfl (Ev.pos (by omega) (Ev.pos (by omega) ?_))
  refine ev_fill l id (fun k out i => laws_toIntS.l0 k l out i) ?_ ?_ _ (by simp)
  · intro out ho
    refine Ev.succ ?_
    simp only [laws_toIntS.l0, Int.lt_irrefl, if_false]
    exact Ev.now _
  · intro i x out r hx ho hr
    have hi := lt_of_get hx
    have h1 : ((i : Int) < (l.length : Int)) = True := eq_true (by omega)
    have h2 : (0 ≤ (i : Int)) = True := eq_true (by omega)
    have h3 : ((i : Int) < (out.length : Int)) = True := eq_true (by omega)
    refine Ev.succ ?_
    simp only [laws_toIntS.l0, h1, h2, h3, if_true, rd_nat l i x hx, wr1 hi (by omega), Int.toNat_natCast]
    exact hr

-- laws_toIssuer
theorem laws_toIssuer_ev (x : S79) (h : n79 x ≤ 2097152) : Ev (fun k => laws_toIssuer.f k x.f0 x.f1 x.f2) ((cv79 x).f0, (cv79 x).f1, (cv79 x).f2) := by
  unfold n79 at h
  unfold laws_toIssuer.f
  repeat (first | exact Ev.now _ | (refine Ev.bind (laws_toIntS_ev _ (by omega)) ?_; try simp only []))

-- laws_toIssuerS
theorem laws_toIssuerS_ev (l : List (S79)) (h : l.length + (l.map n79).sum ≤ 2097152) : Ev (fun k => laws_toIssuerS.f k l) (l.map cv79) := by
  unfold laws_toIssuerS.f
  refine Ev.pos rfl (Ev.pos (by omega) (Ev.pos (by omega) ?_))
  refine ev_fill l cv79 (fun k out i => laws_toIssuerS.l0 k l out i) ?_ ?_ _ (by simp)
  · intro out ho
    refine Ev.succ ?_
    simp only [laws_toIssuerS.l0, Int.lt_irrefl, if_false]
    exact Ev.now _
  · intro i x out r hx ho hr
    have hi := lt_of_get hx
    have h1 : ((i : Int) < (l.length : Int)) = True := eq_true (by omega)
    have h2 : (0 ≤ (i : Int)) = True := eq_true (by omega)
    have h3 : ((i : Int) < (out.length : Int)) = True := eq_true (by omega)
    refine Ev.succ ?_
    simp only [laws_toIssuerS.l0, h1, h2, h3, if_true, rd_at_T79 hx, wr1 hi (by omega), Int.toNat_natCast]
    refine Ev.bind (laws_toIssuer_ev x (by have := le_sum n79 hx; omega)) ?_
    simp only [h3, if_true]
    (try simp only [eta161, eta143])
    exact hr

-- laws_toIncludes
theorem laws_toIncludes_eq (x : S151) : laws_toIncludes.f x.f0 x.f1 = some ((cv151 x).f0, (cv151 x).f1) := by
  unfold laws_toIncludes.f
  first | rfl | (simp only [Option.bind_some]; rfl)

-- laws_toIncludesS
theorem laws_toIncludesS_ev (l : List (S151)) (h : l.length ≤ 2097152) : Ev (fun k => laws_toIncludesS.f k l) (l.map cv151) := by
  unfold laws_toIncludesS.f
  refine Ev.pos rfl (Ev.pos (by omega) (Ev.pos (by omega) ?_))
  refine ev_fill l cv151 (fun k out i => laws_toIncludesS.l0 k l out i) ?_ ?_ _ (by simp)
  · intro out ho
    refine Ev.succ ?_
    simp only [laws_toIncludesS.l0, Int.lt_irrefl, if_false]
    exact Ev.now _
  · intro i x out r hx ho hr
    have hi := lt_of_get hx
    have h1 : ((i : Int) < (l.length : Int)) = True := eq_true (by omega)
    have h2 : (0 ≤ (i : Int)) = True := eq_true (by omega)
    have h3 : ((i : Int) < (out.length : Int)) = True := eq_true (by omega)
    refine Ev.succ ?_
    simp only [laws_toIncludesS.l0, h1, h2, h3, if_true, rd_at_T151 hx, wr1 hi (by omega), Int.toNat_natCast, laws_toIncludes_eq x, Option.bind_some]
    exact hr

-- laws_toCondS
theorem laws_toCondS_evN (N : Nat) : ∀ l : List S161, l.length + (l.map n161).sum ≤ N → N ≤ 2097152 → Ev (fun k => laws_toCondS.f k l) (l.map cv161) := by
  induction N using Nat.strongRecOn with
  | _ N ih =>
  intro l h hN
  refine Ev.succ ?_
  simp only [laws_toCondS.f]
  refine Ev.pos (by first | trivial | rfl) (Ev.pos (by omega) (Ev.pos (by omega) ?_))
  refine ev_fill l cv161 (fun k out i => laws_toCondS.l0 k l out i) ?_ ?_ _ (by simp)
  · intro out ho
    refine Ev.succ ?_
    simp only [laws_toCondS.l0, Int.lt_irrefl, if_false]
    exact Ev.now _
  · intro i x out r hx ho hr
    have hi := lt_of_get hx
    have h1 : ((i : Int) < (l.length : Int)) = True := eq_true (by omega)
    have h2 : (0 ≤ (i : Int)) = True := eq_true (by omega)
    have h3 : ((i : Int) < (out.length : Int)) = True := eq_true (by omega)
    have hn := le_sum n161 hx
    rw [n161_f] at hn
    have e := ih (x.f3.length + (x.f3.map n161).sum) (by omega) x.f3 (Nat.le_refl _) (by omega)
    have e' : Ev (fun k => laws_toCond.f k x.f0 x.f1 x.f2 x.f3) (x.f0, x.f1, x.f2, x.f3.map cv161) := by
      refine Ev.succ ?_
      simp only [laws_toCond.f]
      refine Ev.bind e ?_
      exact Ev.now _
    refine Ev.succ ?_
    simp only [laws_toCondS.l0, h1, h2, if_true, rd_at_T161 hx, wr1 hi (by omega), Int.toNat_natCast]
    refine Ev.bind e' ?_
    simp only [h3, if_true]
    rw [cv161_f] at hr
    exact hr
theorem laws_toCondS_ev (l : List S161) (h : l.length + (l.map n161).sum ≤ 2097152) : Ev (fun k => laws_toCondS.f k l) (l.map cv161) := laws_toCondS_evN _ l (Nat.le_refl _) h
theorem laws_toCond_ev (x : S161) (h : n161 x ≤ 2097152) : Ev (fun k => laws_toCond.f k x.f0 x.f1 x.f2 x.f3) ((cv161 x).f0, (cv161 x).f1, (cv161 x).f2, (cv161 x).f3) := by
  rw [n161_f] at h
  rw [cv161_f]
  refine Ev.succ ?_
  simp only [laws_toCond.f]
  refine Ev.bind (laws_toCondS_ev x.f3 h) ?_
  exact Ev.now _

-- laws_toCond


-- laws_toRule
theorem laws_toRule_ev (x : S163) (h : n163 x ≤ 2097152) : Ev (fun k => laws_toRule.f k x.f0 x.f1 x.f2 x.f3.f0 x.f3.f1 x.f3.f2 x.f3.f3) ((cv163 x).f0, (cv163 x).f1, (cv163 x).f2, (cv163 x).f3.f0, (cv163 x).f3.f1, (cv163 x).f3.f2, (cv163 x).f3.f3) := by
  unfold n163 at h
  unfold laws_toRule.f
  repeat (first | exact Ev.now _ | (refine Ev.bind (laws_toCond_ev _ (by omega)) ?_; try simp only []))

-- laws_toRuleS
theorem laws_toRuleS_ev (l : List (S163)) (h : l.length + (l.map n163).sum ≤ 2097152) : Ev (fun k => laws_toRuleS.f k l) (l.map cv163) := by
  unfold laws_toRuleS.f
  refine Ev.pos rfl (Ev.pos (by omega) (Ev.pos (by omega) ?_))
  refine ev_fill l cv163 (fun k out i => laws_toRuleS.l0 k l out i) ?_ ?_ _ (by simp)
  · intro out ho
    refine Ev.succ ?_
    simp only [laws_toRuleS.l0, Int.lt_irrefl, if_false]
    exact Ev.now _
  · intro i x out r hx ho hr
    have hi := lt_of_get hx
    have h1 : ((i : Int) < (l.length : Int)) = True := eq_true (by omega)
    have h2 : (0 ≤ (i : Int)) = True := eq_true (by omega)
    have h3 : ((i : Int) < (out.length : Int)) = True := eq_true (by omega)
    refine Ev.succ ?_
    simp only [laws_toRuleS.l0, h1, h2, h3, if_true, rd_at_T163 hx, wr1 hi (by omega), Int.toNat_natCast]
    refine Ev.bind (laws_toRule_ev x (by have := le_sum n163 hx; omega)) ?_
    simp only [h3, if_true]
    (try simp only [eta161, eta143])
    exact hr

-- laws_toPolicy
theorem laws_toPolicy_ev (x : S84) (h : n84 x ≤ 2097152) : Ev (fun k => laws_toPolicy.f k x.f0 x.f1) ((cv84 x).f0, (cv84 x).f1) := by
  unfold n84 at h
  unfold laws_toPolicy.f
  repeat (first | exact Ev.now _ | (refine Ev.bind (laws_toRuleS_ev _ (by omega)) ?_; try simp only []))

-- laws_toEpoch
theorem laws_toEpoch_ev (x : S86) (h : n86 x ≤ 2097152) : Ev (fun k => laws_toEpoch.f k x.f0 x.f1 x.f2 x.f3.f0 x.f3.f1) ((cv86 x).f0, (cv86 x).f1, (cv86 x).f2, (cv86 x).f3.f0, (cv86 x).f3.f1) := by
  unfold n86 at h
  unfold laws_toEpoch.f
  repeat (first | exact Ev.now _ | (refine Ev.bind (laws_toIncludesS_ev _ (by omega)) ?_; try simp only []) | (refine Ev.bind (laws_toPolicy_ev _ (by omega)) ?_; try simp only []))

-- laws_toEpochS
theorem laws_toEpochS_ev (l : List (S86)) (h : l.length + (l.map n86).sum ≤ 2097152) : Ev (fun k => laws_toEpochS.f k l) (l.map cv86) := by
  unfold laws_toEpochS.f
  refine Ev.pos rfl (Ev.pos (by omega) (Ev.pos (by omega) ?_))
  refine ev_fill l cv86 (fun k out i => laws_toEpochS.l0 k l out i) ?_ ?_ _ (by simp)
  · intro out ho
    refine Ev.succ ?_
    simp only [laws_toEpochS.l0, Int.lt_irrefl, if_false]
    exact Ev.now _
  · intro i x out r hx ho hr
    have hi := lt_of_get hx
    have h1 : ((i : Int) < (l.length : Int)) = True := eq_true (by omega)
    have h2 : (0 ≤ (i : Int)) = True := eq_true (by omega)
    have h3 : ((i : Int) < (out.length : Int)) = True := eq_true (by omega)
    refine Ev.succ ?_
    simp only [laws_toEpochS.l0, h1, h2, h3, if_true, rd_at_T86 hx, wr1 hi (by omega), Int.toNat_natCast]
    refine Ev.bind (laws_toEpoch_ev x (by have := le_sum n86 hx; omega)) ?_
    simp only [h3, if_true]
    (try simp only [eta161, eta143])
    exact hr

-- laws_toFact
theorem laws_toFact_eq (x : S30) : laws_toFact.f x.f0 x.f1 x.f2 x.f3 x.f4 x.f5 = some ((cv30 x).f0, (cv30 x).f1, (cv30 x).f2, (cv30 x).f3, (cv30 x).f4, (cv30 x).f5) := by
  unfold laws_toFact.f
  first | rfl | (simp only [Option.bind_some]; rfl)

-- laws_toFactS
theorem laws_toFactS_ev (l : List (S30)) (h : l.length ≤ 2097152) : Ev (fun k => laws_toFactS.f k l) (l.map cv30) := by
  unfold laws_toFactS.f
  refine Ev.pos rfl (Ev.pos (by omega) (Ev.pos (by omega) ?_))
  refine ev_fill l cv30 (fun k out i => laws_toFactS.l0 k l out i) ?_ ?_ _ (by simp)
  · intro out ho
    refine Ev.succ ?_
    simp only [laws_toFactS.l0, Int.lt_irrefl, if_false]
    exact Ev.now _
  · intro i x out r hx ho hr
    have hi := lt_of_get hx
    have h1 : ((i : Int) < (l.length : Int)) = True := eq_true (by omega)
    have h2 : (0 ≤ (i : Int)) = True := eq_true (by omega)
    have h3 : ((i : Int) < (out.length : Int)) = True := eq_true (by omega)
    refine Ev.succ ?_
    simp only [laws_toFactS.l0, h1, h2, h3, if_true, rd_at_T30 hx, wr1 hi (by omega), Int.toNat_natCast, laws_toFact_eq x, Option.bind_some]
    exact hr

-- laws_toRevoked
theorem laws_toRevoked_eq (x : S107) : laws_toRevoked.f x.f0 x.f1 = some ((cv107 x).f0, (cv107 x).f1) := by
  unfold laws_toRevoked.f
  first | rfl | (simp only [Option.bind_some]; rfl)

-- laws_toRevokedS
theorem laws_toRevokedS_ev (l : List (S107)) (h : l.length ≤ 2097152) : Ev (fun k => laws_toRevokedS.f k l) (l.map cv107) := by
  unfold laws_toRevokedS.f
  refine Ev.pos rfl (Ev.pos (by omega) (Ev.pos (by omega) ?_))
  refine ev_fill l cv107 (fun k out i => laws_toRevokedS.l0 k l out i) ?_ ?_ _ (by simp)
  · intro out ho
    refine Ev.succ ?_
    simp only [laws_toRevokedS.l0, Int.lt_irrefl, if_false]
    exact Ev.now _
  · intro i x out r hx ho hr
    have hi := lt_of_get hx
    have h1 : ((i : Int) < (l.length : Int)) = True := eq_true (by omega)
    have h2 : (0 ≤ (i : Int)) = True := eq_true (by omega)
    have h3 : ((i : Int) < (out.length : Int)) = True := eq_true (by omega)
    refine Ev.succ ?_
    simp only [laws_toRevokedS.l0, h1, h2, h3, if_true, rd_at_T107 hx, wr1 hi (by omega), Int.toNat_natCast, laws_toRevoked_eq x, Option.bind_some]
    exact hr

-- laws_toCert
theorem laws_toCert_eq (x : S111) : laws_toCert.f x.f0 x.f1 x.f2 x.f3 x.f4 x.f5 = some ((cv111 x).f0, (cv111 x).f1, (cv111 x).f2, (cv111 x).f3, (cv111 x).f4, (cv111 x).f5) := by
  unfold laws_toCert.f
  first | rfl | (simp only [Option.bind_some]; rfl)

-- laws_toCertS
theorem laws_toCertS_ev (l : List (S111)) (h : l.length ≤ 2097152) : Ev (fun k => laws_toCertS.f k l) (l.map cv111) := by
  unfold laws_toCertS.f
  refine Ev.pos rfl (Ev.pos (by omega) (Ev.pos (by omega) ?_))
  refine ev_fill l cv111 (fun k out i => laws_toCertS.l0 k l out i) ?_ ?_ _ (by simp)
  · intro out ho
    refine Ev.succ ?_
    simp only [laws_toCertS.l0, Int.lt_irrefl, if_false]
    exact Ev.now _
  · intro i x out r hx ho hr
    have hi := lt_of_get hx
    have h1 : ((i : Int) < (l.length : Int)) = True := eq_true (by omega)
    have h2 : (0 ≤ (i : Int)) = True := eq_true (by omega)
    have h3 : ((i : Int) < (out.length : Int)) = True := eq_true (by omega)
    refine Ev.succ ?_
    simp only [laws_toCertS.l0, h1, h2, h3, if_true, rd_at_T111 hx, wr1 hi (by omega), Int.toNat_natCast, laws_toCert_eq x, Option.bind_some]
    exact hr

-- laws_toCenter
theorem laws_toCenter_ev (x : S28) (h : n28 x ≤ 2097152) : Ev (fun k => laws_toCenter.f k x.f0 x.f1 x.f2 x.f3 x.f4 x.f5) ((cv28 x).f0, (cv28 x).f1, (cv28 x).f2, (cv28 x).f3, (cv28 x).f4, (cv28 x).f5) := by
  unfold n28 at h
  unfold laws_toCenter.f
  repeat (first | exact Ev.now _ | (refine Ev.bind (laws_toIssuerS_ev _ (by omega)) ?_; try simp only []) | (refine Ev.bind (laws_toEpochS_ev _ (by omega)) ?_; try simp only []) | (refine Ev.bind (laws_toFactS_ev _ (by omega)) ?_; try simp only []) | (refine Ev.bind (laws_toRevokedS_ev _ (by omega)) ?_; try simp only []) | (refine Ev.bind (laws_toCertS_ev _ (by omega)) ?_; try simp only []))

-- laws_toStated
theorem laws_toStated_eq (x : S32) : laws_toStated.f x.f0.f0 x.f0.f1 x.f0.f2 x.f0.f3 x.f0.f4 x.f0.f5 x.f1 = some ((cv32 x).f0.f0, (cv32 x).f0.f1, (cv32 x).f0.f2, (cv32 x).f0.f3, (cv32 x).f0.f4, (cv32 x).f0.f5, (cv32 x).f1) := by
  unfold laws_toStated.f
  first | rfl | (simp only [Option.bind_some]; rfl)

-- spec_l8Copy
theorem spec_l8Copy_ev (l : List S92) (h : l.length ≤ 2097152) (hn : ∀ x ∈ l, x.f1.length ≤ 2097152) : Ev (fun k => spec_l8Copy.f k l) l := by
  unfold spec_l8Copy.f
  have key : ∀ (d i : Nat), l.length - i = d → i ≤ l.length → Ev (fun k => spec_l8Copy.l0 k l (l.take i) (i : Int)) l := by
    intro d
    induction d with
    | zero =>
      intro i hd hi
      obtain rfl : i = l.length := by omega
      refine Ev.succ ?_
      simp only [spec_l8Copy.l0, Int.lt_irrefl, if_false, List.take_length]
      exact Ev.now _
    | succ d ihd =>
      intro i hd hi
      have hi' : i < l.length := by omega
      obtain ⟨y, hy⟩ := getAt (l := l) (i := i) hi'
      have h1 : ((i : Int) < (l.length : Int)) = True := eq_true (by omega)
      have h2 : (0 ≤ (i : Int)) = True := eq_true (by omega)
      have h3 : ((l.take i).length < 3518437208883) = True := eq_true (by rw [List.length_take]; omega)
      have h4 : (0 + y.f1.length ≤ 17592186044416) = True := eq_true (by have := hn y (List.mem_of_getElem? hy); omega)
      have e3 : l.take i ++ [y] = l.take (i + 1) := by rw [List.take_add_one, hy]; rfl
      refine Ev.succ ?_
      simp only [spec_l8Copy.l0, h1, h2, h3, h4, if_true, rd_at_T92 hy, wr1 hi' (by omega), List.nil_append, e3]
      exact ihd (i + 1) (by omega) (by omega)
  exact key l.length 0 (by omega) (by omega)

-- spec_l15Copy
theorem copyC_evN (N : Nat) : ∀ x : S143, n143 x ≤ N → N ≤ 2097152 → Ev (fun k => spec_l15Copy.f k x.f0 x.f1 x.f2 x.f3) (x.f0, x.f1, x.f2, x.f3) := by
  induction N using Nat.strongRecOn with
  | _ N ih =>
  intro x h hN
  rw [n143_f] at h
  refine Ev.succ ?_
  simp only [spec_l15Copy.f]
  have key : ∀ (d i : Nat), x.f3.length - i = d → i ≤ x.f3.length → Ev (fun k => spec_l15Copy.l0 k x.f0 x.f1 x.f2 x.f3 0 0 0 [] x.f0 x.f1 x.f2 (x.f3.take i) (i : Int)) (x.f0, x.f1, x.f2, x.f3) := by
    intro d
    induction d with
    | zero =>
      intro i hd hi
      obtain rfl : i = x.f3.length := by omega
      refine Ev.succ ?_
      simp only [spec_l15Copy.l0, Int.lt_irrefl, if_false, List.take_length]
      exact Ev.now _
    | succ d ihd =>
      intro i hd hi
      have hi' : i < x.f3.length := by omega
      obtain ⟨y, hy⟩ := getAt (l := x.f3) (i := i) hi'
      have hn := le_sum n143 hy
      have h1 : ((i : Int) < (x.f3.length : Int)) = True := eq_true (by omega)
      have h2 : (0 ≤ (i : Int)) = True := eq_true (by omega)
      have h3 : ((x.f3.take i).length < 2932031007402) = True := eq_true (by rw [List.length_take]; omega)
      have e := ih (n143 y) (by omega) y (Nat.le_refl _) (by omega)
      have e3 : x.f3.take i ++ [y] = x.f3.take (i + 1) := by rw [List.take_add_one, hy]; rfl
      refine Ev.succ ?_
      simp only [spec_l15Copy.l0, h1, h2, if_true, rd_at_T143 hy, wr1 hi' (by omega)]
      refine Ev.bind e ?_
      simp only [h3, if_true, eta143, e3]
      exact ihd (i + 1) (by omega) (by omega)
  exact key x.f3.length 0 (by omega) (by omega)
theorem spec_l15Copy_ev (x : S143) (h : n143 x ≤ 2097152) : Ev (fun k => spec_l15Copy.f k x.f0 x.f1 x.f2 x.f3) (x.f0, x.f1, x.f2, x.f3) := copyC_evN _ x (Nat.le_refl _) h

-- spec_l19Copy
theorem spec_l19Copy_ev (v : Int) (l : List S145) (h : l.length ≤ 2097152) (hn : ∀ x ∈ l, n143 x.f3 ≤ 2097152) : Ev (fun k => spec_l19Copy.f k v l) (v, l) := by
  unfold spec_l19Copy.f
  have key : ∀ (d i : Nat), l.length - i = d → i ≤ l.length → Ev (fun k => spec_l19Copy.l0 k v l 0 [] v (l.take i) (i : Int)) (v, l) := by
    intro d
    induction d with
    | zero =>
      intro i hd hi
      obtain rfl : i = l.length := by omega
      refine Ev.succ ?_
      simp only [spec_l19Copy.l0, Int.lt_irrefl, if_false, List.take_length]
      exact Ev.now _
    | succ d ihd =>
      intro i hd hi
      have hi' : i < l.length := by omega
      obtain ⟨y, hy⟩ := getAt (l := l) (i := i) hi'
      have h1 : ((i : Int) < (l.length : Int)) = True := eq_true (by omega)
      have h2 : (0 ≤ (i : Int)) = True := eq_true (by omega)
      have h3 : ((l.take i).length < 1954687338268) = True := eq_true (by rw [List.length_take]; omega)
      have e3 : l.take i ++ [y] = l.take (i + 1) := by rw [List.take_add_one, hy]; rfl
      refine Ev.succ ?_
      simp only [spec_l19Copy.l0, h1, h2, if_true, rd_at_T145 hy, wr1 hi' (by omega)]
      refine Ev.bind (spec_l15Copy_ev y.f3 (hn y (List.mem_of_getElem? hy))) ?_
      simp only [h3, if_true, eta143, e3]
      exact ihd (i + 1) (by omega) (by omega)
  exact key l.length 0 (by omega) (by omega)

-- spec_l24Copy
/-- What an epoch's size bounds. -/
theorem epN {x : S102} (h : n102 x ≤ 2097152) : x.f2.length ≤ 2097152 ∧ x.f3.f1.length ≤ 2097152 ∧ ∀ r ∈ x.f3.f1, n143 r.f3 ≤ 2097152 := by
  unfold n102 n100 at h
  refine ⟨by omega, by omega, fun r hr => ?_⟩
  obtain ⟨j, hj⟩ := List.getElem?_of_mem hr
  have h1 := le_sum n145 hj
  have h2 : n143 r.f3 ≤ n145 r := by unfold n145; omega
  omega
theorem spec_l24Copy_ev (x : S102) (h : n102 x ≤ 2097152) : Ev (fun k => spec_l24Copy.f k x.f0 x.f1 x.f2 x.f3.f0 x.f3.f1) (x.f0, x.f1, x.f2, x.f3.f0, x.f3.f1) := by
  obtain ⟨h1, h2, h3⟩ := epN h
  unfold spec_l24Copy.f
  refine Ev.pos (by omega) ?_
  exact Ev.bind (spec_l19Copy_ev x.f3.f0 x.f3.f1 h2 h3) (Ev.now _)

-- spec_l24All
theorem spec_l24All_ev (l : List S102) (h : l.length ≤ 2097152) (hn : ∀ x ∈ l, n102 x ≤ 2097152) : Ev (fun k => spec_l24All.f k l) l := by
  unfold spec_l24All.f
  have key : ∀ (d i : Nat), l.length - i = d → i ≤ l.length → Ev (fun k => spec_l24All.l0 k l (l.take i) (i : Int)) l := by
    intro d
    induction d with
    | zero =>
      intro i hd hi
      obtain rfl : i = l.length := by omega
      refine Ev.succ ?_
      simp only [spec_l24All.l0, Int.lt_irrefl, if_false, List.take_length]
      exact Ev.now _
    | succ d ihd =>
      intro i hd hi
      have hi' : i < l.length := by omega
      obtain ⟨y, hy⟩ := getAt (l := l) (i := i) hi'
      have h1 : ((i : Int) < (l.length : Int)) = True := eq_true (by omega)
      have h2 : (0 ≤ (i : Int)) = True := eq_true (by omega)
      have h3 : ((l.take i).length < 1954687338268) = True := eq_true (by rw [List.length_take]; omega)
      have e3 : l.take i ++ [y] = l.take (i + 1) := by rw [List.take_add_one, hy]; rfl
      refine Ev.succ ?_
      simp only [spec_l24All.l0, h1, h2, if_true, rd_at_T102 hy, wr1 hi' (by omega)]
      refine Ev.bind (spec_l24Copy_ev y (hn y (List.mem_of_getElem? hy))) ?_
      simp only [h3, if_true, e3]
      exact ihd (i + 1) (by omega) (by omega)
  exact key l.length 0 (by omega) (by omega)

-- spec_l7Copy
theorem spec_l7Copy_eq (l : List S44) (h : l.length ≤ 2097152) : spec_l7Copy.f l = some l := by
  unfold spec_l7Copy.f
  rw [if_pos (by omega)]; rfl

-- spec_l28Copy
/-- What a center's size bounds. -/
theorem ctN {x : S40} (h : n40 x ≤ 2097152) : x.f0.length ≤ 2097152 ∧ (∀ y ∈ x.f0, y.f1.length ≤ 2097152) ∧ x.f1.length ≤ 2097152 ∧ (∀ y ∈ x.f1, n102 y ≤ 2097152) ∧ x.f2.length ≤ 2097152 ∧ x.f3.length ≤ 2097152 ∧ x.f5.length ≤ 2097152 := by
  unfold n40 at h
  refine ⟨by omega, fun y hy => ?_, by omega, fun y hy => ?_, by omega, by omega, by omega⟩
  · obtain ⟨j, hj⟩ := List.getElem?_of_mem hy
    have h1 := le_sum n92 hj
    have h2 : y.f1.length ≤ n92 y := by unfold n92; omega
    omega
  · obtain ⟨j, hj⟩ := List.getElem?_of_mem hy
    have h1 := le_sum n102 hj
    omega
theorem spec_l28Copy_ev (x : S40) (h : n40 x ≤ 2097152) : Ev (fun k => spec_l28Copy.f k x.f0 x.f1 x.f2 x.f3 x.f4 x.f5) (x.f0, x.f1, x.f2, x.f3, x.f4, x.f5) := by
  obtain ⟨h0, h0', h1, h1', h2, h3, h5⟩ := ctN h
  unfold spec_l28Copy.f
  refine Ev.bind (spec_l8Copy_ev x.f0 h0 h0') (Ev.bind (spec_l24All_ev x.f1 h1 h1') ?_)
  simp only [spec_l7Copy_eq x.f2 h2, Option.bind_some, List.nil_append]
  exact Ev.pos (by omega) (Ev.pos (by omega) (Ev.now _))

-- spec_FindIssuer
def keyB (a : Int) : Bool := inB a 1 2147483646
def certB (a b c d e : Int) : Bool := inB a 1 9999 && (nameB b && (keyB c && (timeB d && (timeB e && inB (e - d) 0 50))))
def mdV (a : Int) : Int := Int.tmod (wrap64 (Int.tmod a 2147483647 + 2147483647)) 2147483647
def hsX (d v : Int) : Int := Int.tmod (wrap64 (wrap64 (wrap64 (d * 1000003) + mdV v) + 13)) 2147483647
def hashV (l : List Int) : Int := l.foldl hsX 11
def khV (a : Int) (l : List Int) : Int := hashV ([a] ++ l ++ [a])
/-- Strictly ascending, and all in a range. -/
def ascP (l : List Int) (a b : Int) (i : Nat) : Bool := inB (rd l (i : Int)) a b && (decide (i = 0) || decide (rd l ((i - 1 : Nat) : Int) < rd l (i : Int)))
/-- Each element is in order (p), and with the one ahead of it (q). -/
def adjT {α : Type} (p : α → Bool) (q : α → α → Bool) : α → List α → Bool
  | _, [] => true
  | y, x :: t => p x && (q y x && adjT p q x t)
def adjB {α : Type} (p : α → Bool) (q : α → α → Bool) : List α → Bool
  | [] => true
  | x :: t => p x && adjT p q x t
theorem ev_adj {α : Type} (l : List α) (p : α → Bool) (q : α → α → Bool) (fin : Bool) (L : Nat → Int → Option Bool) (hend : Ev (fun k => L k (l.length : Int)) fin)
    (hs0 : ∀ x r, l[0]? = some x → Ev (fun k => L k ((0 + 1 : Nat) : Int)) r → Ev (fun k => L k 0) (p x && r))
    (hs : ∀ (i : Nat) y x r, l[i]? = some y → l[i + 1]? = some x → Ev (fun k => L k ((i + 1 + 1 : Nat) : Int)) r → Ev (fun k => L k ((i + 1 : Nat) : Int)) (p x && (q y x && r))) : Ev (fun k => L k 0) (adjB p q l && fin) := by
  have key : ∀ (d i : Nat) (y : α), l[i]? = some y → l.length - (i + 1) = d → Ev (fun k => L k ((i + 1 : Nat) : Int)) (adjT p q y (l.drop (i + 1)) && fin) := by
    intro d
    induction d with
    | zero =>
      intro i y hy hd
      have hi := lt_of_get hy
      have e : i + 1 = l.length := by omega
      rw [e, List.drop_length]
      exact hend
    | succ d ih =>
      intro i y hy hd
      have hi : i + 1 < l.length := by omega
      have hx : l[i + 1]? = some l[i + 1] := List.getElem?_eq_getElem hi
      have h := hs i y l[i + 1] _ hy hx (ih (i + 1) l[i + 1] hx (by omega))
      rw [List.drop_eq_getElem_cons hi]
      simp only [adjT, Bool.and_assoc]
      exact h
  cases l with
  | nil => exact hend
  | cons x t =>
    have h := hs0 x _ rfl (key _ 0 x rfl rfl)
    simp only [adjB, Bool.and_assoc]
    exact h
theorem wrp {i n : Nat} (h : i + 1 < n) (hn : n ≤ 9223372036854775807) : wrap64 (((i + 1 : Nat) : Int) - 1) = (i : Int) := by rw [wr (by omega) (by omega)]; omega
/-- An issuer is in order. -/
def issB (x : S92) : Bool := inB x.f0 0 9 && ((allN x.f1.length (ascP x.f1 1 4) && true) && keyB x.f2)
def issQ (y x : S92) : Bool := !decide (y.f0 ≥ x.f0)
def issuersB (l : List S92) : Bool := adjB issB issQ l && decide ((l.length : Int) ≤ 4)
def claimB (x : S44) : Bool := if x.f0 = 1 then kindB x.f1 1 && inB x.f2 0 5 else if x.f0 = 2 then kindB x.f1 1 && kindB x.f2 2 else if x.f0 = 3 then kindB x.f1 2 && inB x.f2 0 3 else if x.f0 = 4 then kindB x.f1 3 && inB x.f2 0 3 else false
def factB (x : S44) : Bool := claimB x && (inB x.f3 0 9 && (timeB x.f4 && (timeB x.f5 && decide (x.f4 ≤ x.f5))))
/-- A fact stands ahead of another. -/
def factQ (y x : S44) : Bool := if y.f0 = x.f0 then if y.f1 = x.f1 then if y.f2 = x.f2 then decide (y.f3 < x.f3) else decide (y.f2 < x.f2) else decide (y.f1 < x.f1) else decide (y.f0 < x.f0)
def storeB (l : List S44) : Bool := adjB factB factQ l && decide ((l.length : Int) ≤ 30)
def hasI (l : List Int) (a : Int) : Bool := l.any (fun x => decide (a = x))
def underB (a b : List Int) : Bool := !(a.any fun x => !hasI b x)
theorem idx_ev {α : Type} (L : Nat → Int → Option Int) (p : α → Bool) : ∀ (l : List α) (i n : Nat), i + l.length = n → Ev (fun k => L k (n : Int)) (-1) →
    (∀ (j : Nat) (x : α) (r : Int), i ≤ j → l[j - i]? = some x → (p x = true → Ev (fun k => L k (j : Int)) (j : Int)) ∧ (p x = false → Ev (fun k => L k ((j + 1 : Nat) : Int)) r → Ev (fun k => L k (j : Int)) r)) → Ev (fun k => L k (i : Int)) (idxV p l (i : Int))
  | [], i, n, hn, h0, _ => by
    simp only [List.length_nil, Nat.add_zero] at hn
    subst hn
    exact h0
  | x :: l, i, n, hn, h0, hs => by
    have h := hs i x (idxV p l ((i : Int) + 1)) (Nat.le_refl _) (by simp)
    unfold idxV
    cases c : p x with
    | true => simp only [if_true]; exact h.1 c
    | false =>
      simp only [Bool.false_eq_true, if_false]
      refine h.2 c ?_
      have := idx_ev L p l (i + 1) n (by simp only [List.length_cons] at hn; omega) h0 (fun j y r hj hy => hs j y r (by omega) (by rw [show j - i = (j - (i + 1)) + 1 by omega]; simpa using hy))
      exact_mod_cast this
theorem idxV_in {α : Type} (p : α → Bool) (l : List α) (h : ¬ idxV p l 0 < 0) : 0 ≤ idxV p l 0 ∧ idxV p l 0 < (l.length : Int) := by
  rcases idxV_spec p l with ⟨h1, _⟩ | ⟨j, x, h1, h2, _⟩
  · omega
  · have := lt_of_get h2; omega
def statedV (x : S92) (f : S44) : Int × Int × Int × Int × Int × Int × Int × Bool := if issB x = true then if factB ⟨f.f0, f.f1, f.f2, x.f0, f.f4, f.f5⟩ = true then if hasI x.f1 f.f0 = true then (f.f0, f.f1, f.f2, x.f0, f.f4, f.f5, khV x.f2 [f.f0, f.f1, f.f2, x.f0, f.f4, f.f5], true) else (0, 0, 0, 0, 0, 0, 0, false) else (0, 0, 0, 0, 0, 0, 0, false) else (0, 0, 0, 0, 0, 0, 0, false)
def believedB (l : List S92) (f : S44) (m : Int) : Bool := if idxV (fun x => x.f0 == f.f3) l 0 < 0 then false else if (statedV (rd_T92 l (idxV (fun x => x.f0 == f.f3) l 0)) f).2.2.2.2.2.2.2 = true then decide ((statedV (rd_T92 l (idxV (fun x => x.f0 == f.f3) l 0)) f).1 = f.f0 ∧ (statedV (rd_T92 l (idxV (fun x => x.f0 == f.f3) l 0)) f).2.1 = f.f1 ∧ (statedV (rd_T92 l (idxV (fun x => x.f0 == f.f3) l 0)) f).2.2.1 = f.f2 ∧ (statedV (rd_T92 l (idxV (fun x => x.f0 == f.f3) l 0)) f).2.2.2.1 = f.f3 ∧ (statedV (rd_T92 l (idxV (fun x => x.f0 == f.f3) l 0)) f).2.2.2.2.1 = f.f4 ∧ (statedV (rd_T92 l (idxV (fun x => x.f0 == f.f3) l 0)) f).2.2.2.2.2.1 = f.f5 ∧ (statedV (rd_T92 l (idxV (fun x => x.f0 == f.f3) l 0)) f).2.2.2.2.2.2.1 = m) else false
theorem spec_FindIssuer_ev (l : List S92) (n : Int) (h : l.length ≤ 2097152) : Ev (fun k => spec_FindIssuer.f k l n) (idxV (fun x : S92 => x.f0 == n) l 0) := by
  unfold spec_FindIssuer.f
  refine ev_idx l (fun x : S92 => x.f0 == n) id (fun k i => spec_FindIssuer.l0 k l n i) ?_ ?_
  · refine Ev.succ ?_
    simp only [spec_FindIssuer.l0, Int.lt_irrefl, if_false]
    exact Ev.now _
  · intro i x hx
    have hi := lt_of_get hx
    have h1 : ((i : Int) < (l.length : Int)) = True := eq_true (by omega)
    have h2 : (0 ≤ (i : Int)) = True := eq_true (by omega)
    constructor
    · intro c r hr
      have c' : ¬ x.f0 = n := by simpa using c
      refine Ev.succ ?_
      simp only [spec_FindIssuer.l0, h1, h2, if_true, rd_at_T92 hx, wr1 hi (by omega), if_neg c']
      exact hr
    · intro c
      have c' : x.f0 = n := by simpa using c
      refine Ev.succ ?_
      simp only [spec_FindIssuer.l0, h1, h2, if_true, rd_at_T92 hx, if_pos c']
      exact Ev.now _

-- spec_l1In
theorem spec_l1In_eq (a b c : Int) : spec_l1In.f a b c = some (inB a b c) := by
  unfold spec_l1In.f
  rw [ite_dand]; rfl

-- spec_IsValidKey
theorem spec_IsValidKey_eq (a : Int) : spec_IsValidKey.f a = some (keyB a) := by
  unfold spec_IsValidKey.f; rw [spec_l1In_eq]; rfl

-- spec_IsIssuer
theorem spec_IsIssuer_ev (x : S92) (h : x.f1.length ≤ 2097152) : Ev (fun k => spec_IsIssuer.f k x.f0 x.f1 x.f2) (issB x) := by
  unfold spec_IsIssuer.f issB
  refine Ev.eqv (a := allN x.f1.length (ascP x.f1 1 4) && (inB x.f0 0 9 && keyB x.f2)) (by cases allN x.f1.length (ascP x.f1 1 4) <;> cases inB x.f0 0 9 <;> rfl) ?_
  refine ev_all x.f1.length (ascP x.f1 1 4) _ (fun k i => spec_IsIssuer.l0 k x.f0 x.f1 x.f2 i) ?_ ?_
  · refine Ev.succ ?_
    simp only [spec_IsIssuer.l0, Int.lt_irrefl, if_false, spec_l1In_eq, spec_IsValidKey_eq, Option.bind_some]
    exact Ev.bifT fun _ => Ev.now _
  · intro i hi
    have h1 : ((i : Int) < (x.f1.length : Int)) = True := eq_true (by omega)
    have h2 : (0 ≤ (i : Int)) = True := eq_true (by omega)
    have h3 := wr1 hi (show x.f1.length ≤ 9223372036854775807 by omega)
    constructor
    · intro hp r hr
      simp only [ascP, Bool.and_eq_true, Bool.or_eq_true, decide_eq_true_eq] at hp
      refine Ev.succ ?_
      simp only [spec_IsIssuer.l0, h1, h2, if_true, spec_l1In_eq, Option.bind_some, hp.1, h3]
      by_cases c : i = 0
      · exact Ev.neg (by omega) hr
      · simp only [if_pos (show (i : Int) > 0 by omega), wrm (show 0 < i by omega) (by omega), if_pos (show 0 ≤ ((i - 1 : Nat) : Int) by omega), if_pos (show ((i - 1 : Nat) : Int) < (x.f1.length : Int) by omega)]
        exact Ev.neg (by have := hp.2; omega) hr
    · intro hp
      refine Ev.succ ?_
      simp only [spec_IsIssuer.l0, h1, h2, if_true, spec_l1In_eq, Option.bind_some, h3]
      cases c0 : inB (rd x.f1 (i : Int)) 1 4 with
      | false => exact Ev.now _
      | true =>
        simp only [ascP, c0, Bool.true_and, Bool.or_eq_false_iff, decide_eq_false_iff_not] at hp
        simp only [if_true, if_pos (show (i : Int) > 0 by omega), wrm (show 0 < i by omega) (by omega), if_pos (show 0 ≤ ((i - 1 : Nat) : Int) by omega), if_pos (show ((i - 1 : Nat) : Int) < (x.f1.length : Int) by omega)]
        exact Ev.pos (by omega) (Ev.now _)

-- spec_IsName
theorem spec_IsName_eq (a : Int) : spec_IsName.f a = some (nameB a) := by
  unfold spec_IsName.f
  rw [spec_l1In_eq]; rfl

-- spec_HasKind
theorem spec_HasKind_eq (a b : Int) : spec_HasKind.f a b = some (kindB a b) := by
  unfold spec_HasKind.f kindB
  rw [spec_IsName_eq, Option.bind_some]
  cases h : nameB a with
  | true => simp only [if_true, name_div h, Bool.true_and]; rfl
  | false => rfl

-- spec_IsTime
theorem spec_IsTime_eq (a : Int) : spec_IsTime.f a = some (timeB a) := by
  unfold spec_IsTime.f
  rw [spec_l1In_eq]; rfl

-- spec_IsFact
theorem spec_IsFact_eq (x : S44) : spec_IsFact.f x.f0 x.f1 x.f2 x.f3 x.f4 x.f5 = some (factB x) := by
  unfold spec_IsFact.f factB claimB
  simp only [spec_HasKind_eq, spec_l1In_eq, spec_IsTime_eq, Option.bind_some, ite_and]
  (repeat' split) <;> first | rfl | simp only [Bool.and_assoc, Bool.false_and]

-- spec_Mod
theorem spec_Mod_eq (a : Int) : spec_Mod.f a 2147483647 = some (mdV a) := by
  unfold spec_Mod.f; rw [spec_l1In_eq]; rfl

-- spec_Hash
theorem spec_Hash_ev (l : List Int) (h : l.length ≤ 2097152) : Ev (fun k => spec_Hash.f k l) (hashV l) := by
  unfold spec_Hash.f hashV
  refine ev_fold l hsX (fun s => s) (fun _ _ => True) (fun k s i => spec_Hash.l0 k l s i) ?_ (fun _ _ _ _ _ => trivial) ?_ 11 trivial
  · intro s _
    refine Ev.succ ?_
    simp only [spec_Hash.l0, Int.lt_irrefl, if_false]
    exact Ev.now _
  · intro i x s r hx _ hr
    have hi := lt_of_get hx
    have h1 : ((i : Int) < (l.length : Int)) = True := eq_true (by omega)
    have h2 : (0 ≤ (i : Int)) = True := eq_true (by omega)
    refine Ev.succ ?_
    simp only [spec_Hash.l0, h1, h2, if_true, rd_nat l i x hx, spec_Mod_eq, Option.bind_some, wr1 hi (by omega)]
    exact hr

-- spec_KeyedHash
theorem spec_KeyedHash_ev (a : Int) (l : List Int) (h : l.length ≤ 1000) : Ev (fun k => spec_KeyedHash.f k a l) (khV a l) := by
  unfold spec_KeyedHash.f khV
  simp only [Option.bind_some]
  refine Ev.pos (by omega) (Ev.pos (by simp only [List.length_append, List.length_singleton]; omega) ?_)
  exact Ev.bind (spec_Hash_ev _ (by simp only [List.length_append, List.length_singleton]; omega)) (Ev.now _)

-- spec_StateFact
theorem spec_StateFact_ev (x : S92) (f : S44) (h : x.f1.length ≤ 2097152) : Ev (fun k => spec_StateFact.f k x.f0 x.f1 x.f2 f.f0 f.f1 f.f2 f.f3 f.f4 f.f5) (statedV x f) := by
  unfold spec_StateFact.f statedV
  have fin : ∀ b : Bool, Ev (fun k => (spec_IsIssuer.f k x.f0 x.f1 x.f2).bind fun t30 => (if t30 = true then ((spec_IsFact.f f.f0 f.f1 f.f2 x.f0 f.f4 f.f5).bind fun t34 => (if t34 = true then (if b = true then ((spec_FactInts.f f.f0 f.f1 f.f2 x.f0 f.f4 f.f5).bind fun t46 => ((spec_KeyedHash.f k x.f2 t46).bind fun t47 => (some (f.f0, f.f1, f.f2, x.f0, f.f4, f.f5, t47, true)))) else (some (0, 0, 0, 0, 0, 0, 0, false))) else (some (0, 0, 0, 0, 0, 0, 0, false)))) else (some (0, 0, 0, 0, 0, 0, 0, false))))
      (if issB x = true then if factB ⟨f.f0, f.f1, f.f2, x.f0, f.f4, f.f5⟩ = true then if b = true then (f.f0, f.f1, f.f2, x.f0, f.f4, f.f5, khV x.f2 [f.f0, f.f1, f.f2, x.f0, f.f4, f.f5], true) else (0, 0, 0, 0, 0, 0, 0, false) else (0, 0, 0, 0, 0, 0, 0, false) else (0, 0, 0, 0, 0, 0, 0, false)) := by
    intro b
    refine Ev.bind (spec_IsIssuer_ev x h) ?_
    by_cases c : issB x = true
    · simp only [if_pos c, spec_IsFact_eq ⟨f.f0, f.f1, f.f2, x.f0, f.f4, f.f5⟩, Option.bind_some]
      by_cases c2 : factB ⟨f.f0, f.f1, f.f2, x.f0, f.f4, f.f5⟩ = true
      · simp only [if_pos c2]
        by_cases c3 : b = true
        · simp only [if_pos c3, spec_FactInts.f, Option.bind_some]
          exact Ev.bind (spec_KeyedHash_ev x.f2 _ (by simp)) (Ev.now _)
        · simp only [if_neg c3]; exact Ev.now _
      · simp only [if_neg c2]; exact Ev.now _
    · simp only [if_neg c]; exact Ev.now _
  refine Ev.eqv ?_ (ev_fold x.f1 (fun (b : Bool) (a : Int) => if b = true then true else decide (a = f.f0)) (fun b => if issB x = true then if factB ⟨f.f0, f.f1, f.f2, x.f0, f.f4, f.f5⟩ = true then if b = true then (f.f0, f.f1, f.f2, x.f0, f.f4, f.f5, khV x.f2 [f.f0, f.f1, f.f2, x.f0, f.f4, f.f5], true) else (0, 0, 0, 0, 0, 0, 0, false) else (0, 0, 0, 0, 0, 0, 0, false) else (0, 0, 0, 0, 0, 0, 0, false)) (fun _ _ => True) (fun k b i => spec_StateFact.l0 k x.f0 x.f1 x.f2 f.f0 f.f1 f.f2 x.f0 f.f4 f.f5 0 0 0 0 0 0 0 b i) ?_ (fun _ _ _ _ _ => trivial) ?_ false trivial)
  · have e : ∀ (l : List Int) (b : Bool), l.foldl (fun (b : Bool) (a : Int) => if b = true then true else decide (a = f.f0)) b = (b || hasI l f.f0) := by
      intro l
      induction l with
      | nil => intro b; simp [hasI]
      | cons a l ih =>
        intro b
        rw [List.foldl_cons, ih]
        cases b
        · simp [hasI, eq_comm]
        · simp
    rw [e, Bool.false_or]
  · intro b _
    refine Ev.succ ?_
    simp only [spec_StateFact.l0, Int.lt_irrefl, if_false]
    exact fin b
  · intro i a b r ha _ hr
    have hi := lt_of_get ha
    have h1 : ((i : Int) < (x.f1.length : Int)) = True := eq_true (by omega)
    have h2 : (0 ≤ (i : Int)) = True := eq_true (by omega)
    refine Ev.succ ?_
    simp only [spec_StateFact.l0, h1, h2, if_true, rd_nat x.f1 i a ha, wr1 hi (show x.f1.length ≤ 9223372036854775807 by omega)]
    cases b with
    | true => simp only [if_true] at hr ⊢; exact hr
    | false => simp only [Bool.false_eq_true, if_false] at hr ⊢; exact hr

-- spec_IsBelieved
theorem spec_IsBelieved_ev (l : List S92) (f : S44) (m : Int) (h : l.length ≤ 2097152) (hn : ∀ x ∈ l, x.f1.length ≤ 2097152) : Ev (fun k => spec_IsBelieved.f k l f.f0 f.f1 f.f2 f.f3 f.f4 f.f5 m) (believedB l f m) := by
  unfold spec_IsBelieved.f believedB
  refine Ev.bind (spec_FindIssuer_ev l f.f3 h) ?_
  by_cases c : idxV (fun x : S92 => x.f0 == f.f3) l 0 < 0
  · simp only [if_pos c]; exact Ev.now _
  · simp only [if_neg c]
    obtain ⟨c1, c2⟩ := idxV_in _ l c
    refine Ev.pos c1 (Ev.pos c2 ?_)
    obtain ⟨j, hj⟩ : ∃ j : Nat, idxV (fun x : S92 => x.f0 == f.f3) l 0 = (j : Int) := ⟨_, (Int.toNat_of_nonneg c1).symm⟩
    rw [hj] at c2 ⊢
    obtain ⟨y, hy⟩ := getAt (l := l) (i := j) (by omega)
    simp only [rd_at_T92 hy]
    refine Ev.bind (spec_StateFact_ev y f (hn y (List.mem_of_getElem? hy))) ?_
    exact Ev.ite (fun c3 => by rw [if_pos c3]; exact Ev.now _) (fun c3 => by rw [if_neg c3]; exact Ev.now _)

-- spec_FactBefore
theorem spec_FactBefore_eq (y x : S44) : spec_FactBefore.f y.f0 y.f1 y.f2 y.f3 y.f4 y.f5 x.f0 x.f1 x.f2 x.f3 x.f4 x.f5 = some (factQ y x) := by
  unfold spec_FactBefore.f factQ
  (repeat' split) <;> rfl

-- spec_IsStore
theorem spec_IsStore_ev (l : List S44) (h : l.length ≤ 2097152) : Ev (fun k => spec_IsStore.f k l) (storeB l) := by
  unfold spec_IsStore.f storeB
  refine ev_adj l factB factQ _ (fun k i => spec_IsStore.l0 k l i) ?_ ?_ ?_
  · refine Ev.succ ?_
    simp only [spec_IsStore.l0, Int.lt_irrefl, if_false]
    exact Ev.now _
  · intro x r hx hr
    have hi := lt_of_get hx
    have h1 : ((0 : Int) < (l.length : Int)) = True := eq_true (by omega)
    have e := rd_at_T44 hx
    have e2 := wr1 hi (show l.length ≤ 9223372036854775807 by omega)
    simp only [Int.ofNat_zero, Int.natCast_zero] at e e2
    refine Ev.succ ?_
    simp only [spec_IsStore.l0, h1, if_true, Int.le_refl, gt_iff_lt, Int.lt_irrefl, if_false, e, e2, spec_IsFact_eq, spec_FactBefore_eq, Option.bind_some]
    exact Ev.bifT fun _ => hr
  · intro i y x r hy hx hr
    have hi := lt_of_get hx
    have h1 : (((i + 1 : Nat) : Int) < (l.length : Int)) = True := eq_true (by omega)
    have h2 : (0 ≤ ((i + 1 : Nat) : Int)) = True := eq_true (by omega)
    have h3 : (((i + 1 : Nat) : Int) > 0) = True := eq_true (by omega)
    have h4 : (0 ≤ (i : Int)) = True := eq_true (by omega)
    have h5 : ((i : Int) < (l.length : Int)) = True := eq_true (by omega)
    refine Ev.succ ?_
    simp only [spec_IsStore.l0, h1, h2, h3, h4, h5, if_true, rd_at_T44 hx, rd_at_T44 hy, wr1 hi (show l.length ≤ 9223372036854775807 by omega), wrp hi (show l.length ≤ 9223372036854775807 by omega), spec_IsFact_eq, spec_FactBefore_eq, Option.bind_some]
    exact Ev.bifT fun _ => Ev.bifT fun _ => hr

-- spec_SameClaim
/-- Two facts claim the same. -/
def sameF (y x : S44) : Bool := decide (y.f0 = x.f0) && (decide (y.f1 = x.f1) && (decide (y.f2 = x.f2) && decide (y.f3 = x.f3)))
def laterF (f x : S44) : Bool := if f.f4 > x.f4 then true else if f.f4 = x.f4 then decide (f.f5 > x.f5) else false
def mergeF (f x : S44) : S44 := if laterF f x = true then f else x
def insL (f : S44) : List S44 → List S44
  | [] => [f]
  | x :: l => if factQ x f = true then x :: insL f l else if sameF x f = true then mergeF f x :: l else f :: x :: l
theorem insL_len (f : S44) : ∀ l, (insL f l).length ≤ l.length + 1
  | [] => by simp [insL]
  | x :: l => by
    have := insL_len f l
    unfold insL
    split
    · simp only [List.length_cons]; omega
    · split <;> simp
def putFV (l : List S44) (f : S44) : List S44 × Bool := if storeB l = true then if factB f = true then if (insL f l).length > 30 then (l, false) else (insL f l, true) else (l, false) else (l, false)
theorem putFV_len (l : List S44) (f : S44) : (putFV l f).1.length ≤ l.length + 1 := by
  have := insL_len f l
  unfold putFV
  repeat' split
  all_goals first | exact Nat.le_succ _ | exact this
theorem sameF_iff {y x : S44} : sameF y x = true ↔ y.f0 = x.f0 ∧ y.f1 = x.f1 ∧ y.f2 = x.f2 ∧ y.f3 = x.f3 := by simp [sameF]
theorem factQ_iff {y x : S44} : factQ y x = true ↔ y.f0 < x.f0 ∨ (y.f0 = x.f0 ∧ (y.f1 < x.f1 ∨ (y.f1 = x.f1 ∧ (y.f2 < x.f2 ∨ (y.f2 = x.f2 ∧ y.f3 < x.f3))))) := by
  unfold factQ
  (repeat' split) <;> simp only [decide_eq_true_eq] <;> omega
theorem sameF_comm (y x : S44) : sameF y x = sameF x y := by
  rw [Bool.eq_iff_iff, sameF_iff, sameF_iff]
  omega
theorem store_len {l : List S44} (h : storeB l = true) : l.length ≤ 30 := by
  unfold storeB at h
  rw [Bool.and_eq_true] at h
  have := of_decide_eq_true h.2
  omega
/-- Neighbours are in order. -/
def chn : List S44 → Prop
  | [] => True
  | [_] => True
  | x :: y :: l => factQ x y = true ∧ chn (y :: l)
theorem chn_of : ∀ (l : List S44) (y : S44), adjT factB factQ y l = true → chn (y :: l)
  | [], _, _ => trivial
  | x :: l, y, h => by
    unfold adjT at h
    simp only [Bool.and_eq_true] at h
    exact ⟨h.2.1, chn_of l x h.2.2⟩
theorem store_chn {l : List S44} (h : storeB l = true) : chn l := by
  unfold storeB at h
  rw [Bool.and_eq_true] at h
  cases l with
  | nil => trivial
  | cons x l =>
    have h1 := h.1
    unfold adjB at h1
    rw [Bool.and_eq_true] at h1
    exact chn_of l x h1.2
theorem chn_tail {x : S44} {l : List S44} (h : chn (x :: l)) : chn l := by
  cases l with
  | nil => trivial
  | cons y l => exact h.2
def pfStep (f : S44) (s : List S44 × Bool) (x : S44) : List S44 × Bool :=
  if s.2 = true then (if sameF f x = true then (s.1 ++ [mergeF f x], true) else (s.1 ++ [x], s.2))
  else if factQ f x = true then (if sameF f x = true then (s.1 ++ [f] ++ [mergeF f x], true) else (s.1 ++ [f] ++ [x], true))
  else (if sameF f x = true then (s.1 ++ [mergeF f x], true) else (s.1 ++ [x], s.2))
def pfEnd (f : S44) (s : List S44 × Bool) : List S44 := if s.2 = true then s.1 else s.1 ++ [f]
theorem pf_after (f : S44) : ∀ (l : List S44) (x : S44) (o : List S44), chn (x :: l) → (factQ f x = true ∨ sameF f x = true) → l.foldl (pfStep f) (o, true) = (o ++ l, true)
  | [], _, o, _, _ => by simp
  | z :: l, x, o, h, hx => by
    have hz : factQ f z = true := by
      have h1 := h.1
      rw [factQ_iff] at h1 ⊢
      rcases hx with hx | hx
      · rw [factQ_iff] at hx; omega
      · rw [sameF_iff] at hx; omega
    have hs : ¬ sameF f z = true := fun e => by rw [sameF_iff] at e; rw [factQ_iff] at hz; omega
    have e1 : pfStep f (o, true) z = (o ++ [z], true) := by simp [pfStep, hs]
    rw [List.foldl_cons, e1, pf_after f l z (o ++ [z]) h.2 (.inl hz)]
    simp
theorem pf_ins (f : S44) : ∀ (l o : List S44), chn l → pfEnd f (l.foldl (pfStep f) (o, false)) = o ++ insL f l
  | [], o, _ => by simp [pfEnd, insL]
  | x :: l, o, h => by
    have ht := chn_tail h
    by_cases c1 : factQ x f = true
    · have c2 : ¬ factQ f x = true := fun e => by rw [factQ_iff] at e c1; omega
      have c3 : ¬ sameF f x = true := fun e => by rw [sameF_iff] at e; rw [factQ_iff] at c1; omega
      have e1 : pfStep f (o, false) x = (o ++ [x], false) := by simp [pfStep, c2, c3]
      rw [List.foldl_cons, e1, pf_ins f l (o ++ [x]) ht]
      simp [insL, c1]
    · by_cases c3 : sameF f x = true
      · have c2 : ¬ factQ f x = true := fun e => by rw [sameF_iff] at c3; rw [factQ_iff] at e; omega
        have e1 : pfStep f (o, false) x = (o ++ [mergeF f x], true) := by simp [pfStep, c2, c3]
        rw [List.foldl_cons, e1, pf_after f l x _ h (.inr c3)]
        simp [insL, c1, sameF_comm x f, c3, pfEnd]
      · have c2 : factQ f x = true := by
          rw [factQ_iff] at c1 ⊢
          rw [sameF_iff] at c3
          omega
        have e1 : pfStep f (o, false) x = (o ++ [f] ++ [x], true) := by simp [pfStep, c2, c3]
        rw [List.foldl_cons, e1, pf_after f l x _ h (.inl c2)]
        simp [insL, c1, sameF_comm x f, c3, pfEnd]
theorem spec_SameClaim_eq (y x : S44) : spec_SameClaim.f y.f0 y.f1 y.f2 y.f3 y.f4 y.f5 x.f0 x.f1 x.f2 x.f3 x.f4 x.f5 = some (sameF y x) := by
  unfold spec_SameClaim.f sameF
  (repeat' split) <;> simp_all
theorem spec_SameClaim_tot (y x : S44) : ∃ b, spec_SameClaim.f y.f0 y.f1 y.f2 y.f3 y.f4 y.f5 x.f0 x.f1 x.f2 x.f3 x.f4 x.f5 = some b := ⟨_, spec_SameClaim_eq y x⟩

-- spec_PutFact
/-- From some number of rounds on the function gives one value, and that value is so. -/
def Tt {α : Type} (f : Nat → Option α) (P : α → Prop) : Prop := ∃ a, Ev f a ∧ P a
theorem Tt.now {α : Type} {P : α → Prop} {a : α} (h : P a) : Tt (fun _ => some a) P := ⟨a, Ev.now a, h⟩
theorem Tt.ev {α : Type} {P : α → Prop} {f : Nat → Option α} {a : α} (e : Ev f a) (h : P a) : Tt f P := ⟨a, e, h⟩
theorem Tt.bind {α β : Type} {P : α → Prop} {Q : β → Prop} {f : Nat → Option α} {g : Nat → α → Option β} (h : Tt f P) (k : ∀ a, P a → Tt (fun n => g n a) Q) : Tt (fun n => (f n).bind (g n)) Q := by
  obtain ⟨a, e, ha⟩ := h
  obtain ⟨b, e2, hb⟩ := k a ha
  exact ⟨b, Ev.bind e e2, hb⟩
theorem Tt.mono {α : Type} {P Q : α → Prop} {f : Nat → Option α} (h : Tt f P) (k : ∀ a, P a → Q a) : Tt f Q := by
  obtain ⟨a, e, ha⟩ := h
  exact ⟨a, e, k a ha⟩
theorem Tt.ite {α : Type} {P : α → Prop} {c : Prop} [Decidable c] {f g : Nat → Option α} (h1 : c → Tt f P) (h2 : ¬ c → Tt g P) : Tt (fun k => if c then f k else g k) P := by
  by_cases hc : c
  · simp only [if_pos hc]; exact h1 hc
  · simp only [if_neg hc]; exact h2 hc
theorem Tt.pos {α : Type} {P : α → Prop} {c : Prop} [Decidable c] {f g : Nat → Option α} (hc : c) (h1 : Tt f P) : Tt (fun k => if c then f k else g k) P := by
  simp only [if_pos hc]; exact h1
theorem Tt.neg {α : Type} {P : α → Prop} {c : Prop} [Decidable c] {f g : Nat → Option α} (hc : ¬ c) (h1 : Tt g P) : Tt (fun k => if c then f k else g k) P := by
  simp only [if_neg hc]; exact h1
theorem Tt.succ {α : Type} {P : α → Prop} {g : Nat → Option α} (h : Tt (fun k => g (k + 1)) P) : Tt g P := by
  obtain ⟨a, e, ha⟩ := h
  exact ⟨a, Ev.succ e, ha⟩
theorem Tt.up {σ β : Type} {Q : β → Prop} (n : Nat) (L : Nat → Nat → σ → Option β) (I : Nat → σ → Prop)
    (hstep : ∀ i s, i < n → I i s → (∀ s', I (i + 1) s' → Tt (fun k => L k (i + 1) s') Q) → Tt (fun k => L k i s) Q)
    (hend : ∀ s, I n s → Tt (fun k => L k n s) Q) : ∀ i s, i ≤ n → I i s → Tt (fun k => L k i s) Q := by
  have key : ∀ d i s, n - i = d → i ≤ n → I i s → Tt (fun k => L k i s) Q := by
    intro d
    induction d with
    | zero =>
      intro i s hd hi hI
      obtain rfl : i = n := by omega
      exact hend s hI
    | succ d ih =>
      intro i s hd hi hI
      exact hstep i s (by omega) hI fun s' h' => ih (i + 1) s' (by omega) (by omega) h'
  exact fun i s hi hI => key (n - i) i s rfl hi hI
theorem Tt.down {σ β : Type} {Q : β → Prop} (L : Nat → Nat → σ → Option β) (I : Nat → σ → Prop)
    (hstep : ∀ m s, I (m + 1) s → (∀ s', I m s' → Tt (fun k => L k m s') Q) → Tt (fun k => L k (m + 1) s) Q)
    (hend : ∀ s, I 0 s → Tt (fun k => L k 0 s) Q) : ∀ m s, I m s → Tt (fun k => L k m s) Q := by
  intro m
  induction m with
  | zero => exact hend
  | succ m ih => exact fun s hI => hstep m s hI fun s' h' => ih s' h'
theorem spec_PutFact_ev (l : List S44) (f : S44) (hl : l.length ≤ 2097152) : Ev (fun k => spec_PutFact.f k l f.f0 f.f1 f.f2 f.f3 f.f4 f.f5) (putFV l f) := by
  unfold spec_PutFact.f putFV
  refine Ev.bind (spec_IsStore_ev l hl) ?_
  by_cases c : storeB l = true
  · simp only [if_pos c, spec_IsFact_eq f, Option.bind_some]
    by_cases c2 : factB f = true
    · simp only [if_pos c2]
      have h30 := store_len c
      have hp := pf_ins f l [] (store_chn c)
      rw [List.nil_append] at hp
      rw [← hp]
      refine ev_fold l (pfStep f) (fun s => if (pfEnd f s).length > 30 then (l, false) else (pfEnd f s, true)) (fun i s => s.1.length ≤ 2 * i) (fun k s i => spec_PutFact.l0 k l f.f0 f.f1 f.f2 f.f3 f.f4 f.f5 s.1 s.2 i) ?_ ?_ ?_ ([], false) (by simp)
      · rintro ⟨o, b⟩ hI
        have hI' : o.length ≤ 2 * l.length := hI
        refine Ev.succ ?_
        simp only [spec_PutFact.l0, Int.lt_irrefl, if_false, Option.bind_some, spec_l7Copy_eq l hl, pfEnd]
        cases b with
        | true =>
          simp only [if_true]
          by_cases c3 : (o.length : Int) > 30
          · rw [if_pos (show o.length > 30 by omega)]; exact Ev.pos c3 (Ev.now _)
          · rw [if_neg (show ¬ o.length > 30 by omega)]; exact Ev.neg c3 (Ev.now _)
        | false =>
          simp only [Bool.false_eq_true, if_false]
          refine Ev.pos (by omega) ?_
          by_cases c3 : ((o ++ [f]).length : Int) > 30
          · rw [if_pos (show (o ++ [f]).length > 30 by omega)]; exact Ev.pos c3 (Ev.now _)
          · rw [if_neg (show ¬ (o ++ [f]).length > 30 by omega)]; exact Ev.neg c3 (Ev.now _)
      · rintro i x ⟨o, b⟩ hx hI
        have hI' : o.length ≤ 2 * i := hI
        show (pfStep f (o, b) x).1.length ≤ 2 * (i + 1)
        unfold pfStep
        repeat' split
        all_goals (simp only [List.length_append, List.length_singleton]; omega)
      · rintro i x ⟨o, b⟩ r hx hI hr
        have hI' : o.length ≤ 2 * i := hI
        have hi := lt_of_get hx
        have h1 : ((i : Int) < (l.length : Int)) = True := eq_true (by omega)
        have h2 : (0 ≤ (i : Int)) = True := eq_true (by omega)
        have h3 : (o.length < 2932031007402) = True := eq_true (by omega)
        have h4 : ((o ++ [f]).length < 2932031007402) = True := eq_true (by rw [List.length_append, List.length_singleton]; omega)
        have ef : (⟨f.f0, f.f1, f.f2, f.f3, f.f4, f.f5⟩ : S44) = f := rfl
        have ex : (⟨x.f0, x.f1, x.f2, x.f3, x.f4, x.f5⟩ : S44) = x := rfl
        refine Ev.succ ?_
        unfold pfStep mergeF laterF at hr
        simp only [spec_PutFact.l0, h1, h2, h3, if_true, rd_at_T44 hx, wr1 hi (show l.length ≤ 9223372036854775807 by omega), spec_SameClaim_eq f x, spec_FactBefore_eq f x, Option.bind_some, ef, ex, h4]
        have e3 : (f.f4 > x.f4) = True ∨ (f.f4 > x.f4) = False := by by_cases h : f.f4 > x.f4; exact .inl (eq_true h); exact .inr (eq_false h)
        have e4 : (f.f4 = x.f4) = True ∨ (f.f4 = x.f4) = False := by by_cases h : f.f4 = x.f4; exact .inl (eq_true h); exact .inr (eq_false h)
        have e5 : (f.f5 > x.f5) = True ∨ (f.f5 > x.f5) = False := by by_cases h : f.f5 > x.f5; exact .inl (eq_true h); exact .inr (eq_false h)
        cases b <;> cases q1 : factQ f x <;> cases q2 : sameF f x <;> rcases e3 with e3 | e3 <;> rcases e4 with e4 | e4 <;> rcases e5 with e5 | e5 <;> simp only [q1, q2, e3, e4, e5, if_true, if_false, Bool.false_eq_true, decide_true, decide_false] at hr ⊢ <;> exact hr
    · simp only [if_neg c2, spec_l7Copy_eq l hl, Option.bind_some]; exact Ev.now _
  · simp only [if_neg c, spec_l7Copy_eq l hl, Option.bind_some]; exact Ev.now _
theorem spec_PutFact_tt (l : List S44) (x : S44) (h : l.length ≤ 30) : Tt (fun k => spec_PutFact.f k l x.f0 x.f1 x.f2 x.f3 x.f4 x.f5) (fun r => r.1.length ≤ 30) := by
  refine Tt.ev (spec_PutFact_ev l x (by omega)) ?_
  unfold putFV
  repeat' split
  all_goals first | exact h | (dsimp only; omega)

-- spec_CenterTake
def ctTakeV (x : S40) (f : S44) (m : Int) : S40 × Bool := if believedB x.f0 f m = true then (⟨x.f0, x.f1, (putFV x.f2 f).1, x.f3, x.f4, x.f5⟩, (putFV x.f2 f).2) else (x, false)
theorem putFV_no {l : List S44} {f : S44} (h : ¬ (putFV l f).2 = true) : (putFV l f).1 = l := by
  unfold putFV at h ⊢
  repeat' split at h
  all_goals first | (exact absurd rfl h) | skip
  all_goals simp_all
theorem spec_CenterTake_ev (x : S40) (f : S44) (m : Int) (h : n40 x ≤ 2097152) : Ev (fun k => spec_CenterTake.f k x.f0 x.f1 x.f2 x.f3 x.f4 x.f5 f.f0 f.f1 f.f2 f.f3 f.f4 f.f5 m) ((ctTakeV x f m).1.f0, (ctTakeV x f m).1.f1, (ctTakeV x f m).1.f2, (ctTakeV x f m).1.f3, (ctTakeV x f m).1.f4, (ctTakeV x f m).1.f5, (ctTakeV x f m).2) := by
  obtain ⟨h0, h0', h1, h1', h2, h3, h5⟩ := ctN h
  unfold spec_CenterTake.f ctTakeV
  refine Ev.bind (spec_l28Copy_ev x h) (Ev.bind (spec_IsBelieved_ev x.f0 f m h0 h0') ?_)
  by_cases c : believedB x.f0 f m = true
  · simp only [if_pos c]; exact Ev.bind (spec_PutFact_ev x.f2 f h2) (Ev.now _)
  · simp only [if_neg c]; exact Ev.now _

-- impl_copyCond
theorem copyI_evN (N : Nat) : ∀ x : S143, n143 x ≤ N → N ≤ 2097152 → Ev (fun k => impl_copyCond.f k x.f0 x.f1 x.f2 x.f3) (x.f0, x.f1, x.f2, x.f3) := by
  induction N using Nat.strongRecOn with
  | _ N ih =>
  intro x h hN
  rw [n143_f] at h
  refine Ev.succ ?_
  simp only [impl_copyCond.f]
  have key : ∀ (d i : Nat), x.f3.length - i = d → i ≤ x.f3.length → Ev (fun k => impl_copyCond.l0 k 0 0 0 [] x.f0 x.f1 x.f2 (x.f3.take i) x.f3 (x.f3.length : Int) (i : Int)) (x.f0, x.f1, x.f2, x.f3) := by
    intro d
    induction d with
    | zero =>
      intro i hd hi
      obtain rfl : i = x.f3.length := by omega
      refine Ev.succ ?_
      simp only [impl_copyCond.l0, Int.lt_irrefl, if_false, List.take_length]
      exact Ev.now _
    | succ d ihd =>
      intro i hd hi
      have hi' : i < x.f3.length := by omega
      obtain ⟨y, hy⟩ := getAt (l := x.f3) (i := i) hi'
      have hn := le_sum n143 hy
      have h1 : ((i : Int) < (x.f3.length : Int)) = True := eq_true (by omega)
      have h2 : (0 ≤ (i : Int)) = True := eq_true (by omega)
      have h3 : ((x.f3.take i).length < 2932031007402) = True := eq_true (by rw [List.length_take]; omega)
      have e := ih (n143 y) (by omega) y (Nat.le_refl _) (by omega)
      have e3 : x.f3.take i ++ [y] = x.f3.take (i + 1) := by rw [List.take_add_one, hy]; rfl
      refine Ev.succ ?_
      simp only [impl_copyCond.l0, h1, h2, if_true, rd_at_T143 hy, wr1 hi' (by omega)]
      refine Ev.bind e ?_
      simp only [h3, if_true, eta143, e3]
      exact ihd (i + 1) (by omega) (by omega)
  exact key x.f3.length 0 (by omega) (by omega)
theorem impl_copyCond_ev (x : S143) (h : n143 x ≤ 2097152) : Ev (fun k => impl_copyCond.f k x.f0 x.f1 x.f2 x.f3) (x.f0, x.f1, x.f2, x.f3) := copyI_evN _ x (Nat.le_refl _) h

-- impl_copyRules
theorem impl_copyRules_ev (l : List S145) (h : l.length ≤ 2097152) (hn : ∀ x ∈ l, n143 x.f3 ≤ 2097152) : Ev (fun k => impl_copyRules.f k l) l := by
  unfold impl_copyRules.f
  have key : ∀ (d i : Nat), l.length - i = d → i ≤ l.length → Ev (fun k => impl_copyRules.l0 k (l.take i) l (l.length : Int) (i : Int)) l := by
    intro d
    induction d with
    | zero =>
      intro i hd hi
      obtain rfl : i = l.length := by omega
      refine Ev.succ ?_
      simp only [impl_copyRules.l0, Int.lt_irrefl, if_false, List.take_length]
      exact Ev.now _
    | succ d ihd =>
      intro i hd hi
      have hi' : i < l.length := by omega
      obtain ⟨y, hy⟩ := getAt (l := l) (i := i) hi'
      have h1 : ((i : Int) < (l.length : Int)) = True := eq_true (by omega)
      have h2 : (0 ≤ (i : Int)) = True := eq_true (by omega)
      have h3 : ((l.take i).length < 1954687338268) = True := eq_true (by rw [List.length_take]; omega)
      have e3 : l.take i ++ [y] = l.take (i + 1) := by rw [List.take_add_one, hy]; rfl
      refine Ev.succ ?_
      simp only [impl_copyRules.l0, h1, h2, if_true, rd_at_T145 hy, wr1 hi' (by omega)]
      refine Ev.bind (impl_copyCond_ev y.f3 (hn y (List.mem_of_getElem? hy))) ?_
      simp only [h3, if_true, eta143, e3]
      exact ihd (i + 1) (by omega) (by omega)
  exact key l.length 0 (by omega) (by omega)

-- impl_copyPolicy
theorem impl_copyPolicy_ev (v : Int) (l : List S145) (h : l.length ≤ 2097152) (hn : ∀ x ∈ l, n143 x.f3 ≤ 2097152) : Ev (fun k => impl_copyPolicy.f k v l) (v, l) := by
  unfold impl_copyPolicy.f
  exact Ev.bind (impl_copyRules_ev l h hn) (Ev.now _)

-- impl_copyEpoch
theorem impl_copyEpoch_ev (x : S102) (h : n102 x ≤ 2097152) : Ev (fun k => impl_copyEpoch.f k x.f0 x.f1 x.f2 x.f3.f0 x.f3.f1) (x.f0, x.f1, x.f2, x.f3.f0, x.f3.f1) := by
  obtain ⟨h1, h2, h3⟩ := epN h
  unfold impl_copyEpoch.f
  refine Ev.pos (by omega) ?_
  exact Ev.bind (impl_copyPolicy_ev x.f3.f0 x.f3.f1 h2 h3) (Ev.now _)

-- impl_copyEpochs
theorem impl_copyEpochs_ev (l : List S102) (h : l.length ≤ 2097152) (hn : ∀ x ∈ l, n102 x ≤ 2097152) : Ev (fun k => impl_copyEpochs.f k l) l := by
  unfold impl_copyEpochs.f
  have key : ∀ (d i : Nat), l.length - i = d → i ≤ l.length → Ev (fun k => impl_copyEpochs.l0 k (l.take i) l (l.length : Int) (i : Int)) l := by
    intro d
    induction d with
    | zero =>
      intro i hd hi
      obtain rfl : i = l.length := by omega
      refine Ev.succ ?_
      simp only [impl_copyEpochs.l0, Int.lt_irrefl, if_false, List.take_length]
      exact Ev.now _
    | succ d ihd =>
      intro i hd hi
      have hi' : i < l.length := by omega
      obtain ⟨y, hy⟩ := getAt (l := l) (i := i) hi'
      have h1 : ((i : Int) < (l.length : Int)) = True := eq_true (by omega)
      have h2 : (0 ≤ (i : Int)) = True := eq_true (by omega)
      have h3 : ((l.take i).length < 1954687338268) = True := eq_true (by rw [List.length_take]; omega)
      have e3 : l.take i ++ [y] = l.take (i + 1) := by rw [List.take_add_one, hy]; rfl
      refine Ev.succ ?_
      simp only [impl_copyEpochs.l0, h1, h2, if_true, rd_at_T102 hy, wr1 hi' (by omega)]
      refine Ev.bind (impl_copyEpoch_ev y (hn y (List.mem_of_getElem? hy))) ?_
      simp only [h3, if_true, e3]
      exact ihd (i + 1) (by omega) (by omega)
  exact key l.length 0 (by omega) (by omega)

-- impl_copyFacts
theorem impl_copyFacts_eq (l : List S44) (h : l.length ≤ 2097152) : impl_copyFacts.f l = some l := by
  unfold impl_copyFacts.f
  rw [if_pos (by omega)]; rfl

-- impl_copyCenter
theorem copyCenter_loop_ev (l : List S92) (a : List S102) (b : List S44) (c : List S105) (s : Int) (e : List S109) (h : l.length ≤ 2097152) (hn : ∀ x ∈ l, x.f1.length ≤ 2097152) : Ev (fun k => impl_copyCenter.l0 k [] [] [] [] 0 [] [] a b c s e l (l.length : Int) 0) (l, a, b, c, s, e) := by
  have key : ∀ (d i : Nat), l.length - i = d → i ≤ l.length → Ev (fun k => impl_copyCenter.l0 k [] [] [] [] 0 [] (l.take i) a b c s e l (l.length : Int) (i : Int)) (l, a, b, c, s, e) := by
    intro d
    induction d with
    | zero =>
      intro i hd hi
      obtain rfl : i = l.length := by omega
      refine Ev.succ ?_
      simp only [impl_copyCenter.l0, Int.lt_irrefl, if_false, List.take_length]
      exact Ev.now _
    | succ d ihd =>
      intro i hd hi
      have hi' : i < l.length := by omega
      obtain ⟨y, hy⟩ := getAt (l := l) (i := i) hi'
      have h1 : ((i : Int) < (l.length : Int)) = True := eq_true (by omega)
      have h2 : (0 ≤ (i : Int)) = True := eq_true (by omega)
      have h3 : ((l.take i).length < 3518437208883) = True := eq_true (by rw [List.length_take]; omega)
      have h4 : (0 + y.f1.length ≤ 17592186044416) = True := eq_true (by have := hn y (List.mem_of_getElem? hy); omega)
      have e3 : l.take i ++ [y] = l.take (i + 1) := by rw [List.take_add_one, hy]; rfl
      refine Ev.succ ?_
      simp only [impl_copyCenter.l0, h1, h2, h3, h4, if_true, rd_at_T92 hy, wr1 hi' (by omega), List.nil_append, e3]
      exact ihd (i + 1) (by omega) (by omega)
  exact key l.length 0 (by omega) (by omega)
theorem impl_copyCenter_ev (x : S40) (h : n40 x ≤ 2097152) : Ev (fun k => impl_copyCenter.f k x.f0 x.f1 x.f2 x.f3 x.f4 x.f5) (x.f0, x.f1, x.f2, x.f3, x.f4, x.f5) := by
  obtain ⟨h0, h0', h1, h1', h2, h3, h5⟩ := ctN h
  unfold impl_copyCenter.f
  refine Ev.bind (impl_copyEpochs_ev x.f1 h1 h1') ?_
  simp only [impl_copyFacts_eq x.f2 h2, Option.bind_some, List.nil_append]
  exact Ev.pos (by omega) (Ev.pos (by omega) (copyCenter_loop_ev x.f0 x.f1 x.f2 x.f3 x.f4 x.f5 h0 h0'))

-- impl_InRange
theorem impl_InRange_eq (a b c : Int) : impl_InRange.f a b c = some (inB a b c) := by
  unfold impl_InRange.f
  rw [ite_dand]; rfl

-- impl_IsName
theorem impl_IsName_eq (a : Int) : impl_IsName.f a = some (nameB a) := by
  unfold impl_IsName.f
  rw [impl_InRange_eq]; rfl

-- impl_KindOf
theorem impl_KindOf_eq (a : Int) : impl_KindOf.f a = some (if nameB a = true then a / 10 else 0) := by
  unfold impl_KindOf.f
  rw [impl_IsName_eq, Option.bind_some]
  cases h : nameB a with
  | true => simp only [if_true, name_div h]
  | false => rfl

-- impl_HasKind
theorem impl_HasKind_eq (a b : Int) : impl_HasKind.f a b = some (kindB a b) := by
  unfold impl_HasKind.f kindB
  rw [impl_IsName_eq, impl_KindOf_eq, Option.bind_some]
  cases h : nameB a with
  | true => simp only [if_true, Option.bind_some, Bool.true_and]; rfl
  | false => rfl

-- impl_isClaim
theorem impl_isClaim_eq (x : S44) : impl_isClaim.f x.f0 x.f1 x.f2 x.f3 x.f4 x.f5 = some (claimB x) := by
  unfold impl_isClaim.f claimB
  simp only [impl_HasKind_eq, impl_InRange_eq, Option.bind_some, ite_and]
  (repeat' split) <;> rfl

-- impl_IsTime
theorem impl_IsTime_eq (a : Int) : impl_IsTime.f a = some (timeB a) := by
  unfold impl_IsTime.f
  rw [impl_InRange_eq]; rfl

-- impl_IsFact
theorem impl_IsFact_eq (x : S44) : impl_IsFact.f x.f0 x.f1 x.f2 x.f3 x.f4 x.f5 = some (factB x) := by
  unfold impl_IsFact.f factB
  simp only [impl_isClaim_eq, impl_InRange_eq, impl_IsTime_eq, Option.bind_some, ite_and]

-- impl_compareClaims
def cmp4 (a b c d a' b' c' d' : Int) : Int := if a < a' then -1 else if a > a' then 1 else if b < b' then -1 else if b > b' then 1 else if c < c' then -1 else if c > c' then 1 else if d < d' then -1 else if d > d' then 1 else 0
theorem impl_compareClaims_ev (a b c d e f a' b' c' d' e' f' : Int) : Ev (fun k => impl_compareClaims.f k a b c d e f a' b' c' d' e' f') (cmp4 a b c d a' b' c' d') := by
  have st : ∀ {g h : Nat → Option Int} {x y r : Int}, Ev g r → (∀ k, h (k + 1) = if x < y then some (-1) else if x > y then some 1 else g k) → Ev h (if x < y then -1 else if x > y then 1 else r) := by
    intro g h x y r hg e
    refine Ev.succ (Ev.eqv rfl ?_)
    simp only [e]
    refine Ev.ite (fun c1 => ?_) (fun c1 => Ev.ite (fun c2 => ?_) (fun c2 => ?_))
    · rw [if_pos c1]; exact Ev.now _
    · rw [if_neg c1, if_pos c2]; exact Ev.now _
    · rw [if_neg c1, if_neg c2]; exact hg
  have w0 : wrap64 1 = 1 := wr (by omega) (by omega)
  have w1 : wrap64 2 = 2 := wr (by omega) (by omega)
  have w2 : wrap64 3 = 3 := wr (by omega) (by omega)
  have w3 : wrap64 4 = 4 := wr (by omega) (by omega)
  have h4 : Ev (fun k => impl_compareClaims.l0 k a b c d a' b' c' d' 4) 0 := by
    refine Ev.succ ?_
    simp only [impl_compareClaims.l0, Int.lt_irrefl, if_false]
    exact Ev.now _
  have h3 := st (h := fun k => impl_compareClaims.l0 k a b c d a' b' c' d' 3) (x := d) (y := d') h4 (fun k => by simp [impl_compareClaims.l0, w3])
  have h2 := st (h := fun k => impl_compareClaims.l0 k a b c d a' b' c' d' 2) (x := c) (y := c') h3 (fun k => by simp [impl_compareClaims.l0, w2])
  have h1 := st (h := fun k => impl_compareClaims.l0 k a b c d a' b' c' d' 1) (x := b) (y := b') h2 (fun k => by simp [impl_compareClaims.l0, w1])
  exact st (h := fun k => impl_compareClaims.l0 k a b c d a' b' c' d' 0) (x := a) (y := a') h1 (fun k => by simp [impl_compareClaims.l0, w0])

-- impl_FactBefore
theorem impl_FactBefore_ev (y x : S44) : Ev (fun k => impl_FactBefore.f k y.f0 y.f1 y.f2 y.f3 y.f4 y.f5 x.f0 x.f1 x.f2 x.f3 x.f4 x.f5) (factQ y x) := by
  unfold impl_FactBefore.f
  refine Ev.bind (impl_compareClaims_ev _ _ _ _ _ _ _ _ _ _ _ _) (Ev.eqv ?_ (Ev.now _))
  unfold cmp4 factQ
  rw [Bool.eq_iff_iff]
  (repeat' split) <;> simp only [decide_eq_true_eq] <;> omega

-- impl_IsStore
theorem impl_IsStore_ev (l : List S44) (h : l.length ≤ 2097152) : Ev (fun k => impl_IsStore.f k l) (storeB l) := by
  unfold impl_IsStore.f storeB
  refine ev_adj l factB factQ _ (fun k i => impl_IsStore.l0 k l l (l.length : Int) i) ?_ ?_ ?_
  · refine Ev.succ ?_
    simp only [impl_IsStore.l0, Int.lt_irrefl, if_false]
    exact Ev.now _
  · intro x r hx hr
    have hi := lt_of_get hx
    have h1 : ((0 : Int) < (l.length : Int)) = True := eq_true (by omega)
    have e := rd_at_T44 hx
    have e2 := wr1 hi (show l.length ≤ 9223372036854775807 by omega)
    simp only [Int.ofNat_zero, Int.natCast_zero] at e e2
    refine Ev.succ ?_
    simp only [impl_IsStore.l0, h1, if_true, Int.le_refl, gt_iff_lt, Int.lt_irrefl, if_false, e, e2, impl_IsFact_eq, Option.bind_some]
    exact Ev.bifT fun _ => hr
  · intro i y x r hy hx hr
    have hi := lt_of_get hx
    have h1 : (((i + 1 : Nat) : Int) < (l.length : Int)) = True := eq_true (by omega)
    have h2 : (0 ≤ ((i + 1 : Nat) : Int)) = True := eq_true (by omega)
    have h3 : (((i + 1 : Nat) : Int) > 0) = True := eq_true (by omega)
    have h4 : (0 ≤ (i : Int)) = True := eq_true (by omega)
    have h5 : ((i : Int) < (l.length : Int)) = True := eq_true (by omega)
    refine Ev.succ ?_
    simp only [impl_IsStore.l0, h1, h2, h3, h4, h5, if_true, rd_at_T44 hx, rd_at_T44 hy, wr1 hi (show l.length ≤ 9223372036854775807 by omega), wrp hi (show l.length ≤ 9223372036854775807 by omega), impl_IsFact_eq, Option.bind_some]
    exact Ev.bifT fun _ => Ev.band (impl_FactBefore_ev y x) fun _ => hr

-- impl_SameClaim
theorem impl_SameClaim_ev (y x : S44) : Ev (fun k => impl_SameClaim.f k y.f0 y.f1 y.f2 y.f3 y.f4 y.f5 x.f0 x.f1 x.f2 x.f3 x.f4 x.f5) (sameF y x) := by
  unfold impl_SameClaim.f
  refine Ev.bind (impl_compareClaims_ev _ _ _ _ _ _ _ _ _ _ _ _) (Ev.eqv ?_ (Ev.now _))
  unfold cmp4
  rw [Bool.eq_iff_iff, sameF_iff]
  (repeat' split) <;> first | (simp only [decide_eq_true_eq]; omega) | (simp; omega)

-- impl_isLater
theorem impl_isLater_eq (y x : S44) : impl_isLater.f y.f0 y.f1 y.f2 y.f3 y.f4 y.f5 x.f0 x.f1 x.f2 x.f3 x.f4 x.f5 = some (laterF y x) := by
  unfold impl_isLater.f laterF
  (repeat' split) <;> rfl

-- impl_PutFact
theorem insert_one (l : List S44) (i : Nat) (f : S44) (hi : i ≤ l.length) (hl : l.length ≤ 2097152) : slices_Insert66.f l (i : Int) [f] = some (l.take i ++ f :: l.drop i) := by
  unfold slices_Insert66.f
  simp only []
  rw [if_pos (by omega), if_pos (by omega), if_pos (by omega), Int.toNat_natCast]
theorem impl_PutFact_ev (l : List S44) (f : S44) (hl : l.length ≤ 2097152) : Ev (fun k => impl_PutFact.f k l f.f0 f.f1 f.f2 f.f3 f.f4 f.f5) (putFV l f) := by
  unfold impl_PutFact.f putFV
  simp only [impl_copyFacts_eq l hl, Option.bind_some, List.nil_append]
  refine Ev.bind (impl_IsStore_ev l hl) ?_
  by_cases c : storeB l = true
  · simp only [if_pos c, impl_IsFact_eq f, Option.bind_some]
    by_cases c2 : factB f = true
    · simp only [if_pos c2]
      have h30 := store_len c
      have key : ∀ (d i : Nat), l.length - i = d → i ≤ l.length → Ev (fun k => impl_PutFact.l0 k l f.f0 f.f1 f.f2 f.f3 f.f4 f.f5 l (i : Int)) (if (l.take i ++ insL f (l.drop i)).length > 30 then (l, false) else (l.take i ++ insL f (l.drop i), true)) := by
        intro d
        induction d with
        | zero =>
          intro i hd hi
          obtain rfl : i = l.length := by omega
          refine Ev.succ ?_
          simp only [impl_PutFact.l0, Int.lt_irrefl, if_false, insert_one l l.length f (Nat.le_refl _) hl, Option.bind_some, List.take_length, List.drop_length, insL]
          by_cases c3 : (l.length : Int) = 30
          · rw [if_pos (show (l ++ [f]).length > 30 by rw [List.length_append, List.length_singleton]; omega)]
            exact Ev.pos c3 (Ev.now _)
          · rw [if_neg (show ¬ (l ++ [f]).length > 30 by rw [List.length_append, List.length_singleton]; omega)]
            exact Ev.neg c3 (Ev.now _)
        | succ d ih =>
          intro i hd hi
          have hi' : i < l.length := by omega
          obtain ⟨x, hx⟩ := getAt (l := l) (i := i) hi'
          have h1 : ((i : Int) < (l.length : Int)) = True := eq_true (by omega)
          have h2 : (0 ≤ (i : Int)) = True := eq_true (by omega)
          have ed : l.drop i = x :: l.drop (i + 1) := by
            rw [List.drop_eq_getElem_cons hi']
            rw [List.getElem?_eq_getElem hi'] at hx
            rw [Option.some.inj hx]
          have et : l.take (i + 1) = l.take i ++ [x] := by rw [List.take_add_one, hx]; rfl
          have hil := ih (i + 1) (by omega) (by omega)
          refine Ev.succ ?_
          simp only [impl_PutFact.l0, h1, h2, if_true, rd_at_T44 hx, wr1 hi' (show l.length ≤ 9223372036854775807 by omega)]
          refine Ev.bind (impl_FactBefore_ev x f) ?_
          rw [ed]
          unfold insL
          by_cases q1 : factQ x f = true
          · simp only [if_pos q1]
            rw [et, List.append_assoc, List.singleton_append] at hil
            exact hil
          · simp only [if_neg q1]
            refine Ev.bind (impl_SameClaim_ev x f) ?_
            by_cases q2 : sameF x f = true
            · have hlen : (l.take i ++ mergeF f x :: l.drop (i + 1)).length = l.length := by
                rw [List.length_append, List.length_cons, List.length_take, List.length_drop]; omega
              simp only [if_pos q2, impl_isLater_eq f x, Option.bind_some]
              rw [if_neg (show ¬ (l.take i ++ mergeF f x :: l.drop (i + 1)).length > 30 by omega)]
              unfold mergeF
              by_cases q3 : laterF f x = true
              · simp only [if_pos q3, Int.toNat_natCast]
                refine Ev.eqv ?_ (Ev.now _)
                rw [List.set_eq_take_append_cons_drop, if_pos hi']
              · simp only [if_neg q3]
                refine Ev.eqv ?_ (Ev.now _)
                rw [← ed, List.take_append_drop]
            · simp only [if_neg q2]
              have hlen : (l.take i ++ f :: x :: l.drop (i + 1)).length = l.length + 1 := by
                rw [List.length_append, List.length_cons, List.length_cons, List.length_take, List.length_drop]; omega
              by_cases c3 : (l.length : Int) = 30
              · rw [if_pos (show (l.take i ++ f :: x :: l.drop (i + 1)).length > 30 by omega)]
                exact Ev.pos c3 (Ev.now _)
              · rw [if_neg (show ¬ (l.take i ++ f :: x :: l.drop (i + 1)).length > 30 by omega)]
                refine Ev.neg c3 ?_
                simp only [insert_one l i f hi hl, Option.bind_some]
                rw [ed]
                exact Ev.now _
      have := key l.length 0 (by omega) (by omega)
      simpa using this
    · simp only [if_neg c2]; exact Ev.now _
  · simp only [if_neg c]; exact Ev.now _

-- impl_FindIssuer
theorem impl_FindIssuer_ev (l : List S92) (n : Int) (h : l.length ≤ 2097152) : Ev (fun k => impl_FindIssuer.f k l n) (idxV (fun x : S92 => x.f0 == n) l 0) := by
  have e : Ev (fun k => slices_IndexFunc100_101.f k l n) (idxV (fun x : S92 => x.f0 == n) l 0) := by
    unfold slices_IndexFunc100_101.f
    refine idx_ev (fun k i => slices_IndexFunc100_101.l0 k l n (l.length : Int) i) (fun x : S92 => x.f0 == n) l 0 l.length (by omega) ?_ ?_
    · refine Ev.succ ?_
      simp only [slices_IndexFunc100_101.l0, Int.lt_irrefl, if_false]
      exact Ev.now _
    · intro j x r _ hx
      rw [Nat.sub_zero] at hx
      have hj := lt_of_get hx
      have h1 : ((j : Int) < (l.length : Int)) = True := eq_true (by omega)
      have h2 : (0 ≤ (j : Int)) = True := eq_true (by omega)
      constructor
      · intro hp
        have c : x.f0 = n := by simpa using hp
        refine Ev.succ ?_
        simp only [slices_IndexFunc100_101.l0, h1, h2, if_true, rd_at_T92 hx, cl101.f, Option.bind_some, decide_eq_true c]
        exact Ev.now _
      · intro hp he
        have c : ¬ x.f0 = n := by simpa using hp
        refine Ev.succ ?_
        simp only [slices_IndexFunc100_101.l0, h1, h2, if_true, rd_at_T92 hx, cl101.f, Option.bind_some, decide_eq_false c, Bool.false_eq_true, if_false, wr1 hj (by omega)]
        exact he
  unfold impl_FindIssuer.f
  exact Ev.bind e (Ev.now _)

-- impl_isAscending
theorem impl_isAscending_ev (l : List Int) (a b : Int) (h : l.length ≤ 9223372036854775807) : Ev (fun k => impl_isAscending.f k l a b) (allN l.length (ascP l a b) && true) := by
  unfold impl_isAscending.f
  refine ev_all l.length (ascP l a b) true (fun k i => impl_isAscending.l0 k l a b l (l.length : Int) i) ?_ ?_
  · refine Ev.succ ?_
    simp only [impl_isAscending.l0, Int.lt_irrefl, if_false]
    exact Ev.now _
  · intro i hi
    have h1 : ((i : Int) < (l.length : Int)) = True := eq_true (by omega)
    have h2 : (0 ≤ (i : Int)) = True := eq_true (by omega)
    constructor
    · intro hp r hr
      simp only [ascP, Bool.and_eq_true, Bool.or_eq_true, decide_eq_true_eq] at hp
      refine Ev.succ ?_
      simp only [impl_isAscending.l0, h1, h2, if_true, impl_InRange_eq, Option.bind_some, hp.1, wr1 hi h]
      by_cases c : i = 0
      · exact Ev.neg (by omega) hr
      · simp only [if_pos (show (i : Int) > 0 by omega), wrm (show 0 < i by omega) (by omega), if_pos (show 0 ≤ ((i - 1 : Nat) : Int) by omega), if_pos (show ((i - 1 : Nat) : Int) < (l.length : Int) by omega)]
        exact Ev.neg (by have := hp.2; omega) hr
    · intro hp
      refine Ev.succ ?_
      simp only [impl_isAscending.l0, h1, h2, if_true, impl_InRange_eq, Option.bind_some, wr1 hi h]
      cases c0 : inB (rd l (i : Int)) a b with
      | false => exact Ev.now _
      | true =>
        simp only [ascP, c0, Bool.true_and, Bool.or_eq_false_iff, decide_eq_false_iff_not] at hp
        simp only [if_true, if_pos (show (i : Int) > 0 by omega), wrm (show 0 < i by omega) (by omega), if_pos (show 0 ≤ ((i - 1 : Nat) : Int) by omega), if_pos (show ((i - 1 : Nat) : Int) < (l.length : Int) by omega)]
        exact Ev.pos (by omega) (Ev.now _)

-- impl_IsValidKey
theorem impl_IsValidKey_eq (a : Int) : impl_IsValidKey.f a = some (keyB a) := by
  unfold impl_IsValidKey.f; rw [impl_InRange_eq]; rfl

-- impl_IsIssuer
theorem impl_IsIssuer_ev (x : S92) (h : x.f1.length ≤ 2097152) : Ev (fun k => impl_IsIssuer.f k x.f0 x.f1 x.f2) (issB x) := by
  unfold impl_IsIssuer.f issB
  simp only [impl_InRange_eq, impl_IsValidKey_eq, Option.bind_some]
  exact Ev.bifT fun _ => Ev.band (impl_isAscending_ev x.f1 1 4 (by omega)) fun _ => Ev.now _

-- slices_Index123
theorem slices_Index123_ev (l : List Int) (a : Int) (h : l.length ≤ 1073741824) : Ev (fun k => slices_Index123.f k l a) (idxV (fun x => decide (a = x)) l 0) := by
  unfold slices_Index123.f
  refine idx_ev (fun k i => slices_Index123.l0 k l a (l.length : Int) i) (fun x => decide (a = x)) l 0 l.length (by omega) ?_ ?_
  · refine Ev.succ ?_
    simp only [slices_Index123.l0, Int.lt_irrefl, if_false]
    exact Ev.now _
  · intro j x r _ hx
    rw [Nat.sub_zero] at hx
    have hj := lt_of_get hx
    have h1 : ((j : Int) < (l.length : Int)) = True := eq_true (by omega)
    have h2 : (0 ≤ (j : Int)) = True := eq_true (by omega)
    constructor
    · intro hp
      refine Ev.succ ?_
      simp only [slices_Index123.l0, h1, h2, if_true, rd_nat _ _ _ hx, of_decide_eq_true hp]
      exact Ev.now _
    · intro hp he
      refine Ev.succ ?_
      simp only [slices_Index123.l0, h1, h2, if_true, rd_nat _ _ _ hx, if_neg (of_decide_eq_false hp), wr1 hj (by omega)]
      exact he

-- slices_Contains103
theorem idxV_anyJ {α : Type} (q : α → Bool) : ∀ (l : List α) (i : Int), 0 ≤ i → decide (idxV q l i ≥ 0) = l.any q
  | [], i, _ => by simp [idxV]
  | x :: l, i, h => by
    unfold idxV
    rw [List.any_cons]
    cases c : q x with
    | true => simp only [if_true, Bool.true_or]; exact decide_eq_true h
    | false => simp only [Bool.false_eq_true, if_false, Bool.false_or]; exact idxV_anyJ q l (i + 1) (by omega)
theorem slices_Contains103_ev (l : List Int) (a : Int) (h : l.length ≤ 1073741824) : Ev (fun k => slices_Contains103.f k l a) (hasI l a) := by
  unfold slices_Contains103.f
  refine Ev.bind (slices_Index123_ev l a h) ?_
  exact Ev.eqv (idxV_anyJ (fun x => decide (a = x)) l 0 (by omega)) (Ev.now _)

-- slices_Grow_int_int
-- told where Concat is

-- slices_Concat125
theorem slices_Grow_int_int_eq (l : List Int) (n : Int) (h0 : 0 < n) (h1 : n < 2199023255552) : slices_Grow_int_int.f l n = some [] := by
  unfold slices_Grow_int_int.f
  rw [if_pos h0, if_pos h1]
theorem slices_Concat125_ev (ll : List (List Int)) (h0 : 0 < ll.flatten.length) (h1 : ll.flatten.length ≤ 2097152) (hl : ll.length ≤ 2097152) : Ev (fun k => slices_Concat125.f k ll) ll.flatten := by
  have hrd : ∀ {i : Nat} {x : List Int}, ll[i]? = some x → ll.getD (i : Int).toNat [] = x := fun hx => getD_nat ll [] _ _ hx
  unfold slices_Concat125.f
  have hsum : ∀ (l : List (List Int)) (s : Int), l.foldl (fun s x => s + (x.length : Int)) s = s + (l.flatten.length : Int) := by
    intro l
    induction l with
    | nil => intro s; simp
    | cons x l ih => intro s; rw [List.foldl_cons, ih]; simp only [List.flatten_cons, List.length_append]; omega
  have hin : ∀ (i : Nat) x, ll[i]? = some x → (ll.take (i + 1)).flatten.length = (ll.take i).flatten.length + x.length := by
    intro i x hx
    rw [List.take_add_one, hx, List.flatten_append, List.length_append]
    simp
  have hle : ∀ i : Nat, (ll.take i).flatten.length ≤ ll.flatten.length := by
    intro i
    conv => rhs; rw [← List.take_append_drop i ll]
    rw [List.flatten_append, List.length_append]; omega
  refine Ev.eqv (a := (fun s : Int => if 0 < s ∧ s < 2199023255552 then ll.flatten else []) (ll.foldl (fun s x => s + (x.length : Int)) 0)) (by simp only [hsum]; rw [if_pos (by omega)]) ?_
  refine ev_fold ll (fun (s : Int) x => s + (x.length : Int)) (fun s : Int => if 0 < s ∧ s < 2199023255552 then ll.flatten else []) (fun i s => s = ((ll.take i).flatten.length : Int)) (fun k s i => slices_Concat125.l0 k ll s ll (ll.length : Int) i) ?_ ?_ ?_ 0 (by simp)
  · intro s hs
    rw [List.take_length] at hs
    refine Ev.succ ?_
    simp only [slices_Concat125.l0, Int.lt_irrefl, if_false]
    rw [slices_Grow_int_int_eq [] s (by omega) (by omega), if_pos (by omega)]
    simp only [Option.bind_some]
    refine Ev.eqv (a := (fun o : List Int => o) (ll.foldl (fun o x => o ++ x) [])) ?_ ?_
    · have : ∀ (l : List (List Int)) (o : List Int), l.foldl (fun o x => o ++ x) o = o ++ l.flatten := by
        intro l
        induction l with
        | nil => intro o; simp
        | cons x l ih => intro o; rw [List.foldl_cons, ih]; simp
      rw [this]; rfl
    · refine ev_fold ll (fun (o : List Int) x => o ++ x) (fun o => o) (fun i o => o.length = (ll.take i).flatten.length) (fun k o i => slices_Concat125.l1 k o ll (ll.length : Int) i) ?_ ?_ ?_ [] (by simp)
      · intro o _
        refine Ev.succ ?_
        simp only [slices_Concat125.l1, Int.lt_irrefl, if_false]
        exact Ev.now _
      · intro i x o hx ho
        rw [List.length_append, ho, hin i x hx]
      · intro i x o r hx ho hr
        have hi := lt_of_get hx
        have h1' : ((i : Int) < (ll.length : Int)) = True := eq_true (by omega)
        have h2' : (0 ≤ (i : Int)) = True := eq_true (by omega)
        have e1 := hin i x hx
        have e2 := hle (i + 1)
        have e3 : rdOf ([] : List Int) ll (i : Int) = x := getD_nat ll [] i x hx
        refine Ev.succ ?_
        simp only [slices_Concat125.l1, h1', h2', if_true, e3, wr1 hi (by omega)]
        exact Ev.pos (by omega) hr
  · intro i x s hx hs
    rw [hs, hin i x hx]; omega
  · intro i x s r hx hs hr
    have hi := lt_of_get hx
    have h1' : ((i : Int) < (ll.length : Int)) = True := eq_true (by omega)
    have h2' : (0 ≤ (i : Int)) = True := eq_true (by omega)
    have e1 := hin i x hx
    have e2 := hle (i + 1)
    have e3 : rdOf ([] : List Int) ll (i : Int) = x := getD_nat ll [] i x hx
    have e4 : wrap64 (s + (x.length : Int)) = s + (x.length : Int) := wr (by omega) (by omega)
    refine Ev.succ ?_
    simp only [slices_Concat125.l0, h1', h2', if_true, e3, e4, wr1 hi (by omega)]
    exact Ev.neg (by omega) hr

-- impl_Mod
theorem impl_Mod_eq (a : Int) : impl_Mod.f a 2147483647 = some (mdV a) := by
  unfold impl_Mod.f; rw [impl_InRange_eq]; rfl

-- impl_Hash
theorem impl_Hash_ev (l : List Int) (h : l.length ≤ 2097152) : Ev (fun k => impl_Hash.f k l) (hashV l) := by
  unfold impl_Hash.f hashV
  refine ev_fold l hsX (fun s => s) (fun _ _ => True) (fun k s i => impl_Hash.l0 k s l (l.length : Int) i) ?_ (fun _ _ _ _ _ => trivial) ?_ 11 trivial
  · intro s _
    refine Ev.succ ?_
    simp only [impl_Hash.l0, Int.lt_irrefl, if_false]
    exact Ev.now _
  · intro i x s r hx _ hr
    have hi := lt_of_get hx
    have h1 : ((i : Int) < (l.length : Int)) = True := eq_true (by omega)
    have h2 : (0 ≤ (i : Int)) = True := eq_true (by omega)
    refine Ev.succ ?_
    simp only [impl_Hash.l0, h1, h2, if_true, rd_nat l i x hx, impl_Mod_eq, Option.bind_some, wr1 hi (by omega)]
    exact hr

-- impl_KeyedHash
theorem impl_KeyedHash_ev (a : Int) (l : List Int) (h : l.length ≤ 1000) : Ev (fun k => impl_KeyedHash.f k a l) (khV a l) := by
  unfold impl_KeyedHash.f khV
  have e : ([[a], l, [a]] : List (List Int)).flatten = [a] ++ l ++ [a] := by simp
  refine Ev.bind (slices_Concat125_ev _ (by rw [e]; simp) (by rw [e]; simp only [List.length_append, List.length_singleton]; omega) (by simp)) ?_
  rw [e]
  exact Ev.bind (impl_Hash_ev _ (by simp only [List.length_append, List.length_singleton]; omega)) (Ev.now _)

-- impl_StateFact
theorem impl_StateFact_ev (x : S92) (f : S44) (h : x.f1.length ≤ 2097152) : Ev (fun k => impl_StateFact.f k x.f0 x.f1 x.f2 f.f0 f.f1 f.f2 f.f3 f.f4 f.f5) (statedV x f) := by
  unfold impl_StateFact.f statedV
  refine Ev.bind (impl_IsIssuer_ev x h) ?_
  by_cases c : issB x = true
  · simp only [if_pos c, impl_IsFact_eq ⟨f.f0, f.f1, f.f2, x.f0, f.f4, f.f5⟩, Option.bind_some]
    by_cases c2 : factB ⟨f.f0, f.f1, f.f2, x.f0, f.f4, f.f5⟩ = true
    · simp only [if_pos c2]
      refine Ev.bind (slices_Contains103_ev x.f1 f.f0 (by omega)) ?_
      by_cases c3 : hasI x.f1 f.f0 = true
      · simp only [if_pos c3, impl_FactInts.f, Option.bind_some]
        exact Ev.bind (impl_KeyedHash_ev x.f2 _ (by simp)) (Ev.now _)
      · simp only [if_neg c3]; exact Ev.now _
    · simp only [if_neg c2]; exact Ev.now _
  · simp only [if_neg c]; exact Ev.now _

-- impl_IsBelieved
theorem impl_IsBelieved_ev (l : List S92) (f : S44) (m : Int) (h : l.length ≤ 2097152) (hn : ∀ x ∈ l, x.f1.length ≤ 2097152) : Ev (fun k => impl_IsBelieved.f k l f.f0 f.f1 f.f2 f.f3 f.f4 f.f5 m) (believedB l f m) := by
  unfold impl_IsBelieved.f believedB
  refine Ev.bind (impl_FindIssuer_ev l f.f3 h) ?_
  by_cases c : idxV (fun x : S92 => x.f0 == f.f3) l 0 < 0
  · simp only [if_pos c]; exact Ev.now _
  · simp only [if_neg c]
    obtain ⟨c1, c2⟩ := idxV_in _ l c
    refine Ev.pos c1 (Ev.pos c2 ?_)
    obtain ⟨j, hj⟩ : ∃ j : Nat, idxV (fun x : S92 => x.f0 == f.f3) l 0 = (j : Int) := ⟨_, (Int.toNat_of_nonneg c1).symm⟩
    rw [hj] at c2 ⊢
    obtain ⟨y, hy⟩ := getAt (l := l) (i := j) (by omega)
    simp only [rd_at_T92 hy]
    refine Ev.bind (impl_StateFact_ev y f (hn y (List.mem_of_getElem? hy))) ?_
    exact Ev.ite (fun c3 => by rw [if_pos c3]; exact Ev.now _) (fun c3 => by rw [if_neg c3]; exact Ev.now _)

-- impl_CenterTake
theorem impl_CenterTake_ev (x : S40) (f : S44) (m : Int) (h : n40 x ≤ 2097152) : Ev (fun k => impl_CenterTake.f k x.f0 x.f1 x.f2 x.f3 x.f4 x.f5 f.f0 f.f1 f.f2 f.f3 f.f4 f.f5 m) ((ctTakeV x f m).1.f0, (ctTakeV x f m).1.f1, (ctTakeV x f m).1.f2, (ctTakeV x f m).1.f3, (ctTakeV x f m).1.f4, (ctTakeV x f m).1.f5, (ctTakeV x f m).2) := by
  obtain ⟨h0, h0', h1, h1', h2, h3, h5⟩ := ctN h
  unfold impl_CenterTake.f ctTakeV
  refine Ev.bind (impl_copyCenter_ev x h) (Ev.bind (impl_PutFact_ev x.f2 f h2) (Ev.bind (impl_IsBelieved_ev x.f0 f m h0 h0') ?_))
  by_cases c : believedB x.f0 f m = true
  · simp only [if_pos c]
    by_cases c2 : (putFV x.f2 f).2 = true
    · simp only [if_pos c2]; rw [c2]; exact Ev.now _
    · simp only [if_neg c2]; rw [putFV_no c2, eq_false_of_ne_true c2]; exact Ev.now _
  · simp only [if_neg c]; exact Ev.now _

-- laws_eqIntS
theorem laws_eqIntS_refl (l : List Int) (h : l.length ≤ 2097152) : Ev (fun k => laws_eqIntS.f k l l) true := by
  unfold laws_eqIntS.f
  refine Ev.pos rfl ?_
  refine ev_walk l (fun k i => laws_eqIntS.l0 k l l i) true ?_ ?_
  · refine Ev.succ ?_
    simp only [laws_eqIntS.l0, Int.lt_irrefl, if_false]
    exact Ev.now _
  · intro i x hx hr
    have hi := lt_of_get hx
    have h1 : ((i : Int) < (l.length : Int)) = True := eq_true (by omega)
    have h2 : (0 ≤ (i : Int)) = True := eq_true (by omega)
    refine Ev.succ ?_
    simp only [laws_eqIntS.l0, h1, h2, if_true, rd_nat l i x hx, wr1 hi (by omega)]
    exact hr

-- laws_eqIssuer
theorem laws_eqIssuer_refl (x : S92) (h : n92 x ≤ 2097152) : Ev (fun k => laws_eqIssuer.f k x.f0 x.f1 x.f2 x.f0 x.f1 x.f2) true := by
  unfold n92 at h
  unfold laws_eqIssuer.f
  simp only [if_true, bne_self_eq_false, Bool.false_eq_true, if_false]
  repeat (first | exact Ev.now _ | (refine Ev.bind (laws_eqIntS_refl _ (by omega)) ?_; simp only [if_true, bne_self_eq_false, Bool.false_eq_true, if_false]))

-- laws_eqIssuerS
theorem laws_eqIssuerS_refl (l : List (S92)) (h : l.length + (l.map n92).sum ≤ 2097152) : Ev (fun k => laws_eqIssuerS.f k l l) true := by
  unfold laws_eqIssuerS.f
  refine Ev.pos rfl ?_
  refine ev_walk l (fun k i => laws_eqIssuerS.l0 k l l i) true ?_ ?_
  · refine Ev.succ ?_
    simp only [laws_eqIssuerS.l0, Int.lt_irrefl, if_false]
    exact Ev.now _
  · intro i x hx hr
    have hi := lt_of_get hx
    have h1 : ((i : Int) < (l.length : Int)) = True := eq_true (by omega)
    have h2 : (0 ≤ (i : Int)) = True := eq_true (by omega)
    refine Ev.succ ?_
    simp only [laws_eqIssuerS.l0, h1, h2, if_true, rd_at_T92 hx, wr1 hi (by omega)]
    refine Ev.bind (laws_eqIssuer_refl x (by have := le_sum n92 hx; omega)) ?_
    simp only [if_true]
    exact hr

-- laws_eqIncludes
theorem laws_eqIncludes_refl (x : S140) : laws_eqIncludes.f x.f0 x.f1 x.f0 x.f1 = some true := by
  unfold laws_eqIncludes.f
  simp

-- laws_eqIncludesS
theorem laws_eqIncludesS_refl (l : List (S140)) (h : l.length ≤ 2097152) : Ev (fun k => laws_eqIncludesS.f k l l) true := by
  unfold laws_eqIncludesS.f
  refine Ev.pos rfl ?_
  refine ev_walk l (fun k i => laws_eqIncludesS.l0 k l l i) true ?_ ?_
  · refine Ev.succ ?_
    simp only [laws_eqIncludesS.l0, Int.lt_irrefl, if_false]
    exact Ev.now _
  · intro i x hx hr
    have hi := lt_of_get hx
    have h1 : ((i : Int) < (l.length : Int)) = True := eq_true (by omega)
    have h2 : (0 ≤ (i : Int)) = True := eq_true (by omega)
    refine Ev.succ ?_
    simp only [laws_eqIncludesS.l0, h1, h2, if_true, rd_at_T140 hx, wr1 hi (by omega), laws_eqIncludes_refl x, Option.bind_some]
    exact hr

-- laws_eqCondS
theorem laws_eqCondS_reflN (N : Nat) : ∀ l : List S143, l.length + (l.map n143).sum ≤ N → N ≤ 2097152 → Ev (fun k => laws_eqCondS.f k l l) true := by
  induction N using Nat.strongRecOn with
  | _ N ih =>
  intro l h hN
  refine Ev.succ ?_
  simp only [laws_eqCondS.f]
  refine Ev.pos (by first | trivial | rfl) ?_
  refine ev_walk l (fun k i => laws_eqCondS.l0 k l l i) true ?_ ?_
  · refine Ev.succ ?_
    simp only [laws_eqCondS.l0, Int.lt_irrefl, if_false]
    exact Ev.now _
  · intro i x hx hr
    have hi := lt_of_get hx
    have h1 : ((i : Int) < (l.length : Int)) = True := eq_true (by omega)
    have h2 : (0 ≤ (i : Int)) = True := eq_true (by omega)
    have hn := le_sum n143 hx
    rw [n143_f] at hn
    have e := ih (x.f3.length + (x.f3.map n143).sum) (by omega) x.f3 (Nat.le_refl _) (by omega)
    have e' : Ev (fun k => laws_eqCond.f k x.f0 x.f1 x.f2 x.f3 x.f0 x.f1 x.f2 x.f3) true := by
      refine Ev.succ ?_
      simp only [laws_eqCond.f, if_true]
      refine Ev.bind e ?_
      simp only [if_true]
      exact Ev.now _
    refine Ev.succ ?_
    simp only [laws_eqCondS.l0, h1, h2, if_true, rd_at_T143 hx, wr1 hi (by omega)]
    refine Ev.bind e' ?_
    simp only [if_true]
    exact hr
theorem laws_eqCondS_refl (l : List S143) (h : l.length + (l.map n143).sum ≤ 2097152) : Ev (fun k => laws_eqCondS.f k l l) true := laws_eqCondS_reflN _ l (Nat.le_refl _) h
theorem laws_eqCond_refl (x : S143) (h : n143 x ≤ 2097152) : Ev (fun k => laws_eqCond.f k x.f0 x.f1 x.f2 x.f3 x.f0 x.f1 x.f2 x.f3) true := by
  rw [n143_f] at h
  refine Ev.succ ?_
  simp only [laws_eqCond.f, if_true]
  refine Ev.bind (laws_eqCondS_refl x.f3 h) ?_
  simp only [if_true]
  exact Ev.now _

-- laws_eqCond


-- laws_eqRule
theorem laws_eqRule_refl (x : S145) (h : n145 x ≤ 2097152) : Ev (fun k => laws_eqRule.f k x.f0 x.f1 x.f2 x.f3.f0 x.f3.f1 x.f3.f2 x.f3.f3 x.f0 x.f1 x.f2 x.f3.f0 x.f3.f1 x.f3.f2 x.f3.f3) true := by
  unfold n145 at h
  unfold laws_eqRule.f
  simp only [if_true, bne_self_eq_false, Bool.false_eq_true, if_false]
  repeat (first | exact Ev.now _ | (refine Ev.bind (laws_eqCond_refl _ (by omega)) ?_; simp only [if_true, bne_self_eq_false, Bool.false_eq_true, if_false]))

-- laws_eqRuleS
theorem laws_eqRuleS_refl (l : List (S145)) (h : l.length + (l.map n145).sum ≤ 2097152) : Ev (fun k => laws_eqRuleS.f k l l) true := by
  unfold laws_eqRuleS.f
  refine Ev.pos rfl ?_
  refine ev_walk l (fun k i => laws_eqRuleS.l0 k l l i) true ?_ ?_
  · refine Ev.succ ?_
    simp only [laws_eqRuleS.l0, Int.lt_irrefl, if_false]
    exact Ev.now _
  · intro i x hx hr
    have hi := lt_of_get hx
    have h1 : ((i : Int) < (l.length : Int)) = True := eq_true (by omega)
    have h2 : (0 ≤ (i : Int)) = True := eq_true (by omega)
    refine Ev.succ ?_
    simp only [laws_eqRuleS.l0, h1, h2, if_true, rd_at_T145 hx, wr1 hi (by omega)]
    refine Ev.bind (laws_eqRule_refl x (by have := le_sum n145 hx; omega)) ?_
    simp only [if_true]
    exact hr

-- laws_eqPolicy
theorem laws_eqPolicy_refl (x : S100) (h : n100 x ≤ 2097152) : Ev (fun k => laws_eqPolicy.f k x.f0 x.f1 x.f0 x.f1) true := by
  unfold n100 at h
  unfold laws_eqPolicy.f
  simp only [if_true, bne_self_eq_false, Bool.false_eq_true, if_false]
  repeat (first | exact Ev.now _ | (refine Ev.bind (laws_eqRuleS_refl _ (by omega)) ?_; simp only [if_true, bne_self_eq_false, Bool.false_eq_true, if_false]))

-- laws_eqEpoch
theorem laws_eqEpoch_refl (x : S102) (h : n102 x ≤ 2097152) : Ev (fun k => laws_eqEpoch.f k x.f0 x.f1 x.f2 x.f3.f0 x.f3.f1 x.f0 x.f1 x.f2 x.f3.f0 x.f3.f1) true := by
  unfold n102 at h
  unfold laws_eqEpoch.f
  simp only [if_true, bne_self_eq_false, Bool.false_eq_true, if_false]
  repeat (first | exact Ev.now _ | (refine Ev.bind (laws_eqIncludesS_refl _ (by omega)) ?_; simp only [if_true, bne_self_eq_false, Bool.false_eq_true, if_false]) | (refine Ev.bind (laws_eqPolicy_refl _ (by omega)) ?_; simp only [if_true, bne_self_eq_false, Bool.false_eq_true, if_false]))

-- laws_eqEpochS
theorem laws_eqEpochS_refl (l : List (S102)) (h : l.length + (l.map n102).sum ≤ 2097152) : Ev (fun k => laws_eqEpochS.f k l l) true := by
  unfold laws_eqEpochS.f
  refine Ev.pos rfl ?_
  refine ev_walk l (fun k i => laws_eqEpochS.l0 k l l i) true ?_ ?_
  · refine Ev.succ ?_
    simp only [laws_eqEpochS.l0, Int.lt_irrefl, if_false]
    exact Ev.now _
  · intro i x hx hr
    have hi := lt_of_get hx
    have h1 : ((i : Int) < (l.length : Int)) = True := eq_true (by omega)
    have h2 : (0 ≤ (i : Int)) = True := eq_true (by omega)
    refine Ev.succ ?_
    simp only [laws_eqEpochS.l0, h1, h2, if_true, rd_at_T102 hx, wr1 hi (by omega)]
    refine Ev.bind (laws_eqEpoch_refl x (by have := le_sum n102 hx; omega)) ?_
    simp only [if_true]
    exact hr

-- laws_eqFact
theorem laws_eqFact_refl (x : S44) : laws_eqFact.f x.f0 x.f1 x.f2 x.f3 x.f4 x.f5 x.f0 x.f1 x.f2 x.f3 x.f4 x.f5 = some true := by
  unfold laws_eqFact.f
  simp

-- laws_eqFactS
theorem laws_eqFactS_refl (l : List (S44)) (h : l.length ≤ 2097152) : Ev (fun k => laws_eqFactS.f k l l) true := by
  unfold laws_eqFactS.f
  refine Ev.pos rfl ?_
  refine ev_walk l (fun k i => laws_eqFactS.l0 k l l i) true ?_ ?_
  · refine Ev.succ ?_
    simp only [laws_eqFactS.l0, Int.lt_irrefl, if_false]
    exact Ev.now _
  · intro i x hx hr
    have hi := lt_of_get hx
    have h1 : ((i : Int) < (l.length : Int)) = True := eq_true (by omega)
    have h2 : (0 ≤ (i : Int)) = True := eq_true (by omega)
    refine Ev.succ ?_
    simp only [laws_eqFactS.l0, h1, h2, if_true, rd_at_T44 hx, wr1 hi (by omega), laws_eqFact_refl x, Option.bind_some]
    exact hr

-- laws_eqRevoked
theorem laws_eqRevoked_refl (x : S105) : laws_eqRevoked.f x.f0 x.f1 x.f0 x.f1 = some true := by
  unfold laws_eqRevoked.f
  simp

-- laws_eqRevokedS
theorem laws_eqRevokedS_refl (l : List (S105)) (h : l.length ≤ 2097152) : Ev (fun k => laws_eqRevokedS.f k l l) true := by
  unfold laws_eqRevokedS.f
  refine Ev.pos rfl ?_
  refine ev_walk l (fun k i => laws_eqRevokedS.l0 k l l i) true ?_ ?_
  · refine Ev.succ ?_
    simp only [laws_eqRevokedS.l0, Int.lt_irrefl, if_false]
    exact Ev.now _
  · intro i x hx hr
    have hi := lt_of_get hx
    have h1 : ((i : Int) < (l.length : Int)) = True := eq_true (by omega)
    have h2 : (0 ≤ (i : Int)) = True := eq_true (by omega)
    refine Ev.succ ?_
    simp only [laws_eqRevokedS.l0, h1, h2, if_true, rd_at_T105 hx, wr1 hi (by omega), laws_eqRevoked_refl x, Option.bind_some]
    exact hr

-- laws_eqCert
theorem laws_eqCert_refl (x : S109) : laws_eqCert.f x.f0 x.f1 x.f2 x.f3 x.f4 x.f5 x.f0 x.f1 x.f2 x.f3 x.f4 x.f5 = some true := by
  unfold laws_eqCert.f
  simp

-- laws_eqCertS
theorem laws_eqCertS_refl (l : List (S109)) (h : l.length ≤ 2097152) : Ev (fun k => laws_eqCertS.f k l l) true := by
  unfold laws_eqCertS.f
  refine Ev.pos rfl ?_
  refine ev_walk l (fun k i => laws_eqCertS.l0 k l l i) true ?_ ?_
  · refine Ev.succ ?_
    simp only [laws_eqCertS.l0, Int.lt_irrefl, if_false]
    exact Ev.now _
  · intro i x hx hr
    have hi := lt_of_get hx
    have h1 : ((i : Int) < (l.length : Int)) = True := eq_true (by omega)
    have h2 : (0 ≤ (i : Int)) = True := eq_true (by omega)
    refine Ev.succ ?_
    simp only [laws_eqCertS.l0, h1, h2, if_true, rd_at_T109 hx, wr1 hi (by omega), laws_eqCert_refl x, Option.bind_some]
    exact hr

-- laws_eqCenter
theorem laws_eqCenter_refl (x : S40) (h : n40 x ≤ 2097152) : Ev (fun k => laws_eqCenter.f k x.f0 x.f1 x.f2 x.f3 x.f4 x.f5 x.f0 x.f1 x.f2 x.f3 x.f4 x.f5) true := by
  unfold n40 at h
  unfold laws_eqCenter.f
  simp only [if_true, bne_self_eq_false, Bool.false_eq_true, if_false]
  repeat (first | exact Ev.now _ | (refine Ev.bind (laws_eqIssuerS_refl _ (by omega)) ?_; simp only [if_true, bne_self_eq_false, Bool.false_eq_true, if_false]) | (refine Ev.bind (laws_eqEpochS_refl _ (by omega)) ?_; simp only [if_true, bne_self_eq_false, Bool.false_eq_true, if_false]) | (refine Ev.bind (laws_eqFactS_refl _ (by omega)) ?_; simp only [if_true, bne_self_eq_false, Bool.false_eq_true, if_false]) | (refine Ev.bind (laws_eqRevokedS_refl _ (by omega)) ?_; simp only [if_true, bne_self_eq_false, Bool.false_eq_true, if_false]) | (refine Ev.bind (laws_eqCertS_refl _ (by omega)) ?_; simp only [if_true, bne_self_eq_false, Bool.false_eq_true, if_false]))

-- laws_markIntS
def ctI (x : Int) : Nat := 1
def mkI (x : Int) (n : Int) : Int × Int := (n, n + 1)
theorem mkI_up (x : Int) (n : Int) : (mkI x n).2 = n + (ctI x : Nat) := by
  simp only [mkI, ctI]
  omega
theorem ctI_bd (x : Int) : ctI x ≤ 8 := by simp only [ctI]; omega
theorem laws_markIntS_ev (l : List Int) (h : l.length ≤ 2097152) (n : Int) (h0 : 0 ≤ n) (hB : n + ((l.map ctI).sum : Nat) ≤ 4611686018427387904) : Ev (fun k => laws_markIntS.f k l n) (n + ((l.map ctI).sum : Nat), (acc mkI l n).1) := by
  unfold laws_markIntS.f
  refine Ev.eqv (by rw [acc_up mkI ctI mkI_up]) (ev_markB mkI ctI 4611686018427387904 mkI_up (fun k l n i => laws_markIntS.l0 k l n i) l ?_ ?_ n h0 hB)
  · intro l' n hl
    refine Ev.succ ?_
    simp only [laws_markIntS.l0, hl, Int.lt_irrefl, if_false]
    exact Ev.now _
  · intro l' i x n r hl hm hx h0 hc hr
    have hi := lt_of_get hx
    have h1 : ((i : Int) < (l'.length : Int)) = True := eq_true (by omega)
    have h2 : (0 ≤ (i : Int)) = True := eq_true (by omega)
    simp only [ctI] at hc
    have e0 : wrap64 (n + 1) = n + 1 := wr (by omega) (by omega)
    simp only [mkI] at hr
    refine Ev.succ ?_
    simp only [laws_markIntS.l0, h1, h2, if_true, Option.bind_some, List.length_set, List.set_set, Int.toNat_natCast, wr1 hi (by omega), rd_nat l' i _ hx, List.length_set, e0]
    exact hr

-- laws_markIssuerS
def ct92 (x : S92) : Nat := 2 + (x.f1.map ctI).sum
def mk92 (x : S92) (n : Int) : S92 × Int := ((⟨n, (acc mkI x.f1 (n + 1)).1, n + 1 + ((x.f1.map ctI).sum : Nat)⟩ : S92), n + 1 + ((x.f1.map ctI).sum : Nat) + 1)
theorem mk92_up (x : S92) (n : Int) : (mk92 x n).2 = n + (ct92 x : Nat) := by
  simp only [mk92, ct92]
  omega
theorem ct92_bd (x : S92) : ct92 x ≤ 8 + 8 * n92 x := by
  have b0 := sum_ct0 ctI x.f1 ctI_bd
  simp only [ct92, n92]
  omega
theorem rds_T92 {l : List S92} {i : Nat} {v : S92} (h : i < l.length) : rd_T92 (l.set i v) (i : Int) = v := rd_at_T92 (List.getElem?_set_self h)
theorem laws_markIssuerS_ev (l : List S92) (h : l.length + (l.map n92).sum ≤ 2097152) (n : Int) (h0 : 0 ≤ n) (hB : n + ((l.map ct92).sum : Nat) ≤ 4611686018427387904) : Ev (fun k => laws_markIssuerS.f k l n) (n + ((l.map ct92).sum : Nat), (acc mk92 l n).1) := by
  unfold laws_markIssuerS.f
  refine Ev.eqv (by rw [acc_up mk92 ct92 mk92_up]) (ev_markB mk92 ct92 4611686018427387904 mk92_up (fun k l n i => laws_markIssuerS.l0 k l n i) l ?_ ?_ n h0 hB)
  · intro l' n hl
    refine Ev.succ ?_
    simp only [laws_markIssuerS.l0, hl, Int.lt_irrefl, if_false]
    exact Ev.now _
  · intro l' i x n r hl hm hx h0 hc hr
    have hi := lt_of_get hx
    have h1 : ((i : Int) < (l'.length : Int)) = True := eq_true (by omega)
    have h2 : (0 ≤ (i : Int)) = True := eq_true (by omega)
    simp only [ct92] at hc
    obtain ⟨jm, hjm⟩ := List.getElem?_of_mem hm
    have hn := le_sum n92 hjm
    simp only [n92] at hn
    have e0 : wrap64 (n + 1) = n + 1 := wr (by omega) (by omega)
    have e1 : wrap64 (n + 1 + ((x.f1.map ctI).sum : Nat) + 1) = n + 1 + ((x.f1.map ctI).sum : Nat) + 1 := wr (by omega) (by omega)
    simp only [mk92] at hr
    refine Ev.succ ?_
    simp only [laws_markIssuerS.l0, h1, h2, if_true, Option.bind_some, List.length_set, List.set_set, Int.toNat_natCast, wr1 hi (by omega), rd_at_T92 hx, rds_T92 hi, e0, e1]
    refine Ev.bind (laws_markIntS_ev x.f1 (by omega) (n + 1) (by omega) (by omega)) ?_
    (try simp only [h1, h2, if_true, Option.bind_some, List.length_set, List.set_set, Int.toNat_natCast, wr1 hi (by omega), rd_at_T92 hx, rds_T92 hi, e0, e1])
    exact hr

-- laws_markIncludesS
def ct140 (x : S140) : Nat := 2
def mk140 (x : S140) (n : Int) : S140 × Int := ((⟨n, n + 1⟩ : S140), n + 1 + 1)
theorem mk140_up (x : S140) (n : Int) : (mk140 x n).2 = n + (ct140 x : Nat) := by
  simp only [mk140, ct140]
  omega
theorem ct140_bd (x : S140) : ct140 x ≤ 8 := by simp only [ct140]; omega
theorem rds_T140 {l : List S140} {i : Nat} {v : S140} (h : i < l.length) : rd_T140 (l.set i v) (i : Int) = v := rd_at_T140 (List.getElem?_set_self h)
theorem laws_markIncludesS_ev (l : List S140) (h : l.length ≤ 2097152) (n : Int) (h0 : 0 ≤ n) (hB : n + ((l.map ct140).sum : Nat) ≤ 4611686018427387904) : Ev (fun k => laws_markIncludesS.f k l n) (n + ((l.map ct140).sum : Nat), (acc mk140 l n).1) := by
  unfold laws_markIncludesS.f
  refine Ev.eqv (by rw [acc_up mk140 ct140 mk140_up]) (ev_markB mk140 ct140 4611686018427387904 mk140_up (fun k l n i => laws_markIncludesS.l0 k l n i) l ?_ ?_ n h0 hB)
  · intro l' n hl
    refine Ev.succ ?_
    simp only [laws_markIncludesS.l0, hl, Int.lt_irrefl, if_false]
    exact Ev.now _
  · intro l' i x n r hl hm hx h0 hc hr
    have hi := lt_of_get hx
    have h1 : ((i : Int) < (l'.length : Int)) = True := eq_true (by omega)
    have h2 : (0 ≤ (i : Int)) = True := eq_true (by omega)
    simp only [ct140] at hc
    have e0 : wrap64 (n + 1) = n + 1 := wr (by omega) (by omega)
    have e1 : wrap64 (n + 1 + 1) = n + 1 + 1 := wr (by omega) (by omega)
    simp only [mk140] at hr
    refine Ev.succ ?_
    simp only [laws_markIncludesS.l0, h1, h2, if_true, Option.bind_some, List.length_set, List.set_set, Int.toNat_natCast, wr1 hi (by omega), rd_at_T140 hx, rds_T140 hi, e0, e1]
    exact hr

-- laws_markCondS
mutual
def mk143 : S143 → Int → S143 × Int
  | ⟨_, _, _, l⟩, n => (⟨n, n + 1, n + 1 + 1, (mkL143 l (n + 1 + 1 + 1)).1⟩, n + 1 + 1 + 1 + (ctL143 l : Nat))
def mkL143 : List S143 → Int → List S143 × Int
  | [], n => ([], n)
  | x :: l, n => ((mk143 x n).1 :: (mkL143 l (mk143 x n).2).1, (mkL143 l (mk143 x n).2).2)
def ct143 : S143 → Nat
  | ⟨_, _, _, l⟩ => 3 + ctL143 l
def ctL143 : List S143 → Nat
  | [] => 0
  | x :: l => ct143 x + ctL143 l
end
theorem ctL_eq : ∀ l : List S143, ctL143 l = (l.map ct143).sum
  | [] => by simp [ctL143]
  | x :: l => by simp [ctL143, ctL_eq l]
theorem mkL_eq : ∀ (l : List S143) (n : Int), mkL143 l n = acc mk143 l n
  | [], n => by simp [mkL143, acc]
  | x :: l, n => by simp only [mkL143, acc, mkL_eq l]
theorem ctC_f (x : S143) : ct143 x = 3 + (x.f3.map ct143).sum := by
  cases x
  simp only [ct143, ctL_eq]
theorem mkC_f (x : S143) (n : Int) : mk143 x n = (⟨n, n + 1, n + 1 + 1, (acc mk143 x.f3 (n + 1 + 1 + 1)).1⟩, n + 1 + 1 + 1 + ((x.f3.map ct143).sum : Nat)) := by
  cases x
  simp only [mk143, mkL_eq, ctL_eq]
theorem mk143_up (x : S143) (n : Int) : (mk143 x n).2 = n + (ct143 x : Nat) := by
  rw [mkC_f, ctC_f]
  simp only []
  omega
theorem ctC_bdN (N : Nat) : ∀ x : S143, n143 x ≤ N → ct143 x ≤ 8 + 8 * n143 x := by
  induction N using Nat.strongRecOn with
  | _ N ih =>
  intro x h
  rw [ctC_f]
  rw [n143_f] at h ⊢
  have key : ∀ l : List S143, (∀ y ∈ l, ct143 y ≤ 8 + 8 * n143 y) → (l.map ct143).sum ≤ 8 * (l.length + (l.map n143).sum) := by
    intro l
    induction l with
    | nil => simp
    | cons y l ihl =>
      intro hl
      have h1 := hl y List.mem_cons_self
      have h2 := ihl fun z hz => hl z (List.mem_cons_of_mem _ hz)
      simp only [List.map_cons, List.sum_cons, List.length_cons]
      omega
  have := key x.f3 fun y hy => by
    obtain ⟨j, hj⟩ := List.getElem?_of_mem hy
    have h1 := le_sum n143 hj
    have h2 := lt_of_get hj
    exact ih (n143 y) (by omega) y (Nat.le_refl _)
  omega
theorem ct143_bd (x : S143) : ct143 x ≤ 8 + 8 * n143 x := ctC_bdN _ x (Nat.le_refl _)
theorem rds_T143 {l : List S143} {i : Nat} {v : S143} (h : i < l.length) : rd_T143 (l.set i v) (i : Int) = v := rd_at_T143 (List.getElem?_set_self h)
theorem laws_markCondS_evN (N : Nat) : ∀ (l : List S143) (n : Int), l.length + (l.map n143).sum ≤ N → N ≤ 2097152 → 0 ≤ n → n + ((l.map ct143).sum : Nat) ≤ 4611686018427387904 → Ev (fun k => laws_markCondS.f k l n) (n + ((l.map ct143).sum : Nat), (acc mk143 l n).1) := by
  induction N using Nat.strongRecOn with
  | _ N ih =>
  intro l n h hN h0 hB
  refine Ev.succ ?_
  simp only [laws_markCondS.f]
  refine Ev.eqv (by rw [acc_up mk143 ct143 mk143_up]) (ev_markB mk143 ct143 4611686018427387904 mk143_up (fun k l n i => laws_markCondS.l0 k l n i) l ?_ ?_ n h0 hB)
  · intro l' n hl
    refine Ev.succ ?_
    simp only [laws_markCondS.l0, hl, Int.lt_irrefl, if_false]
    exact Ev.now _
  · intro l' i x n r hl hm hx h0 hc hr
    have hi := lt_of_get hx
    have h1 : ((i : Int) < (l'.length : Int)) = True := eq_true (by omega)
    have h2 : (0 ≤ (i : Int)) = True := eq_true (by omega)
    rw [ctC_f] at hc
    obtain ⟨jm, hjm⟩ := List.getElem?_of_mem hm
    have hn := le_sum n143 hjm
    have hlt := lt_of_get hjm
    rw [n143_f] at hn
    have e0 : wrap64 (n + 1) = n + 1 := wr (by omega) (by omega)
    have e1 : wrap64 (n + 1 + 1) = n + 1 + 1 := wr (by omega) (by omega)
    have e2 : wrap64 (n + 1 + 1 + 1) = n + 1 + 1 + 1 := wr (by omega) (by omega)
    rw [mkC_f] at hr
    refine Ev.succ ?_
    simp only [laws_markCondS.l0, h1, h2, if_true, Option.bind_some, List.length_set, List.set_set, Int.toNat_natCast, wr1 hi (by omega), rd_at_T143 hx, rds_T143 hi, e0, e1, e2]
    refine Ev.bind (ih (x.f3.length + (x.f3.map n143).sum) (by omega) x.f3 (n + 1 + 1 + 1) (Nat.le_refl _) (by omega) (by omega) (by omega)) ?_
    exact hr
theorem laws_markCondS_ev (l : List S143) (h : l.length + (l.map n143).sum ≤ 2097152) (n : Int) (h0 : 0 ≤ n) (hB : n + ((l.map ct143).sum : Nat) ≤ 4611686018427387904) : Ev (fun k => laws_markCondS.f k l n) (n + ((l.map ct143).sum : Nat), (acc mk143 l n).1) := laws_markCondS_evN _ l n (Nat.le_refl _) h h0 hB

-- laws_markRuleS
def ct145 (x : S145) : Nat := 6 + (x.f3.f3.map ct143).sum
def mk145 (x : S145) (n : Int) : S145 × Int := ((⟨n, n + 1, n + 1 + 1, (⟨n + 1 + 1 + 1, n + 1 + 1 + 1 + 1, n + 1 + 1 + 1 + 1 + 1, (acc mk143 x.f3.f3 (n + 1 + 1 + 1 + 1 + 1 + 1)).1⟩ : S143)⟩ : S145), n + 1 + 1 + 1 + 1 + 1 + 1 + ((x.f3.f3.map ct143).sum : Nat))
theorem mk145_up (x : S145) (n : Int) : (mk145 x n).2 = n + (ct145 x : Nat) := by
  simp only [mk145, ct145]
  omega
theorem ct145_bd (x : S145) : ct145 x ≤ 8 + 8 * n145 x := by
  have b0 := sum_ct ct143 x.f3.f3 ct143_bd
  simp only [ct145, n145, n143_f]
  omega
theorem rds_T145 {l : List S145} {i : Nat} {v : S145} (h : i < l.length) : rd_T145 (l.set i v) (i : Int) = v := rd_at_T145 (List.getElem?_set_self h)
theorem laws_markRuleS_ev (l : List S145) (h : l.length + (l.map n145).sum ≤ 2097152) (n : Int) (h0 : 0 ≤ n) (hB : n + ((l.map ct145).sum : Nat) ≤ 4611686018427387904) : Ev (fun k => laws_markRuleS.f k l n) (n + ((l.map ct145).sum : Nat), (acc mk145 l n).1) := by
  unfold laws_markRuleS.f
  refine Ev.eqv (by rw [acc_up mk145 ct145 mk145_up]) (ev_markB mk145 ct145 4611686018427387904 mk145_up (fun k l n i => laws_markRuleS.l0 k l n i) l ?_ ?_ n h0 hB)
  · intro l' n hl
    refine Ev.succ ?_
    simp only [laws_markRuleS.l0, hl, Int.lt_irrefl, if_false]
    exact Ev.now _
  · intro l' i x n r hl hm hx h0 hc hr
    have hi := lt_of_get hx
    have h1 : ((i : Int) < (l'.length : Int)) = True := eq_true (by omega)
    have h2 : (0 ≤ (i : Int)) = True := eq_true (by omega)
    simp only [ct145] at hc
    obtain ⟨jm, hjm⟩ := List.getElem?_of_mem hm
    have hn := le_sum n145 hjm
    simp only [n145, n143_f] at hn
    have e0 : wrap64 (n + 1) = n + 1 := wr (by omega) (by omega)
    have e1 : wrap64 (n + 1 + 1) = n + 1 + 1 := wr (by omega) (by omega)
    have e2 : wrap64 (n + 1 + 1 + 1) = n + 1 + 1 + 1 := wr (by omega) (by omega)
    have e3 : wrap64 (n + 1 + 1 + 1 + 1) = n + 1 + 1 + 1 + 1 := wr (by omega) (by omega)
    have e4 : wrap64 (n + 1 + 1 + 1 + 1 + 1) = n + 1 + 1 + 1 + 1 + 1 := wr (by omega) (by omega)
    have e5 : wrap64 (n + 1 + 1 + 1 + 1 + 1 + 1) = n + 1 + 1 + 1 + 1 + 1 + 1 := wr (by omega) (by omega)
    simp only [mk145] at hr
    refine Ev.succ ?_
    simp only [laws_markRuleS.l0, h1, h2, if_true, Option.bind_some, List.length_set, List.set_set, Int.toNat_natCast, wr1 hi (by omega), rd_at_T145 hx, rds_T145 hi, e0, e1, e2, e3, e4, e5]
    refine Ev.bind (laws_markCondS_ev x.f3.f3 (by omega) (n + 1 + 1 + 1 + 1 + 1 + 1) (by omega) (by omega)) ?_
    (try simp only [h1, h2, if_true, Option.bind_some, List.length_set, List.set_set, Int.toNat_natCast, wr1 hi (by omega), rd_at_T145 hx, rds_T145 hi, e0, e1, e2, e3, e4, e5])
    exact hr

-- laws_markEpochS
def ct102 (x : S102) : Nat := 3 + (x.f2.map ct140).sum + (x.f3.f1.map ct145).sum
def mk102 (x : S102) (n : Int) : S102 × Int := ((⟨n, n + 1, (acc mk140 x.f2 (n + 1 + 1)).1, (⟨n + 1 + 1 + ((x.f2.map ct140).sum : Nat), (acc mk145 x.f3.f1 (n + 1 + 1 + ((x.f2.map ct140).sum : Nat) + 1)).1⟩ : S100)⟩ : S102), n + 1 + 1 + ((x.f2.map ct140).sum : Nat) + 1 + ((x.f3.f1.map ct145).sum : Nat))
theorem mk102_up (x : S102) (n : Int) : (mk102 x n).2 = n + (ct102 x : Nat) := by
  simp only [mk102, ct102]
  omega
theorem ct102_bd (x : S102) : ct102 x ≤ 8 + 8 * n102 x := by
  have b0 := sum_ct0 ct140 x.f2 ct140_bd
  have b1 := sum_ct ct145 x.f3.f1 ct145_bd
  simp only [ct102, n102, n100]
  omega
theorem rds_T102 {l : List S102} {i : Nat} {v : S102} (h : i < l.length) : rd_T102 (l.set i v) (i : Int) = v := rd_at_T102 (List.getElem?_set_self h)
theorem laws_markEpochS_ev (l : List S102) (h : l.length + (l.map n102).sum ≤ 2097152) (n : Int) (h0 : 0 ≤ n) (hB : n + ((l.map ct102).sum : Nat) ≤ 4611686018427387904) : Ev (fun k => laws_markEpochS.f k l n) (n + ((l.map ct102).sum : Nat), (acc mk102 l n).1) := by
  unfold laws_markEpochS.f
  refine Ev.eqv (by rw [acc_up mk102 ct102 mk102_up]) (ev_markB mk102 ct102 4611686018427387904 mk102_up (fun k l n i => laws_markEpochS.l0 k l n i) l ?_ ?_ n h0 hB)
  · intro l' n hl
    refine Ev.succ ?_
    simp only [laws_markEpochS.l0, hl, Int.lt_irrefl, if_false]
    exact Ev.now _
  · intro l' i x n r hl hm hx h0 hc hr
    have hi := lt_of_get hx
    have h1 : ((i : Int) < (l'.length : Int)) = True := eq_true (by omega)
    have h2 : (0 ≤ (i : Int)) = True := eq_true (by omega)
    simp only [ct102] at hc
    obtain ⟨jm, hjm⟩ := List.getElem?_of_mem hm
    have hn := le_sum n102 hjm
    simp only [n102, n100] at hn
    have e0 : wrap64 (n + 1) = n + 1 := wr (by omega) (by omega)
    have e1 : wrap64 (n + 1 + 1) = n + 1 + 1 := wr (by omega) (by omega)
    have e2 : wrap64 (n + 1 + 1 + ((x.f2.map ct140).sum : Nat) + 1) = n + 1 + 1 + ((x.f2.map ct140).sum : Nat) + 1 := wr (by omega) (by omega)
    simp only [mk102] at hr
    refine Ev.succ ?_
    simp only [laws_markEpochS.l0, h1, h2, if_true, Option.bind_some, List.length_set, List.set_set, Int.toNat_natCast, wr1 hi (by omega), rd_at_T102 hx, rds_T102 hi, e0, e1, e2]
    refine Ev.bind (laws_markIncludesS_ev x.f2 (by omega) (n + 1 + 1) (by omega) (by omega)) ?_
    (try simp only [h1, h2, if_true, Option.bind_some, List.length_set, List.set_set, Int.toNat_natCast, wr1 hi (by omega), rd_at_T102 hx, rds_T102 hi, e0, e1, e2])
    refine Ev.bind (laws_markRuleS_ev x.f3.f1 (by omega) (n + 1 + 1 + ((x.f2.map ct140).sum : Nat) + 1) (by omega) (by omega)) ?_
    (try simp only [h1, h2, if_true, Option.bind_some, List.length_set, List.set_set, Int.toNat_natCast, wr1 hi (by omega), rd_at_T102 hx, rds_T102 hi, e0, e1, e2])
    exact hr

-- laws_markFactS
def ct44 (x : S44) : Nat := 6
def mk44 (x : S44) (n : Int) : S44 × Int := ((⟨n, n + 1, n + 1 + 1, n + 1 + 1 + 1, n + 1 + 1 + 1 + 1, n + 1 + 1 + 1 + 1 + 1⟩ : S44), n + 1 + 1 + 1 + 1 + 1 + 1)
theorem mk44_up (x : S44) (n : Int) : (mk44 x n).2 = n + (ct44 x : Nat) := by
  simp only [mk44, ct44]
  omega
theorem ct44_bd (x : S44) : ct44 x ≤ 8 := by simp only [ct44]; omega
theorem rds_T44 {l : List S44} {i : Nat} {v : S44} (h : i < l.length) : rd_T44 (l.set i v) (i : Int) = v := rd_at_T44 (List.getElem?_set_self h)
theorem laws_markFactS_ev (l : List S44) (h : l.length ≤ 2097152) (n : Int) (h0 : 0 ≤ n) (hB : n + ((l.map ct44).sum : Nat) ≤ 4611686018427387904) : Ev (fun k => laws_markFactS.f k l n) (n + ((l.map ct44).sum : Nat), (acc mk44 l n).1) := by
  unfold laws_markFactS.f
  refine Ev.eqv (by rw [acc_up mk44 ct44 mk44_up]) (ev_markB mk44 ct44 4611686018427387904 mk44_up (fun k l n i => laws_markFactS.l0 k l n i) l ?_ ?_ n h0 hB)
  · intro l' n hl
    refine Ev.succ ?_
    simp only [laws_markFactS.l0, hl, Int.lt_irrefl, if_false]
    exact Ev.now _
  · intro l' i x n r hl hm hx h0 hc hr
    have hi := lt_of_get hx
    have h1 : ((i : Int) < (l'.length : Int)) = True := eq_true (by omega)
    have h2 : (0 ≤ (i : Int)) = True := eq_true (by omega)
    simp only [ct44] at hc
    have e0 : wrap64 (n + 1) = n + 1 := wr (by omega) (by omega)
    have e1 : wrap64 (n + 1 + 1) = n + 1 + 1 := wr (by omega) (by omega)
    have e2 : wrap64 (n + 1 + 1 + 1) = n + 1 + 1 + 1 := wr (by omega) (by omega)
    have e3 : wrap64 (n + 1 + 1 + 1 + 1) = n + 1 + 1 + 1 + 1 := wr (by omega) (by omega)
    have e4 : wrap64 (n + 1 + 1 + 1 + 1 + 1) = n + 1 + 1 + 1 + 1 + 1 := wr (by omega) (by omega)
    have e5 : wrap64 (n + 1 + 1 + 1 + 1 + 1 + 1) = n + 1 + 1 + 1 + 1 + 1 + 1 := wr (by omega) (by omega)
    simp only [mk44] at hr
    refine Ev.succ ?_
    simp only [laws_markFactS.l0, h1, h2, if_true, Option.bind_some, List.length_set, List.set_set, Int.toNat_natCast, wr1 hi (by omega), rd_at_T44 hx, rds_T44 hi, e0, e1, e2, e3, e4, e5]
    exact hr

-- laws_markRevokedS
def ct105 (x : S105) : Nat := 2
def mk105 (x : S105) (n : Int) : S105 × Int := ((⟨n, n + 1⟩ : S105), n + 1 + 1)
theorem mk105_up (x : S105) (n : Int) : (mk105 x n).2 = n + (ct105 x : Nat) := by
  simp only [mk105, ct105]
  omega
theorem ct105_bd (x : S105) : ct105 x ≤ 8 := by simp only [ct105]; omega
theorem rds_T105 {l : List S105} {i : Nat} {v : S105} (h : i < l.length) : rd_T105 (l.set i v) (i : Int) = v := rd_at_T105 (List.getElem?_set_self h)
theorem laws_markRevokedS_ev (l : List S105) (h : l.length ≤ 2097152) (n : Int) (h0 : 0 ≤ n) (hB : n + ((l.map ct105).sum : Nat) ≤ 4611686018427387904) : Ev (fun k => laws_markRevokedS.f k l n) (n + ((l.map ct105).sum : Nat), (acc mk105 l n).1) := by
  unfold laws_markRevokedS.f
  refine Ev.eqv (by rw [acc_up mk105 ct105 mk105_up]) (ev_markB mk105 ct105 4611686018427387904 mk105_up (fun k l n i => laws_markRevokedS.l0 k l n i) l ?_ ?_ n h0 hB)
  · intro l' n hl
    refine Ev.succ ?_
    simp only [laws_markRevokedS.l0, hl, Int.lt_irrefl, if_false]
    exact Ev.now _
  · intro l' i x n r hl hm hx h0 hc hr
    have hi := lt_of_get hx
    have h1 : ((i : Int) < (l'.length : Int)) = True := eq_true (by omega)
    have h2 : (0 ≤ (i : Int)) = True := eq_true (by omega)
    simp only [ct105] at hc
    have e0 : wrap64 (n + 1) = n + 1 := wr (by omega) (by omega)
    have e1 : wrap64 (n + 1 + 1) = n + 1 + 1 := wr (by omega) (by omega)
    simp only [mk105] at hr
    refine Ev.succ ?_
    simp only [laws_markRevokedS.l0, h1, h2, if_true, Option.bind_some, List.length_set, List.set_set, Int.toNat_natCast, wr1 hi (by omega), rd_at_T105 hx, rds_T105 hi, e0, e1]
    exact hr

-- laws_markCertS
def ct109 (x : S109) : Nat := 6
def mk109 (x : S109) (n : Int) : S109 × Int := ((⟨n, n + 1, n + 1 + 1, n + 1 + 1 + 1, n + 1 + 1 + 1 + 1, n + 1 + 1 + 1 + 1 + 1⟩ : S109), n + 1 + 1 + 1 + 1 + 1 + 1)
theorem mk109_up (x : S109) (n : Int) : (mk109 x n).2 = n + (ct109 x : Nat) := by
  simp only [mk109, ct109]
  omega
theorem ct109_bd (x : S109) : ct109 x ≤ 8 := by simp only [ct109]; omega
theorem rds_T109 {l : List S109} {i : Nat} {v : S109} (h : i < l.length) : rd_T109 (l.set i v) (i : Int) = v := rd_at_T109 (List.getElem?_set_self h)
theorem laws_markCertS_ev (l : List S109) (h : l.length ≤ 2097152) (n : Int) (h0 : 0 ≤ n) (hB : n + ((l.map ct109).sum : Nat) ≤ 4611686018427387904) : Ev (fun k => laws_markCertS.f k l n) (n + ((l.map ct109).sum : Nat), (acc mk109 l n).1) := by
  unfold laws_markCertS.f
  refine Ev.eqv (by rw [acc_up mk109 ct109 mk109_up]) (ev_markB mk109 ct109 4611686018427387904 mk109_up (fun k l n i => laws_markCertS.l0 k l n i) l ?_ ?_ n h0 hB)
  · intro l' n hl
    refine Ev.succ ?_
    simp only [laws_markCertS.l0, hl, Int.lt_irrefl, if_false]
    exact Ev.now _
  · intro l' i x n r hl hm hx h0 hc hr
    have hi := lt_of_get hx
    have h1 : ((i : Int) < (l'.length : Int)) = True := eq_true (by omega)
    have h2 : (0 ≤ (i : Int)) = True := eq_true (by omega)
    simp only [ct109] at hc
    have e0 : wrap64 (n + 1) = n + 1 := wr (by omega) (by omega)
    have e1 : wrap64 (n + 1 + 1) = n + 1 + 1 := wr (by omega) (by omega)
    have e2 : wrap64 (n + 1 + 1 + 1) = n + 1 + 1 + 1 := wr (by omega) (by omega)
    have e3 : wrap64 (n + 1 + 1 + 1 + 1) = n + 1 + 1 + 1 + 1 := wr (by omega) (by omega)
    have e4 : wrap64 (n + 1 + 1 + 1 + 1 + 1) = n + 1 + 1 + 1 + 1 + 1 := wr (by omega) (by omega)
    have e5 : wrap64 (n + 1 + 1 + 1 + 1 + 1 + 1) = n + 1 + 1 + 1 + 1 + 1 + 1 := wr (by omega) (by omega)
    simp only [mk109] at hr
    refine Ev.succ ?_
    simp only [laws_markCertS.l0, h1, h2, if_true, Option.bind_some, List.length_set, List.set_set, Int.toNat_natCast, wr1 hi (by omega), rd_at_T109 hx, rds_T109 hi, e0, e1, e2, e3, e4, e5]
    exact hr

-- laws_markCenter
/-- Where the marks of a center's rows begin. -/
def q140 (x : S40) : Int := 1 + ((x.f0.map ct92).sum : Nat)
def q240 (x : S40) : Int := q140 x + ((x.f1.map ct102).sum : Nat)
def q340 (x : S40) : Int := q240 x + ((x.f2.map ct44).sum : Nat)
def q440 (x : S40) : Int := q340 x + ((x.f3.map ct105).sum : Nat)
def q540 (x : S40) : Int := q440 x + ((x.f5.map ct109).sum : Nat)
def mkX40 (x : S40) : S40 := ⟨(acc mk92 x.f0 1).1, (acc mk102 x.f1 (q140 x)).1, (acc mk44 x.f2 (q240 x)).1, (acc mk105 x.f3 (q340 x)).1, x.f4, (acc mk109 x.f5 (q440 x)).1⟩
theorem q_bd40 (x : S40) (h : n40 x ≤ 2097152) : (0 ≤ q140 x ∧ q140 x ≤ 16777217) ∧ (0 ≤ q240 x ∧ q240 x ≤ 33554433) ∧ (0 ≤ q340 x ∧ q340 x ≤ 67108865) ∧ (0 ≤ q440 x ∧ q440 x ≤ 134217729) ∧ (0 ≤ q540 x ∧ q540 x ≤ 268435457) := by
  unfold n40 at h
  have b0 := sum_ct ct92 x.f0 ct92_bd
  have b1 := sum_ct ct102 x.f1 ct102_bd
  have b2 := sum_ct0 ct44 x.f2 ct44_bd
  have b3 := sum_ct0 ct105 x.f3 ct105_bd
  have b5 := sum_ct0 ct109 x.f5 ct109_bd
  simp only [q140, q240, q340, q440, q540]
  omega
theorem laws_markCenter_ev (x : S40) (h : n40 x ≤ 2097152) : Ev (fun k => laws_markCenter.f k x.f0 x.f1 x.f2 x.f3 x.f4 x.f5 1) (q540 x, (mkX40 x).f0, (mkX40 x).f1, (mkX40 x).f2, (mkX40 x).f3, (mkX40 x).f5) := by
  obtain ⟨⟨g1, g1'⟩, ⟨g2, g2'⟩, ⟨g3, g3'⟩, ⟨g4, g4'⟩, ⟨g5, g5'⟩⟩ := q_bd40 x h
  have hn := h
  unfold n40 at hn
  have e1 : 1 + ((x.f0.map ct92).sum : Int) = q140 x := rfl
  unfold laws_markCenter.f
  refine Ev.bind (laws_markIssuerS_ev x.f0 (by omega) (1) (by omega) (show q140 x ≤ _ by omega)) ?_
  refine Ev.bind (laws_markEpochS_ev x.f1 (by omega) (q140 x) (by omega) (show q240 x ≤ _ by omega)) ?_
  refine Ev.bind (laws_markFactS_ev x.f2 (by omega) (q240 x) (by omega) (show q340 x ≤ _ by omega)) ?_
  refine Ev.bind (laws_markRevokedS_ev x.f3 (by omega) (q340 x) (by omega) (show q440 x ≤ _ by omega)) ?_
  refine Ev.bind (laws_markCertS_ev x.f5 (by omega) (q440 x) (by omega) (show q540 x ≤ _ by omega)) ?_
  exact Ev.now _

-- laws_heldIntS
theorem laws_heldIntS_ev (l : List Int) (h : l.length ≤ 2097152) (n : Int) (h0 : 0 ≤ n) (hB : n + ((l.map ctI).sum : Nat) ≤ 4611686018427387904) : Ev (fun k => laws_heldIntS.f k (acc mkI l n).1 n) (n + ((l.map ctI).sum : Nat)) := by
  unfold laws_heldIntS.f
  refine Ev.eqv (acc_up mkI ctI mkI_up l n) (ev_held2 mkI ctI 4611686018427387904 (fun x n _ _ => mkI_up x n) (fun k l n i => laws_heldIntS.l0 k l n i) l ?_ ?_ n h0 hB)
  · intro l' n hl
    refine Ev.succ ?_
    simp only [laws_heldIntS.l0, hl, Int.lt_irrefl, if_false]
    exact Ev.now _
  · intro l' i x n r hl hm h0 hc hx hr
    have hi := lt_of_get hx
    have h1 : ((i : Int) < (l'.length : Int)) = True := eq_true (by omega)
    have h2 : (0 ≤ (i : Int)) = True := eq_true (by omega)
    simp only [ctI] at hc
    have e0 : wrap64 (n + 1) = n + 1 := wr (by omega) (by omega)
    simp only [mkI] at hr
    refine Ev.succ ?_
    simp only [laws_heldIntS.l0, h1, h2, if_true, wr1 hi (by omega), rd_nat l' i _ hx, mkI, e0]
    exact hr

-- laws_heldIssuerS
theorem laws_heldIssuerS_ev (l : List S92) (h : l.length + (l.map n92).sum ≤ 2097152) (n : Int) (h0 : 0 ≤ n) (hB : n + ((l.map ct92).sum : Nat) ≤ 4611686018427387904) : Ev (fun k => laws_heldIssuerS.f k (acc mk92 l n).1 n) (n + ((l.map ct92).sum : Nat)) := by
  unfold laws_heldIssuerS.f
  refine Ev.eqv (acc_up mk92 ct92 mk92_up l n) (ev_held2 mk92 ct92 4611686018427387904 (fun x n _ _ => mk92_up x n) (fun k l n i => laws_heldIssuerS.l0 k l n i) l ?_ ?_ n h0 hB)
  · intro l' n hl
    refine Ev.succ ?_
    simp only [laws_heldIssuerS.l0, hl, Int.lt_irrefl, if_false]
    exact Ev.now _
  · intro l' i x n r hl hm h0 hc hx hr
    have hi := lt_of_get hx
    have h1 : ((i : Int) < (l'.length : Int)) = True := eq_true (by omega)
    have h2 : (0 ≤ (i : Int)) = True := eq_true (by omega)
    simp only [ct92] at hc
    obtain ⟨jm, hjm⟩ := List.getElem?_of_mem hm
    have hn := le_sum n92 hjm
    simp only [n92] at hn
    have e0 : wrap64 (n + 1) = n + 1 := wr (by omega) (by omega)
    have e1 : wrap64 (n + 1 + ((x.f1.map ctI).sum : Nat) + 1) = n + 1 + ((x.f1.map ctI).sum : Nat) + 1 := wr (by omega) (by omega)
    simp only [mk92] at hr
    refine Ev.succ ?_
    simp only [laws_heldIssuerS.l0, h1, h2, if_true, wr1 hi (by omega), rd_at_T92 hx, mk92, e0, e1]
    refine Ev.bind (laws_heldIntS_ev x.f1 (by omega) (n + 1) (by omega) (by omega)) ?_
    refine Ev.neg (by omega) ?_
    (try simp only [h1, h2, if_true, wr1 hi (by omega), rd_at_T92 hx, mk92, e0, e1])
    exact hr

-- laws_heldIncludesS
theorem laws_heldIncludesS_ev (l : List S140) (h : l.length ≤ 2097152) (n : Int) (h0 : 0 ≤ n) (hB : n + ((l.map ct140).sum : Nat) ≤ 4611686018427387904) : Ev (fun k => laws_heldIncludesS.f k (acc mk140 l n).1 n) (n + ((l.map ct140).sum : Nat)) := by
  unfold laws_heldIncludesS.f
  refine Ev.eqv (acc_up mk140 ct140 mk140_up l n) (ev_held2 mk140 ct140 4611686018427387904 (fun x n _ _ => mk140_up x n) (fun k l n i => laws_heldIncludesS.l0 k l n i) l ?_ ?_ n h0 hB)
  · intro l' n hl
    refine Ev.succ ?_
    simp only [laws_heldIncludesS.l0, hl, Int.lt_irrefl, if_false]
    exact Ev.now _
  · intro l' i x n r hl hm h0 hc hx hr
    have hi := lt_of_get hx
    have h1 : ((i : Int) < (l'.length : Int)) = True := eq_true (by omega)
    have h2 : (0 ≤ (i : Int)) = True := eq_true (by omega)
    simp only [ct140] at hc
    have e0 : wrap64 (n + 1) = n + 1 := wr (by omega) (by omega)
    have e1 : wrap64 (n + 1 + 1) = n + 1 + 1 := wr (by omega) (by omega)
    simp only [mk140] at hr
    refine Ev.succ ?_
    simp only [laws_heldIncludesS.l0, h1, h2, if_true, wr1 hi (by omega), rd_at_T140 hx, mk140, e0, e1]
    exact hr

-- laws_heldCondS
theorem laws_heldCondS_evN (N : Nat) : ∀ (l : List S143) (n : Int), l.length + (l.map n143).sum ≤ N → N ≤ 2097152 → 0 ≤ n → n + ((l.map ct143).sum : Nat) ≤ 4611686018427387904 → Ev (fun k => laws_heldCondS.f k (acc mk143 l n).1 n) (n + ((l.map ct143).sum : Nat)) := by
  induction N using Nat.strongRecOn with
  | _ N ih =>
  intro l n h hN h0 hB
  refine Ev.succ ?_
  simp only [laws_heldCondS.f]
  refine Ev.eqv (acc_up mk143 ct143 mk143_up l n) (ev_held2 mk143 ct143 4611686018427387904 (fun x n _ _ => mk143_up x n) (fun k l n i => laws_heldCondS.l0 k l n i) l ?_ ?_ n h0 hB)
  · intro l' n hl
    refine Ev.succ ?_
    simp only [laws_heldCondS.l0, hl, Int.lt_irrefl, if_false]
    exact Ev.now _
  · intro l' i x n r hl hm h0 hc hx hr
    have hi := lt_of_get hx
    have h1 : ((i : Int) < (l'.length : Int)) = True := eq_true (by omega)
    have h2 : (0 ≤ (i : Int)) = True := eq_true (by omega)
    rw [ctC_f] at hc
    obtain ⟨jm, hjm⟩ := List.getElem?_of_mem hm
    have hn := le_sum n143 hjm
    have hlt := lt_of_get hjm
    rw [n143_f] at hn
    have e0 : wrap64 (n + 1) = n + 1 := wr (by omega) (by omega)
    have e1 : wrap64 (n + 1 + 1) = n + 1 + 1 := wr (by omega) (by omega)
    have e2 : wrap64 (n + 1 + 1 + 1) = n + 1 + 1 + 1 := wr (by omega) (by omega)
    have R := rd_at_T143 hx
    rw [mkC_f] at hr R
    refine Ev.succ ?_
    simp only [laws_heldCondS.l0, h1, h2, if_true, wr1 hi (by omega), R, e0, e1, e2]
    refine Ev.bind (ih (x.f3.length + (x.f3.map n143).sum) (by omega) x.f3 (n + 1 + 1 + 1) (Nat.le_refl _) (by omega) (by omega) (by omega)) ?_
    refine Ev.neg (by omega) ?_
    exact hr
theorem laws_heldCondS_ev (l : List S143) (h : l.length + (l.map n143).sum ≤ 2097152) (n : Int) (h0 : 0 ≤ n) (hB : n + ((l.map ct143).sum : Nat) ≤ 4611686018427387904) : Ev (fun k => laws_heldCondS.f k (acc mk143 l n).1 n) (n + ((l.map ct143).sum : Nat)) := laws_heldCondS_evN _ l n (Nat.le_refl _) h h0 hB

-- laws_heldRuleS
theorem laws_heldRuleS_ev (l : List S145) (h : l.length + (l.map n145).sum ≤ 2097152) (n : Int) (h0 : 0 ≤ n) (hB : n + ((l.map ct145).sum : Nat) ≤ 4611686018427387904) : Ev (fun k => laws_heldRuleS.f k (acc mk145 l n).1 n) (n + ((l.map ct145).sum : Nat)) := by
  unfold laws_heldRuleS.f
  refine Ev.eqv (acc_up mk145 ct145 mk145_up l n) (ev_held2 mk145 ct145 4611686018427387904 (fun x n _ _ => mk145_up x n) (fun k l n i => laws_heldRuleS.l0 k l n i) l ?_ ?_ n h0 hB)
  · intro l' n hl
    refine Ev.succ ?_
    simp only [laws_heldRuleS.l0, hl, Int.lt_irrefl, if_false]
    exact Ev.now _
  · intro l' i x n r hl hm h0 hc hx hr
    have hi := lt_of_get hx
    have h1 : ((i : Int) < (l'.length : Int)) = True := eq_true (by omega)
    have h2 : (0 ≤ (i : Int)) = True := eq_true (by omega)
    simp only [ct145] at hc
    obtain ⟨jm, hjm⟩ := List.getElem?_of_mem hm
    have hn := le_sum n145 hjm
    simp only [n145, n143_f] at hn
    have e0 : wrap64 (n + 1) = n + 1 := wr (by omega) (by omega)
    have e1 : wrap64 (n + 1 + 1) = n + 1 + 1 := wr (by omega) (by omega)
    have e2 : wrap64 (n + 1 + 1 + 1) = n + 1 + 1 + 1 := wr (by omega) (by omega)
    have e3 : wrap64 (n + 1 + 1 + 1 + 1) = n + 1 + 1 + 1 + 1 := wr (by omega) (by omega)
    have e4 : wrap64 (n + 1 + 1 + 1 + 1 + 1) = n + 1 + 1 + 1 + 1 + 1 := wr (by omega) (by omega)
    have e5 : wrap64 (n + 1 + 1 + 1 + 1 + 1 + 1) = n + 1 + 1 + 1 + 1 + 1 + 1 := wr (by omega) (by omega)
    simp only [mk145] at hr
    refine Ev.succ ?_
    simp only [laws_heldRuleS.l0, h1, h2, if_true, wr1 hi (by omega), rd_at_T145 hx, mk145, e0, e1, e2, e3, e4, e5]
    refine Ev.bind (laws_heldCondS_ev x.f3.f3 (by omega) (n + 1 + 1 + 1 + 1 + 1 + 1) (by omega) (by omega)) ?_
    refine Ev.neg (by omega) ?_
    (try simp only [h1, h2, if_true, wr1 hi (by omega), rd_at_T145 hx, mk145, e0, e1, e2, e3, e4, e5])
    exact hr

-- laws_heldEpochS
theorem laws_heldEpochS_ev (l : List S102) (h : l.length + (l.map n102).sum ≤ 2097152) (n : Int) (h0 : 0 ≤ n) (hB : n + ((l.map ct102).sum : Nat) ≤ 4611686018427387904) : Ev (fun k => laws_heldEpochS.f k (acc mk102 l n).1 n) (n + ((l.map ct102).sum : Nat)) := by
  unfold laws_heldEpochS.f
  refine Ev.eqv (acc_up mk102 ct102 mk102_up l n) (ev_held2 mk102 ct102 4611686018427387904 (fun x n _ _ => mk102_up x n) (fun k l n i => laws_heldEpochS.l0 k l n i) l ?_ ?_ n h0 hB)
  · intro l' n hl
    refine Ev.succ ?_
    simp only [laws_heldEpochS.l0, hl, Int.lt_irrefl, if_false]
    exact Ev.now _
  · intro l' i x n r hl hm h0 hc hx hr
    have hi := lt_of_get hx
    have h1 : ((i : Int) < (l'.length : Int)) = True := eq_true (by omega)
    have h2 : (0 ≤ (i : Int)) = True := eq_true (by omega)
    simp only [ct102] at hc
    obtain ⟨jm, hjm⟩ := List.getElem?_of_mem hm
    have hn := le_sum n102 hjm
    simp only [n102, n100] at hn
    have e0 : wrap64 (n + 1) = n + 1 := wr (by omega) (by omega)
    have e1 : wrap64 (n + 1 + 1) = n + 1 + 1 := wr (by omega) (by omega)
    have e2 : wrap64 (n + 1 + 1 + ((x.f2.map ct140).sum : Nat) + 1) = n + 1 + 1 + ((x.f2.map ct140).sum : Nat) + 1 := wr (by omega) (by omega)
    simp only [mk102] at hr
    refine Ev.succ ?_
    simp only [laws_heldEpochS.l0, h1, h2, if_true, wr1 hi (by omega), rd_at_T102 hx, mk102, e0, e1, e2]
    refine Ev.bind (laws_heldIncludesS_ev x.f2 (by omega) (n + 1 + 1) (by omega) (by omega)) ?_
    refine Ev.neg (by omega) ?_
    (try simp only [h1, h2, if_true, wr1 hi (by omega), rd_at_T102 hx, mk102, e0, e1, e2])
    refine Ev.bind (laws_heldRuleS_ev x.f3.f1 (by omega) (n + 1 + 1 + ((x.f2.map ct140).sum : Nat) + 1) (by omega) (by omega)) ?_
    refine Ev.neg (by omega) ?_
    (try simp only [h1, h2, if_true, wr1 hi (by omega), rd_at_T102 hx, mk102, e0, e1, e2])
    exact hr

-- laws_heldFactS
theorem laws_heldFactS_ev (l : List S44) (h : l.length ≤ 2097152) (n : Int) (h0 : 0 ≤ n) (hB : n + ((l.map ct44).sum : Nat) ≤ 4611686018427387904) : Ev (fun k => laws_heldFactS.f k (acc mk44 l n).1 n) (n + ((l.map ct44).sum : Nat)) := by
  unfold laws_heldFactS.f
  refine Ev.eqv (acc_up mk44 ct44 mk44_up l n) (ev_held2 mk44 ct44 4611686018427387904 (fun x n _ _ => mk44_up x n) (fun k l n i => laws_heldFactS.l0 k l n i) l ?_ ?_ n h0 hB)
  · intro l' n hl
    refine Ev.succ ?_
    simp only [laws_heldFactS.l0, hl, Int.lt_irrefl, if_false]
    exact Ev.now _
  · intro l' i x n r hl hm h0 hc hx hr
    have hi := lt_of_get hx
    have h1 : ((i : Int) < (l'.length : Int)) = True := eq_true (by omega)
    have h2 : (0 ≤ (i : Int)) = True := eq_true (by omega)
    simp only [ct44] at hc
    have e0 : wrap64 (n + 1) = n + 1 := wr (by omega) (by omega)
    have e1 : wrap64 (n + 1 + 1) = n + 1 + 1 := wr (by omega) (by omega)
    have e2 : wrap64 (n + 1 + 1 + 1) = n + 1 + 1 + 1 := wr (by omega) (by omega)
    have e3 : wrap64 (n + 1 + 1 + 1 + 1) = n + 1 + 1 + 1 + 1 := wr (by omega) (by omega)
    have e4 : wrap64 (n + 1 + 1 + 1 + 1 + 1) = n + 1 + 1 + 1 + 1 + 1 := wr (by omega) (by omega)
    have e5 : wrap64 (n + 1 + 1 + 1 + 1 + 1 + 1) = n + 1 + 1 + 1 + 1 + 1 + 1 := wr (by omega) (by omega)
    simp only [mk44] at hr
    refine Ev.succ ?_
    simp only [laws_heldFactS.l0, h1, h2, if_true, wr1 hi (by omega), rd_at_T44 hx, mk44, e0, e1, e2, e3, e4, e5]
    exact hr

-- laws_heldRevokedS
theorem laws_heldRevokedS_ev (l : List S105) (h : l.length ≤ 2097152) (n : Int) (h0 : 0 ≤ n) (hB : n + ((l.map ct105).sum : Nat) ≤ 4611686018427387904) : Ev (fun k => laws_heldRevokedS.f k (acc mk105 l n).1 n) (n + ((l.map ct105).sum : Nat)) := by
  unfold laws_heldRevokedS.f
  refine Ev.eqv (acc_up mk105 ct105 mk105_up l n) (ev_held2 mk105 ct105 4611686018427387904 (fun x n _ _ => mk105_up x n) (fun k l n i => laws_heldRevokedS.l0 k l n i) l ?_ ?_ n h0 hB)
  · intro l' n hl
    refine Ev.succ ?_
    simp only [laws_heldRevokedS.l0, hl, Int.lt_irrefl, if_false]
    exact Ev.now _
  · intro l' i x n r hl hm h0 hc hx hr
    have hi := lt_of_get hx
    have h1 : ((i : Int) < (l'.length : Int)) = True := eq_true (by omega)
    have h2 : (0 ≤ (i : Int)) = True := eq_true (by omega)
    simp only [ct105] at hc
    have e0 : wrap64 (n + 1) = n + 1 := wr (by omega) (by omega)
    have e1 : wrap64 (n + 1 + 1) = n + 1 + 1 := wr (by omega) (by omega)
    simp only [mk105] at hr
    refine Ev.succ ?_
    simp only [laws_heldRevokedS.l0, h1, h2, if_true, wr1 hi (by omega), rd_at_T105 hx, mk105, e0, e1]
    exact hr

-- laws_heldCertS
theorem laws_heldCertS_ev (l : List S109) (h : l.length ≤ 2097152) (n : Int) (h0 : 0 ≤ n) (hB : n + ((l.map ct109).sum : Nat) ≤ 4611686018427387904) : Ev (fun k => laws_heldCertS.f k (acc mk109 l n).1 n) (n + ((l.map ct109).sum : Nat)) := by
  unfold laws_heldCertS.f
  refine Ev.eqv (acc_up mk109 ct109 mk109_up l n) (ev_held2 mk109 ct109 4611686018427387904 (fun x n _ _ => mk109_up x n) (fun k l n i => laws_heldCertS.l0 k l n i) l ?_ ?_ n h0 hB)
  · intro l' n hl
    refine Ev.succ ?_
    simp only [laws_heldCertS.l0, hl, Int.lt_irrefl, if_false]
    exact Ev.now _
  · intro l' i x n r hl hm h0 hc hx hr
    have hi := lt_of_get hx
    have h1 : ((i : Int) < (l'.length : Int)) = True := eq_true (by omega)
    have h2 : (0 ≤ (i : Int)) = True := eq_true (by omega)
    simp only [ct109] at hc
    have e0 : wrap64 (n + 1) = n + 1 := wr (by omega) (by omega)
    have e1 : wrap64 (n + 1 + 1) = n + 1 + 1 := wr (by omega) (by omega)
    have e2 : wrap64 (n + 1 + 1 + 1) = n + 1 + 1 + 1 := wr (by omega) (by omega)
    have e3 : wrap64 (n + 1 + 1 + 1 + 1) = n + 1 + 1 + 1 + 1 := wr (by omega) (by omega)
    have e4 : wrap64 (n + 1 + 1 + 1 + 1 + 1) = n + 1 + 1 + 1 + 1 + 1 := wr (by omega) (by omega)
    have e5 : wrap64 (n + 1 + 1 + 1 + 1 + 1 + 1) = n + 1 + 1 + 1 + 1 + 1 + 1 := wr (by omega) (by omega)
    simp only [mk109] at hr
    refine Ev.succ ?_
    simp only [laws_heldCertS.l0, h1, h2, if_true, wr1 hi (by omega), rd_at_T109 hx, mk109, e0, e1, e2, e3, e4, e5]
    exact hr

-- laws_heldCenter
theorem laws_heldCenter_ev (x : S40) (h : n40 x ≤ 2097152) : Ev (fun k => laws_heldCenter.f k (mkX40 x).f0 (mkX40 x).f1 (mkX40 x).f2 (mkX40 x).f3 x.f4 (mkX40 x).f5 1) (q540 x) := by
  obtain ⟨⟨g1, g1'⟩, ⟨g2, g2'⟩, ⟨g3, g3'⟩, ⟨g4, g4'⟩, ⟨g5, g5'⟩⟩ := q_bd40 x h
  have hn := h
  unfold n40 at hn
  unfold laws_heldCenter.f
  refine Ev.bind (laws_heldIssuerS_ev x.f0 (by omega) (1) (by omega) (show q140 x ≤ _ by omega)) ?_
  refine Ev.neg (show ¬ q140 x < 0 by omega) ?_
  refine Ev.bind (laws_heldEpochS_ev x.f1 (by omega) (q140 x) (by omega) (show q240 x ≤ _ by omega)) ?_
  refine Ev.neg (show ¬ q240 x < 0 by omega) ?_
  refine Ev.bind (laws_heldFactS_ev x.f2 (by omega) (q240 x) (by omega) (show q340 x ≤ _ by omega)) ?_
  refine Ev.neg (show ¬ q340 x < 0 by omega) ?_
  refine Ev.bind (laws_heldRevokedS_ev x.f3 (by omega) (q340 x) (by omega) (show q440 x ≤ _ by omega)) ?_
  refine Ev.neg (show ¬ q440 x < 0 by omega) ?_
  refine Ev.bind (laws_heldCertS_ev x.f5 (by omega) (q440 x) (by omega) (show q540 x ≤ _ by omega)) ?_
  refine Ev.neg (show ¬ q540 x < 0 by omega) ?_
  exact Ev.now _

-- skip
-- dirs v3 v v2
-- base impl_areNodes impl_IsCond impl_IsRule
-- big
theorem ctTake_n (x : S40) (f : S44) (m : Int) : n40 (ctTakeV x f m).1 ≤ n40 x + 1 := by
  have := putFV_len x.f2 f
  unfold ctTakeV
  split
  · unfold n40
    simp only []
    omega
  · simp only []; omega
theorem FnExactCenterTake : laws_FnExactCenterTake.Pure := by
  intro x s hx _
  refine Ev.rounds ?_
  unfold laws_FnExactCenterTake.f
  obtain ⟨r, e, hr1, hr⟩ := laws_szCenter_le x hx 1048576 (by omega) (by omega)
  refine Ev.bind e ?_
  by_cases c : r < 0
  · simp only [if_pos c]; exact Ev.now _
  simp only [if_neg c]
  have hb := hr (by omega)
  have hz : n40 (cv28 x) ≤ 1048576 := by rw [ncv28]; omega
  have hz1 : n40 (cv28 x) ≤ 2097152 := by omega
  have hT := laws_toCenter_ev x (by omega)
  simp only [laws_toStated_eq s, Option.bind_some]
  generalize cv32 s = t
  obtain ⟨f, m⟩ := t
  simp only []
  have hy : n40 (ctTakeV (cv28 x) f m).1 ≤ 2097152 := by have := ctTake_n (cv28 x) f m; omega
  have hS := spec_CenterTake_ev (cv28 x) f m hz1
  have hI := impl_CenterTake_ev (cv28 x) f m hz1
  generalize ctTakeV (cv28 x) f m = y at hy hS hI
  generalize cv28 x = z at hz1 hT hS hI
  have qz := (q_bd40 z hz1).2.2.2.2
  have qy := (q_bd40 y.1 hy).2.2.2.2
  repeat (first
    | exact Ev.now _
    | ((first | refine Ev.bind hT ?_ | refine Ev.bind hS ?_ | refine Ev.bind hI ?_ | refine Ev.bind (laws_eqCenter_refl y.1 hy) ?_ | refine Ev.bind (laws_eqCenter_refl z hz1) ?_ | refine Ev.bind (laws_markCenter_ev z hz1) ?_ | refine Ev.bind (laws_markCenter_ev y.1 hy) ?_ | refine Ev.bind (laws_heldCenter_ev y.1 hy) ?_); try simp only [])
    | refine Ev.neg (show ¬ q540 z < 0 by omega) ?_
    | refine Ev.neg (show ¬ q540 y.1 < 0 by omega) ?_
    | simp only [if_true, bne_self_eq_false, Bool.false_eq_true, if_false])

end Go.Proofs.YtpdnnndedejlhaaGreat.Pure
