/- The law FnExactIsPoint answers true for all arguments, over numbers and lists alone: what each function computes, and that program and reference compute the same. No condition. -/
import Derived.Lib.RowBridge
import Derived.Test.YtikbkgenadkbdaaGreatQFnExactIsPointx0
import Derived.Test.YtikbkgenadkbdaaGreatL
namespace Go.Proofs.YtikbkgenadkbdaaGreat.Pure
open Go.RowKit Go.Proofs.YtikbkgenadkbdaaGreat.QFnExactIsPoint Go.Proofs.YtikbkgenadkbdaaGreatL Go.Proofs.YtikbkgenadkbdaaGreatW.PrintWords Go.Proofs.YtikbkgenadkbdaaGreatW.PrintLast
set_option linter.unusedVariables false
set_option linter.unusedSimpArgs false

def cv117 (x : S117) : S112 := ⟨x.f0, x.f1⟩
theorem eta131 (x : S131) : (⟨x.f0, x.f1, x.f2, x.f3⟩ : S131) = x := by cases x; rfl
mutual
def n131 : S131 → Nat
  | ⟨x0, x1, x2, x3⟩ => x3.length + nL131 x3
def nL131 : List S131 → Nat
  | [] => 0
  | x :: l => n131 x + nL131 l
end
theorem nL131_eq : ∀ l : List S131, nL131 l = (l.map n131).sum
  | [] => by simp [nL131]
  | x :: l => by simp [nL131, nL131_eq l]
theorem n131_f (x : S131) : n131 x = x.f3.length + (x.f3.map n131).sum := by
  cases x
  simp only [n131, nL131_eq]
mutual
def cv131 : S131 → S108
  | ⟨x0, x1, x2, x3⟩ => ⟨x0, x1, x2, cvL131 x3⟩
def cvL131 : List S131 → List S108
  | [] => []
  | x :: l => cv131 x :: cvL131 l
end
theorem cvL131_eq : ∀ l : List S131, cvL131 l = l.map cv131
  | [] => by simp [cvL131]
  | x :: l => by simp [cvL131, cvL131_eq l]
theorem cv131_f (x : S131) : cv131 x = ⟨x.f0, x.f1, x.f2, x.f3.map cv131⟩ := by
  cases x
  simp only [cv131, cvL131_eq]
def cv133 (x : S133) : S110 := ⟨x.f0, x.f1, x.f2, (cv131 x.f3)⟩
def n133 (x : S133) : Nat := n131 x.f3
def cv25 (x : S25) : S38 := ⟨x.f0, (x.f1.map cv133)⟩
def n25 (x : S25) : Nat := x.f1.length + (x.f1.map n133).sum
def cv27 (x : S27) : S40 := ⟨x.f0, x.f1, (x.f2.map cv117), (cv25 x.f3)⟩
def n27 (x : S27) : Nat := x.f2.length + n25 x.f3
def cv90 (x : S90) : S83 := ⟨x.f0, x.f1, x.f2, x.f3, x.f4, x.f5⟩
def cv92 (x : S92) : S86 := ⟨x.f0, x.f1⟩
def cv94 (x : S94) : S56 := ⟨x.f0, x.f1, x.f2, x.f3, x.f4, x.f5⟩
def cv96 (x : S96) : S58 := ⟨(cv94 x.f0), x.f1, x.f2⟩
def cv32 (x : S32) : S45 := ⟨x.f0, (cv27 x.f1), (x.f2.map cv90), (x.f3.map cv92), x.f4, (x.f5.map cv96)⟩
def n32 (x : S32) : Nat := n27 x.f1 + x.f2.length + x.f3.length + x.f5.length
theorem eta108 (x : S108) : (⟨x.f0, x.f1, x.f2, x.f3⟩ : S108) = x := by cases x; rfl
mutual
def n108 : S108 → Nat
  | ⟨x0, x1, x2, x3⟩ => x3.length + nL108 x3
def nL108 : List S108 → Nat
  | [] => 0
  | x :: l => n108 x + nL108 l
end
theorem nL108_eq : ∀ l : List S108, nL108 l = (l.map n108).sum
  | [] => by simp [nL108]
  | x :: l => by simp [nL108, nL108_eq l]
theorem n108_f (x : S108) : n108 x = x.f3.length + (x.f3.map n108).sum := by
  cases x
  simp only [n108, nL108_eq]
def n110 (x : S110) : Nat := n108 x.f3
def n38 (x : S38) : Nat := x.f1.length + (x.f1.map n110).sum
def n40 (x : S40) : Nat := x.f2.length + n38 x.f3
def n45 (x : S45) : Nat := n40 x.f1 + x.f2.length + x.f3.length + x.f5.length
theorem rd_at_T117 {l : List S117} {i : Nat} {x : S117} (h : l[i]? = some x) : rd_T117 l (i : Int) = x := getD_nat l _ i x h
theorem rd_at_T131 {l : List S131} {i : Nat} {x : S131} (h : l[i]? = some x) : rd_T131 l (i : Int) = x := getD_nat l _ i x h
theorem rd_at_T133 {l : List S133} {i : Nat} {x : S133} (h : l[i]? = some x) : rd_T133 l (i : Int) = x := getD_nat l _ i x h
theorem rd_at_T90 {l : List S90} {i : Nat} {x : S90} (h : l[i]? = some x) : rd_T90 l (i : Int) = x := getD_nat l _ i x h
theorem rd_at_T92 {l : List S92} {i : Nat} {x : S92} (h : l[i]? = some x) : rd_T92 l (i : Int) = x := getD_nat l _ i x h
theorem rd_at_T96 {l : List S96} {i : Nat} {x : S96} (h : l[i]? = some x) : rd_T96 l (i : Int) = x := getD_nat l _ i x h
theorem rd_at_T112 {l : List S112} {i : Nat} {x : S112} (h : l[i]? = some x) : rd_T112 l (i : Int) = x := getD_nat l _ i x h
theorem rd_at_T108 {l : List S108} {i : Nat} {x : S108} (h : l[i]? = some x) : rd_T108 l (i : Int) = x := getD_nat l _ i x h
theorem rd_at_T110 {l : List S110} {i : Nat} {x : S110} (h : l[i]? = some x) : rd_T110 l (i : Int) = x := getD_nat l _ i x h
theorem rd_at_T83 {l : List S83} {i : Nat} {x : S83} (h : l[i]? = some x) : rd_T83 l (i : Int) = x := getD_nat l _ i x h
theorem rd_at_T86 {l : List S86} {i : Nat} {x : S86} (h : l[i]? = some x) : rd_T86 l (i : Int) = x := getD_nat l _ i x h
theorem rd_at_T58 {l : List S58} {i : Nat} {x : S58} (h : l[i]? = some x) : rd_T58 l (i : Int) = x := getD_nat l _ i x h
def eqT112 (x y : S112) : Bool := (x.f0 == y.f0) && ((x.f1 == y.f1))
def eqT83 (x y : S83) : Bool := (x.f0 == y.f0) && ((x.f1 == y.f1) && ((x.f2 == y.f2) && ((x.f3 == y.f3) && ((x.f4 == y.f4) && ((x.f5 == y.f5))))))
def eqT86 (x y : S86) : Bool := (x.f0 == y.f0) && ((x.f1 == y.f1))
def eqT56 (x y : S56) : Bool := (x.f0 == y.f0) && ((x.f1 == y.f1) && ((x.f2 == y.f2) && ((x.f3 == y.f3) && ((x.f4 == y.f4) && ((x.f5 == y.f5))))))
def eqT58 (x y : S58) : Bool := (x.f0.f0 == y.f0.f0) && ((x.f0.f1 == y.f0.f1) && ((x.f0.f2 == y.f0.f2) && ((x.f0.f3 == y.f0.f3) && ((x.f0.f4 == y.f0.f4) && ((x.f0.f5 == y.f0.f5) && ((x.f1 == y.f1) && ((x.f2 == y.f2))))))))
theorem ncvN131 (l : List S131) : (cvL131 l).length = l.length := by rw [cvL131_eq, List.length_map]
mutual
theorem ncv131 : ∀ x : S131, n108 (cv131 x) = n131 x
  | ⟨x0, x1, x2, x3⟩ => by simp only [cv131, n108, n131, ncvL131 x3, ncvN131 x3]
theorem ncvL131 : ∀ l : List S131, nL108 (cvL131 l) = nL131 l
  | [] => by simp [cvL131, nL108, nL131]
  | x :: l => by simp only [cvL131, nL108, nL131, ncv131 x, ncvL131 l]
end
theorem ncv133 (x : S133) : n110 (cv133 x) = n133 x := by
  simp only [cv133, n110, n133, List.length_map, List.map_map, Function.comp_def, ncv131]
theorem ncv25 (x : S25) : n38 (cv25 x) = n25 x := by
  simp only [cv25, n38, n25, List.length_map, List.map_map, Function.comp_def, ncv133]
theorem ncv27 (x : S27) : n40 (cv27 x) = n27 x := by
  simp only [cv27, n40, n27, List.length_map, List.map_map, Function.comp_def, ncv25]
theorem ncv32 (x : S32) : n45 (cv32 x) = n32 x := by
  simp only [cv32, n45, n32, List.length_map, List.map_map, Function.comp_def, ncv27]

-- laws_szIncludesS
theorem laws_szIncludesS_le (l : List (S117)) (hl : l.length ≤ maxLen) (a : Int) (h0 : 0 ≤ a) (ha : a ≤ 1048576) : ∃ r, laws_szIncludesS.f l a = some r ∧ r ≤ 1048576 ∧ (0 ≤ r → r + (l.length : Nat) ≤ a) := by
  unfold laws_szIncludesS.f
  unfold maxLen at hl
  rw [wr (by omega) (by omega)]
  split
  · exact ⟨_, rfl, by omega, by omega⟩
  · exact ⟨_, rfl, by omega, by omega⟩

-- laws_szCondS
theorem gin131 {x : S131} (h : g131 x) : x.f3.length ≤ maxLen ∧ ∀ y ∈ x.f3, g131 y := by
  obtain ⟨k, h⟩ := h
  cases k with
  | zero => exact h.elim
  | succ k =>
    obtain ⟨_, _, _, h1, h2⟩ := (show GF131 _ x from h)
    exact ⟨h1, fun y hy => ⟨k, h2 y hy⟩⟩
theorem laws_szCondS_leN (N : Nat) : ∀ (l : List S131) (hl : l.length ≤ maxLen) (hg : ∀ y ∈ l, g131 y) (a : Int), 0 ≤ a → a ≤ 1048576 → a.toNat ≤ N → ∃ r, Ev (fun k => laws_szCondS.f k l a) r ∧ r ≤ 1048576 ∧ (0 ≤ r → r + (l.length + (l.map n131).sum : Nat) ≤ a) := by
  induction N using Nat.strongRecOn with
  | _ N ih =>
  intro l hl hg a h0 ha hN
  unfold maxLen at hl
  by_cases c : a - (l.length : Int) < 0
  · refine ⟨-1, Ev.succ ?_, by omega, by omega⟩
    simp only [laws_szCondS.f, wr (x := a - (l.length : Int)) (by omega) (by omega), if_pos c]
    exact Ev.now _
  have hend : ∀ a, Ev (fun k => laws_szCondS.l0 k l a (l.length : Int)) a := by
    intro a
    refine Ev.succ ?_
    simp only [laws_szCondS.l0, Int.lt_irrefl, if_false]
    exact Ev.now _
  have hstep : ∀ (i : Nat) (x : S131) (b : Int), l[i]? = some x → 0 ≤ b → b ≤ a - (l.length : Int) → (∃ r, Ev (fun k => laws_szCondS.l0 k l b (i : Int)) r ∧ r < 0) ∨ ∃ a', 0 ≤ a' ∧ a' + n131 x ≤ b ∧ ∀ r, Ev (fun k => laws_szCondS.l0 k l a' ((i + 1 : Nat) : Int)) r → Ev (fun k => laws_szCondS.l0 k l b (i : Int)) r := by
    intro i x b hx hb0 hba
    have hi := lt_of_get hx
    have h1 : ((i : Int) < (l.length : Int)) = True := eq_true (by omega)
    have h2 : (0 ≤ (i : Int)) = True := eq_true (by omega)
    have hgx := gin131 (hg x (List.mem_of_getElem? hx))
    obtain ⟨r, e, br, s⟩ := ih b.toNat (by omega) x.f3 hgx.1 hgx.2 b hb0 (by omega) (Nat.le_refl _)
    have e' : Ev (fun k => laws_szCond.f k x.f0 x.f1 x.f2 x.f3 b) (if r < 0 then -1 else r) := by
      refine Ev.succ ?_
      simp only [laws_szCond.f]
      refine Ev.bind e ?_
      by_cases c2 : r < 0
      · simp only [if_pos c2]; exact Ev.now _
      · simp only [if_neg c2]; exact Ev.now _
    by_cases c2 : r < 0
    · left
      rw [if_pos c2] at e'
      refine ⟨-1, Ev.succ ?_, by omega⟩
      simp only [laws_szCondS.l0, h1, h2, if_true, rd_at_T131 hx]
      refine Ev.bind e' ?_
      exact Ev.pos (by omega) (Ev.now _)
    · right
      rw [if_neg c2] at e'
      have s' := s (by omega)
      rw [← n131_f] at s'
      refine ⟨r, by omega, by omega, fun r' hr => Ev.succ ?_⟩
      simp only [laws_szCondS.l0, h1, h2, if_true, rd_at_T131 hx]
      refine Ev.bind e' ?_
      simp only [if_neg c2, wr1 hi (by omega)]
      exact hr
  obtain ⟨r, h1, h2, h3⟩ := ev_sz n131 l (fun k a i => laws_szCondS.l0 k l a i) (a - (l.length : Int)) hend hstep (a - (l.length : Int)) (by omega) (by omega)
  refine ⟨r, Ev.succ ?_, by omega, fun h => by have := h3 h; omega⟩
  simp only [laws_szCondS.f, wr (x := a - (l.length : Int)) (by omega) (by omega), if_neg c]
  exact h1
theorem laws_szCondS_le (l : List S131) (hl : l.length ≤ maxLen) (hg : ∀ y ∈ l, g131 y) (a : Int) (h0 : 0 ≤ a) (ha : a ≤ 1048576) : ∃ r, Ev (fun k => laws_szCondS.f k l a) r ∧ r ≤ 1048576 ∧ (0 ≤ r → r + (l.length + (l.map n131).sum : Nat) ≤ a) := laws_szCondS_leN _ l hl hg a h0 ha (Nat.le_refl _)
theorem laws_szCond_le (x : S131) (hg : g131 x) (a : Int) (h0 : 0 ≤ a) (ha : a ≤ 1048576) : ∃ r, Ev (fun k => laws_szCond.f k x.f0 x.f1 x.f2 x.f3 a) r ∧ r ≤ 1048576 ∧ (0 ≤ r → r + (n131 x : Nat) ≤ a) := by
  have hgx := gin131 hg
  obtain ⟨r, e, b, s⟩ := laws_szCondS_le x.f3 hgx.1 hgx.2 a h0 ha
  by_cases c : r < 0
  · refine ⟨-1, Ev.succ ?_, by omega, by omega⟩
    simp only [laws_szCond.f]
    refine Ev.bind e ?_
    simp only [if_pos c]; exact Ev.now _
  · refine ⟨r, Ev.succ ?_, b, fun h => by rw [n131_f]; exact s h⟩
    simp only [laws_szCond.f]
    refine Ev.bind e ?_
    simp only [if_neg c]; exact Ev.now _

-- laws_szCond


-- laws_szRule
theorem laws_szRule_le (x : S133) (hg : g133 x) (a : Int) (h0 : 0 ≤ a) (ha : a ≤ 1048576) : ∃ r, Ev (fun k => laws_szRule.f k x.f0 x.f1 x.f2 x.f3.f0 x.f3.f1 x.f3.f2 x.f3.f3 a) r ∧ r ≤ 1048576 ∧ (0 ≤ r → r + (n133 x : Nat) ≤ a) := by
  unfold g133 at hg
  unfold n133 laws_szRule.f
  obtain ⟨r0, e0, b0, s0⟩ := laws_szCond_le x.f3 (by have := hg; simp_all) a (by omega) (by omega)
  by_cases c0 : r0 < 0
  · exact ⟨-1, by refine Ev.bind e0 ?_; simp only [if_pos c0]; exact Ev.now _, by omega, by omega⟩
  have s0' := s0 (by omega)
  exact ⟨r0, by refine Ev.bind e0 ?_; simp only [if_neg c0]; exact Ev.now _, by omega, fun _ => by omega⟩

-- laws_szRuleS
theorem laws_szRuleS_le (l : List (S133)) (hl : l.length ≤ maxLen) (hg : ∀ y_ ∈ l, g133 y_) (a : Int) (h0 : 0 ≤ a) (ha : a ≤ 1048576) : ∃ r, Ev (fun k => laws_szRuleS.f k l a) r ∧ r ≤ 1048576 ∧ (0 ≤ r → r + (l.length + (l.map n133).sum : Nat) ≤ a) := by
  unfold laws_szRuleS.f
  unfold maxLen at hl
  rw [wr (by omega) (by omega)]
  by_cases c : a - (l.length : Int) < 0
  · simp only [if_pos c]; exact ⟨_, Ev.now _, by omega, by omega⟩
  simp only [if_neg c]
  have hend : ∀ a, Ev (fun k => laws_szRuleS.l0 k l a (l.length : Int)) a := by
    intro a
    refine Ev.succ ?_
    simp only [laws_szRuleS.l0, Int.lt_irrefl, if_false]
    exact Ev.now _
  have hstep : ∀ (i : Nat) (x : S133) (a : Int), l[i]? = some x → 0 ≤ a → a ≤ 1048576 → (∃ r, Ev (fun k => laws_szRuleS.l0 k l a (i : Int)) r ∧ r < 0) ∨ ∃ a', 0 ≤ a' ∧ a' + n133 x ≤ a ∧ ∀ r, Ev (fun k => laws_szRuleS.l0 k l a' ((i + 1 : Nat) : Int)) r → Ev (fun k => laws_szRuleS.l0 k l a (i : Int)) r := by
    intro i x a hx h0 ha
    have hi := lt_of_get hx
    have h1 : ((i : Int) < (l.length : Int)) = True := eq_true (by omega)
    have h2 : (0 ≤ (i : Int)) = True := eq_true (by omega)
    obtain ⟨r, e, b, s⟩ := laws_szRule_le x (hg x (List.mem_of_getElem? hx)) a h0 ha
    by_cases c2 : r < 0
    · left
      refine ⟨-1, Ev.succ ?_, by omega⟩
      simp only [laws_szRuleS.l0, h1, h2, if_true, rd_at_T133 hx]
      refine Ev.bind e ?_
      simp only [if_pos c2]
      exact Ev.now _
    · right
      have s' := s (by omega)
      refine ⟨r, by omega, by omega, fun r' hr => Ev.succ ?_⟩
      simp only [laws_szRuleS.l0, h1, h2, if_true, rd_at_T133 hx]
      refine Ev.bind e ?_
      simp only [if_neg c2, wr1 hi (by omega)]
      exact hr
  obtain ⟨r, h1, h2, h3⟩ := ev_sz n133 l (fun k a i => laws_szRuleS.l0 k l a i) 1048576 hend hstep (a - l.length) (by omega) (by omega)
  exact ⟨r, h1, h2, fun h => by have := h3 h; omega⟩

-- laws_szPolicy
theorem laws_szPolicy_le (x : S25) (hg : g25 x) (a : Int) (h0 : 0 ≤ a) (ha : a ≤ 1048576) : ∃ r, Ev (fun k => laws_szPolicy.f k x.f0 x.f1 a) r ∧ r ≤ 1048576 ∧ (0 ≤ r → r + (n25 x : Nat) ≤ a) := by
  unfold g25 at hg
  unfold n25 laws_szPolicy.f
  obtain ⟨r0, e0, b0, s0⟩ := laws_szRuleS_le x.f1 (by have := hg; simp_all) (by have := hg; simp_all) a (by omega) (by omega)
  by_cases c0 : r0 < 0
  · exact ⟨-1, by refine Ev.bind e0 ?_; simp only [if_pos c0]; exact Ev.now _, by omega, by omega⟩
  have s0' := s0 (by omega)
  exact ⟨r0, by refine Ev.bind e0 ?_; simp only [if_neg c0]; exact Ev.now _, by omega, fun _ => by omega⟩

-- laws_szEpoch
theorem laws_szEpoch_le (x : S27) (hg : g27 x) (a : Int) (h0 : 0 ≤ a) (ha : a ≤ 1048576) : ∃ r, Ev (fun k => laws_szEpoch.f k x.f0 x.f1 x.f2 x.f3.f0 x.f3.f1 a) r ∧ r ≤ 1048576 ∧ (0 ≤ r → r + (n27 x : Nat) ≤ a) := by
  unfold g27 at hg
  unfold n27 laws_szEpoch.f
  obtain ⟨r0, e0, b0, s0⟩ := laws_szIncludesS_le x.f2 (by have := hg; simp_all) a (by omega) (by omega)
  by_cases c0 : r0 < 0
  · exact ⟨-1, by simp only [e0, Option.bind_some]; simp only [if_pos c0]; exact Ev.now _, by omega, by omega⟩
  have s0' := s0 (by omega)
  obtain ⟨r1, e1, b1, s1⟩ := laws_szPolicy_le x.f3 (by have := hg; simp_all) r0 (by omega) (by omega)
  by_cases c1 : r1 < 0
  · exact ⟨-1, by simp only [e0, Option.bind_some]; simp only [if_neg c0]; refine Ev.bind e1 ?_; simp only [if_pos c1]; exact Ev.now _, by omega, by omega⟩
  have s1' := s1 (by omega)
  exact ⟨r1, by simp only [e0, Option.bind_some]; simp only [if_neg c0]; refine Ev.bind e1 ?_; simp only [if_neg c1]; exact Ev.now _, by omega, fun _ => by omega⟩

-- laws_szFactS
theorem laws_szFactS_le (l : List (S90)) (hl : l.length ≤ maxLen) (a : Int) (h0 : 0 ≤ a) (ha : a ≤ 1048576) : ∃ r, laws_szFactS.f l a = some r ∧ r ≤ 1048576 ∧ (0 ≤ r → r + (l.length : Nat) ≤ a) := by
  unfold laws_szFactS.f
  unfold maxLen at hl
  rw [wr (by omega) (by omega)]
  split
  · exact ⟨_, rfl, by omega, by omega⟩
  · exact ⟨_, rfl, by omega, by omega⟩

-- laws_szRevokedS
theorem laws_szRevokedS_le (l : List (S92)) (hl : l.length ≤ maxLen) (a : Int) (h0 : 0 ≤ a) (ha : a ≤ 1048576) : ∃ r, laws_szRevokedS.f l a = some r ∧ r ≤ 1048576 ∧ (0 ≤ r → r + (l.length : Nat) ≤ a) := by
  unfold laws_szRevokedS.f
  unfold maxLen at hl
  rw [wr (by omega) (by omega)]
  split
  · exact ⟨_, rfl, by omega, by omega⟩
  · exact ⟨_, rfl, by omega, by omega⟩

-- laws_szSavedS
theorem laws_szSavedS_le (l : List (S96)) (hl : l.length ≤ maxLen) (a : Int) (h0 : 0 ≤ a) (ha : a ≤ 1048576) : ∃ r, laws_szSavedS.f l a = some r ∧ r ≤ 1048576 ∧ (0 ≤ r → r + (l.length : Nat) ≤ a) := by
  unfold laws_szSavedS.f
  unfold maxLen at hl
  rw [wr (by omega) (by omega)]
  split
  · exact ⟨_, rfl, by omega, by omega⟩
  · exact ⟨_, rfl, by omega, by omega⟩

-- laws_szPoint
theorem laws_szPoint_le (x : S32) (hg : g32 x) (a : Int) (h0 : 0 ≤ a) (ha : a ≤ 1048576) : ∃ r, Ev (fun k => laws_szPoint.f k x.f0 x.f1.f0 x.f1.f1 x.f1.f2 x.f1.f3.f0 x.f1.f3.f1 x.f2 x.f3 x.f4 x.f5 a) r ∧ r ≤ 1048576 ∧ (0 ≤ r → r + (n32 x : Nat) ≤ a) := by
  unfold g32 at hg
  unfold n32 laws_szPoint.f
  obtain ⟨r0, e0, b0, s0⟩ := laws_szEpoch_le x.f1 (by have := hg; simp_all) a (by omega) (by omega)
  by_cases c0 : r0 < 0
  · exact ⟨-1, by refine Ev.bind e0 ?_; simp only [if_pos c0]; exact Ev.now _, by omega, by omega⟩
  have s0' := s0 (by omega)
  obtain ⟨r1, e1, b1, s1⟩ := laws_szFactS_le x.f2 (by have := hg; simp_all) r0 (by omega) (by omega)
  by_cases c1 : r1 < 0
  · exact ⟨-1, by refine Ev.bind e0 ?_; simp only [if_neg c0]; simp only [e1, Option.bind_some]; simp only [if_pos c1]; exact Ev.now _, by omega, by omega⟩
  have s1' := s1 (by omega)
  obtain ⟨r2, e2, b2, s2⟩ := laws_szRevokedS_le x.f3 (by have := hg; simp_all) r1 (by omega) (by omega)
  by_cases c2 : r2 < 0
  · exact ⟨-1, by refine Ev.bind e0 ?_; simp only [if_neg c0]; simp only [e1, Option.bind_some]; simp only [if_neg c1]; simp only [e2, Option.bind_some]; simp only [if_pos c2]; exact Ev.now _, by omega, by omega⟩
  have s2' := s2 (by omega)
  obtain ⟨r3, e3, b3, s3⟩ := laws_szSavedS_le x.f5 (by have := hg; simp_all) r2 (by omega) (by omega)
  by_cases c3 : r3 < 0
  · exact ⟨-1, by refine Ev.bind e0 ?_; simp only [if_neg c0]; simp only [e1, Option.bind_some]; simp only [if_neg c1]; simp only [e2, Option.bind_some]; simp only [if_neg c2]; simp only [e3, Option.bind_some]; simp only [if_pos c3]; exact Ev.now _, by omega, by omega⟩
  have s3' := s3 (by omega)
  exact ⟨r3, by refine Ev.bind e0 ?_; simp only [if_neg c0]; simp only [e1, Option.bind_some]; simp only [if_neg c1]; simp only [e2, Option.bind_some]; simp only [if_neg c2]; simp only [e3, Option.bind_some]; simp only [if_neg c3]; exact Ev.now _, by omega, fun _ => by omega⟩

-- laws_toIncludes
theorem laws_toIncludes_eq (x : S117) : laws_toIncludes.f x.f0 x.f1 = some ((cv117 x).f0, (cv117 x).f1) := by
  unfold laws_toIncludes.f
  first | rfl | (simp only [Option.bind_some]; rfl)

-- laws_toIncludesS
theorem laws_toIncludesS_ev (l : List (S117)) (h : l.length ≤ 1048576) : Ev (fun k => laws_toIncludesS.f k l) (l.map cv117) := by
  unfold laws_toIncludesS.f
  refine Ev.pos rfl (Ev.pos (by omega) (Ev.pos (by omega) ?_))
  refine ev_fill l cv117 (fun k out i => laws_toIncludesS.l0 k l out i) ?_ ?_ _ (by simp)
  · intro out ho
    refine Ev.succ ?_
    simp only [laws_toIncludesS.l0, Int.lt_irrefl, if_false]
    exact Ev.now _
  · intro i x out r hx ho hr
    have hi := lt_of_get hx
    have h1 : ((i : Int) < (l.length : Int)) = True := eq_true (by omega)
    have h2 : (0 ≤ (i : Int)) = True := eq_true (by omega)
    have h3 : ((i : Int) < (out.length : Int)) = True := eq_true (by omega)
    refine Ev.succ ?_
    simp only [laws_toIncludesS.l0, h1, h2, h3, if_true, rd_at_T117 hx, wr1 hi (by omega), Int.toNat_natCast, laws_toIncludes_eq x, Option.bind_some]
    exact hr

-- laws_toCondS
theorem laws_toCondS_evN (N : Nat) : ∀ l : List S131, l.length + (l.map n131).sum ≤ N → N ≤ 1048576 → Ev (fun k => laws_toCondS.f k l) (l.map cv131) := by
  induction N using Nat.strongRecOn with
  | _ N ih =>
  intro l h hN
  refine Ev.succ ?_
  simp only [laws_toCondS.f]
  refine Ev.pos (by first | trivial | rfl) (Ev.pos (by omega) (Ev.pos (by omega) ?_))
  refine ev_fill l cv131 (fun k out i => laws_toCondS.l0 k l out i) ?_ ?_ _ (by simp)
  · intro out ho
    refine Ev.succ ?_
    simp only [laws_toCondS.l0, Int.lt_irrefl, if_false]
    exact Ev.now _
  · intro i x out r hx ho hr
    have hi := lt_of_get hx
    have h1 : ((i : Int) < (l.length : Int)) = True := eq_true (by omega)
    have h2 : (0 ≤ (i : Int)) = True := eq_true (by omega)
    have h3 : ((i : Int) < (out.length : Int)) = True := eq_true (by omega)
    have hn := le_sum n131 hx
    rw [n131_f] at hn
    have e := ih (x.f3.length + (x.f3.map n131).sum) (by omega) x.f3 (Nat.le_refl _) (by omega)
    have e' : Ev (fun k => laws_toCond.f k x.f0 x.f1 x.f2 x.f3) (x.f0, x.f1, x.f2, x.f3.map cv131) := by
      refine Ev.succ ?_
      simp only [laws_toCond.f]
      refine Ev.bind e ?_
      exact Ev.now _
    refine Ev.succ ?_
    simp only [laws_toCondS.l0, h1, h2, if_true, rd_at_T131 hx, wr1 hi (by omega), Int.toNat_natCast]
    refine Ev.bind e' ?_
    simp only [h3, if_true]
    rw [cv131_f] at hr
    exact hr
theorem laws_toCondS_ev (l : List S131) (h : l.length + (l.map n131).sum ≤ 1048576) : Ev (fun k => laws_toCondS.f k l) (l.map cv131) := laws_toCondS_evN _ l (Nat.le_refl _) h
theorem laws_toCond_ev (x : S131) (h : n131 x ≤ 1048576) : Ev (fun k => laws_toCond.f k x.f0 x.f1 x.f2 x.f3) ((cv131 x).f0, (cv131 x).f1, (cv131 x).f2, (cv131 x).f3) := by
  rw [n131_f] at h
  rw [cv131_f]
  refine Ev.succ ?_
  simp only [laws_toCond.f]
  refine Ev.bind (laws_toCondS_ev x.f3 h) ?_
  exact Ev.now _

-- laws_toCond


-- laws_toRule
theorem laws_toRule_ev (x : S133) (h : n133 x ≤ 1048576) : Ev (fun k => laws_toRule.f k x.f0 x.f1 x.f2 x.f3.f0 x.f3.f1 x.f3.f2 x.f3.f3) ((cv133 x).f0, (cv133 x).f1, (cv133 x).f2, (cv133 x).f3.f0, (cv133 x).f3.f1, (cv133 x).f3.f2, (cv133 x).f3.f3) := by
  unfold n133 at h
  unfold laws_toRule.f
  repeat (first | exact Ev.now _ | (refine Ev.bind (laws_toCond_ev _ (by omega)) ?_; try simp only []))

-- laws_toRuleS
theorem laws_toRuleS_ev (l : List (S133)) (h : l.length + (l.map n133).sum ≤ 1048576) : Ev (fun k => laws_toRuleS.f k l) (l.map cv133) := by
  unfold laws_toRuleS.f
  refine Ev.pos rfl (Ev.pos (by omega) (Ev.pos (by omega) ?_))
  refine ev_fill l cv133 (fun k out i => laws_toRuleS.l0 k l out i) ?_ ?_ _ (by simp)
  · intro out ho
    refine Ev.succ ?_
    simp only [laws_toRuleS.l0, Int.lt_irrefl, if_false]
    exact Ev.now _
  · intro i x out r hx ho hr
    have hi := lt_of_get hx
    have h1 : ((i : Int) < (l.length : Int)) = True := eq_true (by omega)
    have h2 : (0 ≤ (i : Int)) = True := eq_true (by omega)
    have h3 : ((i : Int) < (out.length : Int)) = True := eq_true (by omega)
    refine Ev.succ ?_
    simp only [laws_toRuleS.l0, h1, h2, h3, if_true, rd_at_T133 hx, wr1 hi (by omega), Int.toNat_natCast]
    refine Ev.bind (laws_toRule_ev x (by have := le_sum n133 hx; omega)) ?_
    simp only [h3, if_true]
    (try simp only [eta131, eta108])
    exact hr

-- laws_toPolicy
theorem laws_toPolicy_ev (x : S25) (h : n25 x ≤ 1048576) : Ev (fun k => laws_toPolicy.f k x.f0 x.f1) ((cv25 x).f0, (cv25 x).f1) := by
  unfold n25 at h
  unfold laws_toPolicy.f
  repeat (first | exact Ev.now _ | (refine Ev.bind (laws_toRuleS_ev _ (by omega)) ?_; try simp only []))

-- laws_toEpoch
theorem laws_toEpoch_ev (x : S27) (h : n27 x ≤ 1048576) : Ev (fun k => laws_toEpoch.f k x.f0 x.f1 x.f2 x.f3.f0 x.f3.f1) ((cv27 x).f0, (cv27 x).f1, (cv27 x).f2, (cv27 x).f3.f0, (cv27 x).f3.f1) := by
  unfold n27 at h
  unfold laws_toEpoch.f
  repeat (first | exact Ev.now _ | (refine Ev.bind (laws_toIncludesS_ev _ (by omega)) ?_; try simp only []) | (refine Ev.bind (laws_toPolicy_ev _ (by omega)) ?_; try simp only []))

-- laws_toFact
theorem laws_toFact_eq (x : S90) : laws_toFact.f x.f0 x.f1 x.f2 x.f3 x.f4 x.f5 = some ((cv90 x).f0, (cv90 x).f1, (cv90 x).f2, (cv90 x).f3, (cv90 x).f4, (cv90 x).f5) := by
  unfold laws_toFact.f
  first | rfl | (simp only [Option.bind_some]; rfl)

-- laws_toFactS
theorem laws_toFactS_ev (l : List (S90)) (h : l.length ≤ 1048576) : Ev (fun k => laws_toFactS.f k l) (l.map cv90) := by
  unfold laws_toFactS.f
  refine Ev.pos rfl (Ev.pos (by omega) (Ev.pos (by omega) ?_))
  refine ev_fill l cv90 (fun k out i => laws_toFactS.l0 k l out i) ?_ ?_ _ (by simp)
  · intro out ho
    refine Ev.succ ?_
    simp only [laws_toFactS.l0, Int.lt_irrefl, if_false]
    exact Ev.now _
  · intro i x out r hx ho hr
    have hi := lt_of_get hx
    have h1 : ((i : Int) < (l.length : Int)) = True := eq_true (by omega)
    have h2 : (0 ≤ (i : Int)) = True := eq_true (by omega)
    have h3 : ((i : Int) < (out.length : Int)) = True := eq_true (by omega)
    refine Ev.succ ?_
    simp only [laws_toFactS.l0, h1, h2, h3, if_true, rd_at_T90 hx, wr1 hi (by omega), Int.toNat_natCast, laws_toFact_eq x, Option.bind_some]
    exact hr

-- laws_toRevoked
theorem laws_toRevoked_eq (x : S92) : laws_toRevoked.f x.f0 x.f1 = some ((cv92 x).f0, (cv92 x).f1) := by
  unfold laws_toRevoked.f
  first | rfl | (simp only [Option.bind_some]; rfl)

-- laws_toRevokedS
theorem laws_toRevokedS_ev (l : List (S92)) (h : l.length ≤ 1048576) : Ev (fun k => laws_toRevokedS.f k l) (l.map cv92) := by
  unfold laws_toRevokedS.f
  refine Ev.pos rfl (Ev.pos (by omega) (Ev.pos (by omega) ?_))
  refine ev_fill l cv92 (fun k out i => laws_toRevokedS.l0 k l out i) ?_ ?_ _ (by simp)
  · intro out ho
    refine Ev.succ ?_
    simp only [laws_toRevokedS.l0, Int.lt_irrefl, if_false]
    exact Ev.now _
  · intro i x out r hx ho hr
    have hi := lt_of_get hx
    have h1 : ((i : Int) < (l.length : Int)) = True := eq_true (by omega)
    have h2 : (0 ≤ (i : Int)) = True := eq_true (by omega)
    have h3 : ((i : Int) < (out.length : Int)) = True := eq_true (by omega)
    refine Ev.succ ?_
    simp only [laws_toRevokedS.l0, h1, h2, h3, if_true, rd_at_T92 hx, wr1 hi (by omega), Int.toNat_natCast, laws_toRevoked_eq x, Option.bind_some]
    exact hr

-- laws_toRequest
theorem laws_toRequest_eq (x : S94) : laws_toRequest.f x.f0 x.f1 x.f2 x.f3 x.f4 x.f5 = some ((cv94 x).f0, (cv94 x).f1, (cv94 x).f2, (cv94 x).f3, (cv94 x).f4, (cv94 x).f5) := by
  unfold laws_toRequest.f
  first | rfl | (simp only [Option.bind_some]; rfl)

-- laws_toSaved
theorem laws_toSaved_eq (x : S96) : laws_toSaved.f x.f0.f0 x.f0.f1 x.f0.f2 x.f0.f3 x.f0.f4 x.f0.f5 x.f1 x.f2 = some ((cv96 x).f0.f0, (cv96 x).f0.f1, (cv96 x).f0.f2, (cv96 x).f0.f3, (cv96 x).f0.f4, (cv96 x).f0.f5, (cv96 x).f1, (cv96 x).f2) := by
  unfold laws_toSaved.f
  first | rfl | (simp only [Option.bind_some]; rfl)

-- laws_toSavedS
theorem laws_toSavedS_ev (l : List (S96)) (h : l.length ≤ 1048576) : Ev (fun k => laws_toSavedS.f k l) (l.map cv96) := by
  unfold laws_toSavedS.f
  refine Ev.pos rfl (Ev.pos (by omega) (Ev.pos (by omega) ?_))
  refine ev_fill l cv96 (fun k out i => laws_toSavedS.l0 k l out i) ?_ ?_ _ (by simp)
  · intro out ho
    refine Ev.succ ?_
    simp only [laws_toSavedS.l0, Int.lt_irrefl, if_false]
    exact Ev.now _
  · intro i x out r hx ho hr
    have hi := lt_of_get hx
    have h1 : ((i : Int) < (l.length : Int)) = True := eq_true (by omega)
    have h2 : (0 ≤ (i : Int)) = True := eq_true (by omega)
    have h3 : ((i : Int) < (out.length : Int)) = True := eq_true (by omega)
    refine Ev.succ ?_
    simp only [laws_toSavedS.l0, h1, h2, h3, if_true, rd_at_T96 hx, wr1 hi (by omega), Int.toNat_natCast, laws_toSaved_eq x, Option.bind_some]
    exact hr

-- laws_toPoint
theorem laws_toPoint_ev (x : S32) (h : n32 x ≤ 1048576) : Ev (fun k => laws_toPoint.f k x.f0 x.f1.f0 x.f1.f1 x.f1.f2 x.f1.f3.f0 x.f1.f3.f1 x.f2 x.f3 x.f4 x.f5) ((cv32 x).f0, (cv32 x).f1.f0, (cv32 x).f1.f1, (cv32 x).f1.f2, (cv32 x).f1.f3.f0, (cv32 x).f1.f3.f1, (cv32 x).f2, (cv32 x).f3, (cv32 x).f4, (cv32 x).f5) := by
  unfold n32 at h
  unfold laws_toPoint.f
  repeat (first | exact Ev.now _ | (refine Ev.bind (laws_toEpoch_ev _ (by omega)) ?_; try simp only []) | (refine Ev.bind (laws_toFactS_ev _ (by omega)) ?_; try simp only []) | (refine Ev.bind (laws_toRevokedS_ev _ (by omega)) ?_; try simp only []) | (refine Ev.bind (laws_toSavedS_ev _ (by omega)) ?_; try simp only []))

-- spec_l24Pairs
theorem spec_l24Pairs_ev (l m : List S112) (h : l.length ≤ 1048576) : Ev (fun k => spec_l24Pairs.f k l m) (decide (l.length = m.length) && allZ eqT112 l m) := by
  unfold spec_l24Pairs.f
  refine Ev.dlen fun c => ev_allz eqT112 l m c (fun k i => spec_l24Pairs.l0 k l m i) ?_ ?_
  · refine Ev.succ ?_
    simp only [spec_l24Pairs.l0, Int.lt_irrefl, if_false]
    exact Ev.now _
  · intro i x y r hx hy hr
    have hi := lt_of_get hx
    have h1 : ((i : Int) < (l.length : Int)) = True := eq_true (by omega)
    have h2 : (0 ≤ (i : Int)) = True := eq_true (by omega)
    have h3 : ((i : Int) < (m.length : Int)) = True := eq_true (by omega)
    refine Ev.succ ?_
    simp only [spec_l24Pairs.l0, h1, h2, h3, if_true, rd_at_T112 hx, rd_at_T112 hy, wr1 hi (by omega)]
    exact Ev.eqv (congrArg (· && r) (by rw [Bool.eq_iff_iff]; simp [eqT112])) (Ev.dand fun _ => hr)

-- spec_EqualConds
mutual
def eqC : S108 → S108 → Bool
  | ⟨a, b, c, l⟩, ⟨a', b', c', l'⟩ => decide (a = a') && (decide (b = b') && (decide (c = c') && (decide (l.length = l'.length) && eqCL l l')))
def eqCL : List S108 → List S108 → Bool
  | [], _ => true
  | _ :: _, [] => true
  | x :: xs, y :: ys => eqC x y && eqCL xs ys
end
theorem eqCL_allZ : ∀ l m : List S108, eqCL l m = allZ eqC l m
  | [], m => by cases m <;> simp [eqCL, allZ]
  | _ :: _, [] => by simp [eqCL, allZ]
  | x :: xs, y :: ys => by simp only [eqCL, allZ, eqCL_allZ xs ys]
theorem eqC_f (x y : S108) : eqC x y = (decide (x.f0 = y.f0) && (decide (x.f1 = y.f1) && (decide (x.f2 = y.f2) && (decide (x.f3.length = y.f3.length) && allZ eqC x.f3 y.f3)))) := by
  cases x; cases y
  simp only [eqC, eqCL_allZ]
def eqR (x y : S110) : Bool := decide (x.f0 = y.f0) && (decide (x.f1 = y.f1) && (decide (x.f2 = y.f2) && eqC x.f3 y.f3))
def eqPol (a : Int) (l : List S110) (b : Int) (m : List S110) : Bool := decide (a = b) && (decide (l.length = m.length) && allZ eqR l m)
theorem rule_le {l : List S110} {x : S110} (h : x ∈ l) : n108 x.f3 ≤ (l.map n110).sum := by
  obtain ⟨j, hj⟩ := List.getElem?_of_mem h
  have := le_sum n110 hj
  simpa only [n110] using this
theorem spec_EqualConds_evN (N : Nat) : ∀ x y : S108, n108 x ≤ N → N ≤ 1048576 → Ev (fun k => spec_EqualConds.f k x.f0 x.f1 x.f2 x.f3 y.f0 y.f1 y.f2 y.f3) (eqC x y) := by
  induction N using Nat.strongRecOn with
  | _ N ih =>
  intro x y h hN
  rw [n108_f] at h
  rw [eqC_f]
  refine Ev.succ ?_
  simp only [spec_EqualConds.f]
  refine Ev.dand fun _ => Ev.dand fun _ => Ev.dand fun _ => Ev.dlen fun c => ?_
  refine ev_allz eqC x.f3 y.f3 c (fun k i => spec_EqualConds.l0 k x.f0 x.f1 x.f2 x.f3 y.f0 y.f1 y.f2 y.f3 i) ?_ ?_
  · refine Ev.succ ?_
    simp only [spec_EqualConds.l0, Int.lt_irrefl, if_false]
    exact Ev.now _
  · intro i a b r ha hb hr
    have hi := lt_of_get ha
    have hn := le_sum n108 ha
    have h1 : ((i : Int) < (x.f3.length : Int)) = True := eq_true (by omega)
    have h2 : (0 ≤ (i : Int)) = True := eq_true (by omega)
    have h3 : ((i : Int) < (y.f3.length : Int)) = True := eq_true (by omega)
    refine Ev.succ ?_
    simp only [spec_EqualConds.l0, h1, h2, h3, if_true, rd_at_T108 ha, rd_at_T108 hb, wr1 hi (by omega)]
    exact Ev.band (ih (n108 a) (by omega) a b (Nat.le_refl _) (by omega)) (fun _ => hr)
theorem spec_EqualConds_ev (x y : S108) (h : n108 x ≤ 1048576) : Ev (fun k => spec_EqualConds.f k x.f0 x.f1 x.f2 x.f3 y.f0 y.f1 y.f2 y.f3) (eqC x y) := spec_EqualConds_evN _ x y (Nat.le_refl _) h

-- spec_EqualPolicies
theorem spec_EqualPolicies_ev (a : Int) (l : List S110) (b : Int) (m : List S110) (h : l.length + (l.map n110).sum ≤ 1048576) : Ev (fun k => spec_EqualPolicies.f k a l b m) (eqPol a l b m) := by
  unfold spec_EqualPolicies.f eqPol
  refine Ev.dand fun _ => Ev.dlen fun c => ?_
  refine ev_allz eqR l m c (fun k i => spec_EqualPolicies.l0 k a l b m i) ?_ ?_
  · refine Ev.succ ?_
    simp only [spec_EqualPolicies.l0, Int.lt_irrefl, if_false]
    exact Ev.now _
  · intro i x y r hx hy hr
    have hi := lt_of_get hx
    have hn := rule_le (List.mem_of_getElem? hx)
    have h1 : ((i : Int) < (l.length : Int)) = True := eq_true (by omega)
    have h2 : (0 ≤ (i : Int)) = True := eq_true (by omega)
    have h3 : ((i : Int) < (m.length : Int)) = True := eq_true (by omega)
    refine Ev.succ ?_
    simp only [spec_EqualPolicies.l0, h1, h2, h3, if_true, rd_at_T110 hx, rd_at_T110 hy, wr1 hi (by omega), eqR, Bool.and_assoc]
    exact Ev.dand fun _ => Ev.dand fun _ => Ev.dand fun _ => Ev.band (spec_EqualConds_ev x.f3 y.f3 (by omega)) (fun _ => hr)

-- spec_EqualEpochs
def eqEp (a0 a1 : Int) (l2 : List S112) (a3 : Int) (l4 : List S110) (b0 b1 : Int) (m2 : List S112) (b3 : Int) (m4 : List S110) : Bool := decide (a0 = b0) && (decide (a1 = b1) && ((decide (l2.length = m2.length) && allZ eqT112 l2 m2) && eqPol a3 l4 b3 m4))
theorem spec_EqualEpochs_ev (a0 a1 : Int) (l2 : List S112) (a3 : Int) (l4 : List S110) (b0 b1 : Int) (m2 : List S112) (b3 : Int) (m4 : List S110) (h2 : l2.length ≤ 1048576) (h4 : l4.length + (l4.map n110).sum ≤ 1048576) : Ev (fun k => spec_EqualEpochs.f k a0 a1 l2 a3 l4 b0 b1 m2 b3 m4) (eqEp a0 a1 l2 a3 l4 b0 b1 m2 b3 m4) := by
  unfold spec_EqualEpochs.f eqEp
  exact Ev.dand fun _ => Ev.dand fun _ => Ev.band (spec_l24Pairs_ev l2 m2 h2) fun _ => Ev.bid (spec_EqualPolicies_ev a3 l4 b3 m4 h4)

-- spec_EqualStores
theorem spec_EqualStores_ev (l m : List S83) (h : l.length ≤ 1048576) : Ev (fun k => spec_EqualStores.f k l m) (decide (l.length = m.length) && allZ eqT83 l m) := by
  unfold spec_EqualStores.f
  refine Ev.dlen fun c => ev_allz eqT83 l m c (fun k i => spec_EqualStores.l0 k l m i) ?_ ?_
  · refine Ev.succ ?_
    simp only [spec_EqualStores.l0, Int.lt_irrefl, if_false]
    exact Ev.now _
  · intro i x y r hx hy hr
    have hi := lt_of_get hx
    have h1 : ((i : Int) < (l.length : Int)) = True := eq_true (by omega)
    have h2 : (0 ≤ (i : Int)) = True := eq_true (by omega)
    have h3 : ((i : Int) < (m.length : Int)) = True := eq_true (by omega)
    refine Ev.succ ?_
    simp only [spec_EqualStores.l0, h1, h2, h3, if_true, rd_at_T83 hx, rd_at_T83 hy, wr1 hi (by omega)]
    exact Ev.eqv (congrArg (· && r) (by rw [Bool.eq_iff_iff]; simp [eqT83])) (Ev.dand fun _ => hr)

-- spec_l27Revoked
theorem spec_l27Revoked_ev (l m : List S86) (h : l.length ≤ 1048576) : Ev (fun k => spec_l27Revoked.f k l m) (decide (l.length = m.length) && allZ eqT86 l m) := by
  unfold spec_l27Revoked.f
  refine Ev.dlen fun c => ev_allz eqT86 l m c (fun k i => spec_l27Revoked.l0 k l m i) ?_ ?_
  · refine Ev.succ ?_
    simp only [spec_l27Revoked.l0, Int.lt_irrefl, if_false]
    exact Ev.now _
  · intro i x y r hx hy hr
    have hi := lt_of_get hx
    have h1 : ((i : Int) < (l.length : Int)) = True := eq_true (by omega)
    have h2 : (0 ≤ (i : Int)) = True := eq_true (by omega)
    have h3 : ((i : Int) < (m.length : Int)) = True := eq_true (by omega)
    refine Ev.succ ?_
    simp only [spec_l27Revoked.l0, h1, h2, h3, if_true, rd_at_T86 hx, rd_at_T86 hy, wr1 hi (by omega)]
    exact Ev.eqv (congrArg (· && r) (by rw [Bool.eq_iff_iff]; simp [eqT86])) (Ev.dand fun _ => hr)

-- spec_l27Saved
theorem spec_l27Saved_ev (l m : List S58) (h : l.length ≤ 1048576) : Ev (fun k => spec_l27Saved.f k l m) (decide (l.length = m.length) && allZ eqT58 l m) := by
  unfold spec_l27Saved.f
  refine Ev.dlen fun c => ev_allz eqT58 l m c (fun k i => spec_l27Saved.l0 k l m i) ?_ ?_
  · refine Ev.succ ?_
    simp only [spec_l27Saved.l0, Int.lt_irrefl, if_false]
    exact Ev.now _
  · intro i x y r hx hy hr
    have hi := lt_of_get hx
    have h1 : ((i : Int) < (l.length : Int)) = True := eq_true (by omega)
    have h2 : (0 ≤ (i : Int)) = True := eq_true (by omega)
    have h3 : ((i : Int) < (m.length : Int)) = True := eq_true (by omega)
    refine Ev.succ ?_
    simp only [spec_l27Saved.l0, h1, h2, h3, if_true, rd_at_T58 hx, rd_at_T58 hy, wr1 hi (by omega)]
    exact Ev.eqv (congrArg (· && r) (by rw [Bool.eq_iff_iff]; simp [eqT58])) (Ev.dand fun _ => hr)

-- spec_EqualPoints
def rowB {α : Type} (p : α → α → Bool) (l m : List α) : Bool := decide (l.length = m.length) && allZ p l m
def eqPt (x y : S45) : Bool := decide (x.f0 = y.f0) && (decide (x.f4 = y.f4) && (eqEp x.f1.f0 x.f1.f1 x.f1.f2 x.f1.f3.f0 x.f1.f3.f1 y.f1.f0 y.f1.f1 y.f1.f2 y.f1.f3.f0 y.f1.f3.f1 && (rowB eqT83 x.f2 y.f2 && (rowB eqT86 x.f3 y.f3 && rowB eqT58 x.f5 y.f5))))
theorem point_le (x : S45) (h : n45 x ≤ 1048576) : x.f1.f2.length ≤ 1048576 ∧ x.f1.f3.f1.length + (x.f1.f3.f1.map n110).sum ≤ 1048576 ∧ x.f2.length ≤ 1048576 ∧ x.f3.length ≤ 1048576 ∧ x.f5.length ≤ 1048576 := by
  unfold n45 n40 n38 at h
  refine ⟨?_, ?_, ?_, ?_, ?_⟩ <;> omega
theorem and6 (a b c d e f : Bool) : (a && (b && (c && (d && (e && f))))) = (a && (c && (d && (e && (b && f))))) := by cases a <;> cases b <;> cases c <;> cases d <;> cases e <;> cases f <;> rfl
theorem spec_EqualPoints_ev (x y : S45) (h : n45 x ≤ 1048576) : Ev (fun k => spec_EqualPoints.f k x.f0 x.f1.f0 x.f1.f1 x.f1.f2 x.f1.f3.f0 x.f1.f3.f1 x.f2 x.f3 x.f4 x.f5 y.f0 y.f1.f0 y.f1.f1 y.f1.f2 y.f1.f3.f0 y.f1.f3.f1 y.f2 y.f3 y.f4 y.f5) (eqPt x y) := by
  obtain ⟨h2, h4, h6, h7, h9⟩ := point_le x h
  unfold spec_EqualPoints.f eqPt rowB
  exact Ev.dand fun _ => Ev.dand fun _ => Ev.band (spec_EqualEpochs_ev _ _ _ _ _ _ _ _ _ _ h2 h4) fun _ => Ev.band (spec_EqualStores_ev _ _ h6) fun _ => Ev.band (spec_l27Revoked_ev _ _ h7) fun _ => Ev.bid (spec_l27Saved_ev _ _ h9)

-- spec_l1In
theorem spec_l1In_eq (a b c : Int) : spec_l1In.f a b c = some (inB a b c) := by
  unfold spec_l1In.f
  rw [ite_dand]; rfl

-- spec_IsName
theorem spec_IsName_eq (a : Int) : spec_IsName.f a = some (nameB a) := by
  unfold spec_IsName.f
  rw [spec_l1In_eq]; rfl

-- spec_HasKind
theorem spec_HasKind_eq (a b : Int) : spec_HasKind.f a b = some (kindB a b) := by
  unfold spec_HasKind.f kindB
  rw [spec_IsName_eq, Option.bind_some]
  cases h : nameB a with
  | true => simp only [if_true, name_div h, Bool.true_and]; rfl
  | false => rfl

-- spec_IsTime
theorem spec_IsTime_eq (a : Int) : spec_IsTime.f a = some (timeB a) := by
  unfold spec_IsTime.f
  rw [spec_l1In_eq]; rfl

-- spec_IsRequest
def reqB (a b c d e t : Int) : Bool := kindB a 1 && (kindB b 2 && (kindB c 3 && (kindB e 4 && (inB d 0 5 && timeB t))))
theorem spec_IsRequest_eq (a b c d e t : Int) : spec_IsRequest.f a b c d e t = some (reqB a b c d e t) := by
  unfold spec_IsRequest.f reqB
  simp only [spec_HasKind_eq, spec_IsTime_eq, spec_l1In_eq, Option.bind_some]
  cases kindB a 1 <;> cases kindB b 2 <;> cases kindB c 3 <;> cases kindB e 4 <;> cases inB d 0 5 <;> simp

-- spec_l15Left
theorem spec_l15Left_evN (N : Nat) : ∀ (x : S108) (a : Int), n108 x ≤ N → N ≤ 1048576 → 0 ≤ a → a ≤ 1048576 → ∃ r, Ev (fun k => spec_l15Left.f k x.f0 x.f1 x.f2 x.f3 a) r ∧ -1 ≤ r ∧ (1 + (n108 x : Int) ≤ a → r = a - 1 - (n108 x : Int)) ∧ (a < 1 + (n108 x : Int) → r < 0) := by
  induction N using Nat.strongRecOn with
  | _ N ih =>
  intro x a hx hN ha0 ha1
  rw [n108_f] at hx ⊢
  have key : ∀ (d i : Nat) (s : Int), x.f3.length - i = d → i ≤ x.f3.length → -1 ≤ s → s ≤ 1048576 → ∃ r, Ev (fun k => spec_l15Left.l0 k s x.f0 x.f1 x.f2 x.f3 (i : Int)) r ∧ -1 ≤ r ∧ ((((x.f3.drop i).length + ((x.f3.drop i).map n108).sum : Nat) : Int) ≤ s → r = s - (((x.f3.drop i).length + ((x.f3.drop i).map n108).sum : Nat) : Int)) ∧ (s < (((x.f3.drop i).length + ((x.f3.drop i).map n108).sum : Nat) : Int) → r < 0) := by
    intro d
    induction d with
    | zero =>
      intro i s hd hi h0 hs
      obtain rfl : i = x.f3.length := by omega
      rw [List.drop_length, List.length_nil, List.map_nil, List.sum_nil]
      refine ⟨s, Ev.succ ?_, h0, fun _ => by omega, fun h => by omega⟩
      simp only [spec_l15Left.l0, Int.lt_irrefl, if_false]
      exact Ev.now _
    | succ d ih2 =>
      intro i s hd hi h0 hs
      have hi' : i < x.f3.length := by omega
      have hy : x.f3[i]? = some x.f3[i] := List.getElem?_eq_getElem hi'
      have hn := le_sum n108 hy
      rw [List.drop_eq_getElem_cons hi']
      simp only [List.length_cons, List.map_cons, List.sum_cons]
      generalize x.f3[i] = y at hy hn ⊢
      have h1 : ((i : Int) < (x.f3.length : Int)) = True := eq_true (by omega)
      have h2 : (0 ≤ (i : Int)) = True := eq_true (by omega)
      by_cases c : s ≥ 0
      · obtain ⟨r1, e1, r10, r11, r12⟩ := ih (n108 y) (by omega) y s (Nat.le_refl _) (by omega) (by omega) hs
        obtain ⟨r, e, r0, r2, r3⟩ := ih2 (i + 1) r1 (by omega) (by omega) r10 (by
          by_cases q : 1 + (n108 y : Int) ≤ s
          · have := r11 q; omega
          · have := r12 (by omega); omega)
        refine ⟨r, Ev.succ ?_, r0, ?_, ?_⟩
        · simp only [spec_l15Left.l0, h1, h2, if_true, if_pos c, rd_at_T108 hy, wr1 hi' (by omega)]
          exact Ev.bind e1 e
        · intro h
          have q := r11 (by omega)
          have := r2 (by omega)
          omega
        · intro h
          by_cases q : 1 + (n108 y : Int) ≤ s
          · have := r11 q; exact r3 (by omega)
          · have := r12 (by omega); exact r3 (by omega)
      · refine ⟨s, Ev.succ ?_, h0, fun h => by omega, fun _ => by omega⟩
        simp only [spec_l15Left.l0, h1, if_true, if_neg c]
        exact Ev.now _
  obtain ⟨r, e, r0, r1, r2⟩ := key x.f3.length 0 (a - 1) (by omega) (by omega) (by omega) (by omega)
  rw [List.drop_zero] at r1 r2
  refine ⟨r, Ev.succ ?_, r0, fun h => ?_, fun h => ?_⟩
  · simp only [spec_l15Left.f, wr (show (-9223372036854775808 : Int) ≤ a - 1 by omega) (by omega)]
    exact e
  · have := r1 (by omega); omega
  · exact r2 (by omega)

-- spec_ArityOf
-- told elsewhere

-- spec_IsCond
theorem idx_ev {α : Type} (L : Nat → Int → Option Int) (p : α → Bool) : ∀ (l : List α) (i n : Nat), i + l.length = n → Ev (fun k => L k (n : Int)) (-1) →
    (∀ (j : Nat) (x : α) (r : Int), i ≤ j → l[j - i]? = some x → (p x = true → Ev (fun k => L k (j : Int)) (j : Int)) ∧ (p x = false → Ev (fun k => L k ((j + 1 : Nat) : Int)) r → Ev (fun k => L k (j : Int)) r)) → Ev (fun k => L k (i : Int)) (idxV p l (i : Int))
  | [], i, n, hn, h0, _ => by
    simp only [List.length_nil, Nat.add_zero] at hn
    subst hn
    exact h0
  | x :: l, i, n, hn, h0, hs => by
    have h := hs i x (idxV p l ((i : Int) + 1)) (Nat.le_refl _) (by simp)
    unfold idxV
    cases c : p x with
    | true => simp only [if_true]; exact h.1 c
    | false =>
      simp only [Bool.false_eq_true, if_false]
      refine h.2 c ?_
      have := idx_ev L p l (i + 1) n (by simp only [List.length_cons] at hn; omega) h0 (fun j y r hj hy => hs j y r (by omega) (by rw [show j - i = (j - (i + 1)) + 1 by omega]; simpa using hy))
      exact_mod_cast this
theorem impl_InRange_eq (a b c : Int) : impl_InRange.f a b c = some (inB a b c) := by
  unfold impl_InRange.f
  rw [ite_dand]; rfl
theorem node_eq (a b c : Int) (l : List S108) : impl_isNode.f a b c l = spec_l15Node.f a b c l := by
  unfold impl_isNode.f spec_l15Node.f impl_ArityOf.f spec_ArityOf.f
  simp only [impl_InRange_eq, spec_l1In_eq, spec_IsTime_eq, Option.bind_some]
  generalize (l.length : Int) = n
  by_cases h1 : a = 1
  · subst h1; simp [inB, timeB]; (repeat' split) <;> first | rfl | omega | (simp_all; done) | (simp_all; omega) | (rw [Option.some.injEq, Bool.eq_iff_iff]; simp_all; done) | (rw [Option.some.injEq, Bool.eq_iff_iff]; simp_all; omega)
  by_cases h2 : a = 2
  · subst h2; simp [inB, timeB]; (repeat' split) <;> first | rfl | omega | (simp_all; done) | (simp_all; omega) | (rw [Option.some.injEq, Bool.eq_iff_iff]; simp_all; done) | (rw [Option.some.injEq, Bool.eq_iff_iff]; simp_all; omega)
  by_cases h3 : a = 3
  · subst h3; simp [inB, timeB]; (repeat' split) <;> first | rfl | omega | (simp_all; done) | (simp_all; omega) | (rw [Option.some.injEq, Bool.eq_iff_iff]; simp_all; done) | (rw [Option.some.injEq, Bool.eq_iff_iff]; simp_all; omega)
  by_cases h4 : a = 4
  · subst h4; simp [inB, timeB]; (repeat' split) <;> first | rfl | omega | (simp_all; done) | (simp_all; omega) | (rw [Option.some.injEq, Bool.eq_iff_iff]; simp_all; done) | (rw [Option.some.injEq, Bool.eq_iff_iff]; simp_all; omega)
  by_cases h5 : a = 5
  · subst h5; simp [inB, timeB]; (repeat' split) <;> first | rfl | omega | (simp_all; done) | (simp_all; omega) | (rw [Option.some.injEq, Bool.eq_iff_iff]; simp_all; done) | (rw [Option.some.injEq, Bool.eq_iff_iff]; simp_all; omega)
  by_cases h6 : a = 6
  · subst h6; simp [inB, timeB]; (repeat' split) <;> first | rfl | omega | (simp_all; done) | (simp_all; omega) | (rw [Option.some.injEq, Bool.eq_iff_iff]; simp_all; done) | (rw [Option.some.injEq, Bool.eq_iff_iff]; simp_all; omega)
  by_cases h7 : a = 7
  · subst h7; simp [inB, timeB]; (repeat' split) <;> first | rfl | omega | (simp_all; done) | (simp_all; omega) | (rw [Option.some.injEq, Bool.eq_iff_iff]; simp_all; done) | (rw [Option.some.injEq, Bool.eq_iff_iff]; simp_all; omega)
  by_cases h8 : a = 8
  · subst h8; simp [inB, timeB]; (repeat' split) <;> first | rfl | omega | (simp_all; done) | (simp_all; omega) | (rw [Option.some.injEq, Bool.eq_iff_iff]; simp_all; done) | (rw [Option.some.injEq, Bool.eq_iff_iff]; simp_all; omega)
  by_cases h9 : a = 9
  · subst h9; simp [inB, timeB]; (repeat' split) <;> first | rfl | omega | (simp_all; done) | (simp_all; omega) | (rw [Option.some.injEq, Bool.eq_iff_iff]; simp_all; done) | (rw [Option.some.injEq, Bool.eq_iff_iff]; simp_all; omega)
  simp [h1, h2, h3, h4, h5, h6, h7, h8, h9, inB, timeB]; (repeat' split) <;> (try simp only [Option.bind_some]) <;> (repeat' split) <;> first | rfl | omega | (simp_all; done) | (simp_all; omega) | (rw [Option.some.injEq, Bool.eq_iff_iff]; simp_all; done) | (rw [Option.some.injEq, Bool.eq_iff_iff]; simp_all; omega)
theorem node_some (a b c : Int) (l : List S108) : ∃ t, spec_l15Node.f a b c l = some t := by
  have ha : ∃ m, spec_ArityOf.f a = some m := by
    unfold spec_ArityOf.f
    (repeat' split) <;> exact ⟨_, rfl⟩
  obtain ⟨m, hm⟩ := ha
  unfold spec_l15Node.f
  simp only [spec_l1In_eq, spec_IsTime_eq, hm, Option.bind_some]
  (repeat' split) <;> exact ⟨_, rfl⟩
theorem idxV_anyI {α : Type} (q : α → Bool) : ∀ (l : List α) (i : Int), 0 ≤ i → decide (idxV q l i ≥ 0) = l.any q
  | [], i, _ => by simp [idxV]
  | x :: l, i, h => by
    unfold idxV
    rw [List.any_cons]
    cases c : q x with
    | true => simp only [if_true, Bool.true_or]; exact decide_eq_true h
    | false => simp only [Bool.false_eq_true, if_false, Bool.false_or]; exact idxV_anyI q l (i + 1) (by omega)
mutual
def vldC : S108 → Bool
  | ⟨a, b, c, l⟩ => (spec_l15Node.f a b c l).getD false && vldL l
def vldL : List S108 → Bool
  | [] => true
  | x :: l => vldC x && vldL l
end
theorem vldL_eq : ∀ l : List S108, vldL l = l.all vldC
  | [] => by simp [vldL]
  | x :: l => by simp [vldL, vldL_eq l]
theorem vldC_f (x : S108) : vldC x = ((spec_l15Node.f x.f0 x.f1 x.f2 x.f3).getD false && x.f3.all vldC) := by
  cases x
  simp only [vldC, vldL_eq]
def bothV (x : S108) (b : Bool) : Prop := Ev (fun k => spec_l15Valid.f k x.f0 x.f1 x.f2 x.f3) b ∧ Ev (fun k => impl_areNodes.f k x.f0 x.f1 x.f2 x.f3) b
theorem valid_evN (N : Nat) : ∀ x : S108, n108 x ≤ N → N ≤ 1048576 → bothV x (vldC x) := by
  induction N using Nat.strongRecOn with
  | _ N ih =>
  intro x hx hN
  rw [n108_f] at hx
  obtain ⟨t, ht⟩ := node_some x.f0 x.f1 x.f2 x.f3
  have hti := (node_eq x.f0 x.f1 x.f2 x.f3).trans ht
  rw [vldC_f, ht, Option.getD_some]
  cases t with
  | false => exact ⟨Ev.succ (by simp only [spec_l15Valid.f, ht, Option.bind_some, Bool.false_eq_true, if_false, Bool.false_and]; exact Ev.now _), Ev.succ (by simp only [impl_areNodes.f, hti, Option.bind_some, Bool.false_eq_true, if_false, Bool.false_and]; exact Ev.now _)⟩
  | true =>
  have hp : ∀ y ∈ x.f3, bothV y (vldC y) := fun y hy => by
    obtain ⟨i, hi, rfl⟩ := List.getElem_of_mem hy
    have hn := le_sum n108 (List.getElem?_eq_getElem hi)
    exact ih (n108 x.f3[i]) (by omega) _ (Nat.le_refl _) (by omega)
  rw [Bool.true_and]
  refine ⟨Ev.succ ?_, Ev.succ ?_⟩
  · simp only [spec_l15Valid.f, ht, Option.bind_some, if_true]
    have key : ∀ d i : Nat, x.f3.length - i = d → i ≤ x.f3.length → Ev (fun k => spec_l15Valid.l0 k x.f0 x.f1 x.f2 x.f3 (i : Int)) ((x.f3.drop i).all vldC) := by
      intro d
      induction d with
      | zero =>
        intro i hd hi
        obtain rfl : i = x.f3.length := by omega
        refine Ev.succ ?_
        simp only [spec_l15Valid.l0, Int.lt_irrefl, if_false, List.drop_length, List.all_nil]
        exact Ev.now _
      | succ d ih2 =>
        intro i hd hi
        have hi' : i < x.f3.length := by omega
        have hy : x.f3[i]? = some x.f3[i] := List.getElem?_eq_getElem hi'
        have hb := (hp x.f3[i] (List.getElem_mem hi')).1
        rw [List.drop_eq_getElem_cons hi', List.all_cons]
        generalize x.f3[i] = y at hy hb ⊢
        have h1 : ((i : Int) < (x.f3.length : Int)) = True := eq_true (by omega)
        have h2 : (0 ≤ (i : Int)) = True := eq_true (by omega)
        refine Ev.succ ?_
        simp only [spec_l15Valid.l0, h1, h2, if_true, rd_at_T108 hy, wr1 hi' (by omega)]
        refine Ev.bind hb ?_
        cases vldC y with
        | true => simp only [if_true, Bool.true_and]; exact ih2 (i + 1) (by omega) (by omega)
        | false => simp only [Bool.false_eq_true, if_false, Bool.false_and]; exact Ev.now _
    exact Ev.eqv (by rw [List.drop_zero]) (key x.f3.length 0 (by omega) (by omega))
  · simp only [impl_areNodes.f, hti, Option.bind_some, if_true]
    have hI : Ev (fun k => slices_IndexFunc146_136.f k x.f3) (idxV (fun y => !vldC y) x.f3 0) := by
      refine Ev.succ ?_
      simp only [slices_IndexFunc146_136.f]
      refine idx_ev (fun k i => slices_IndexFunc146_136.l0 k x.f3 (x.f3.length : Int) i) (fun y => !vldC y) x.f3 0 x.f3.length (by omega) ?_ ?_
      · refine Ev.succ ?_
        simp only [slices_IndexFunc146_136.l0, Int.lt_irrefl, if_false]
        exact Ev.now _
      · intro j y r _ hy
        rw [Nat.sub_zero] at hy
        have hj := lt_of_get hy
        have h1 : ((j : Int) < (x.f3.length : Int)) = True := eq_true (by omega)
        have h2 : (0 ≤ (j : Int)) = True := eq_true (by omega)
        have hc : Ev (fun k => cl136.f k y.f0 y.f1 y.f2 y.f3) (!vldC y) := by
          refine Ev.succ ?_
          simp only [cl136.f]
          exact Ev.bind (hp y (List.mem_of_getElem? hy)).2 (Ev.now _)
        constructor
        · intro hq
          refine Ev.succ ?_
          simp only [slices_IndexFunc146_136.l0, h1, h2, if_true, rd_at_T108 hy]
          refine Ev.bind hc ?_
          simp only [hq, if_true]
          exact Ev.now _
        · intro hq he
          refine Ev.succ ?_
          simp only [slices_IndexFunc146_136.l0, h1, h2, if_true, rd_at_T108 hy, wr1 hj (by omega)]
          refine Ev.bind hc ?_
          simp only [hq, Bool.false_eq_true, if_false]
          exact he
    have hC : Ev (fun k => slices_ContainsFunc135_136.f k x.f3) (x.f3.any (fun y => !vldC y)) := by
      refine Ev.succ ?_
      simp only [slices_ContainsFunc135_136.f]
      exact Ev.bind hI (Ev.eqv (idxV_anyI (fun y => !vldC y) x.f3 0 (by omega)) (Ev.now _))
    refine Ev.bind hC ?_
    refine Ev.eqv ?_ (Ev.now _)
    simp [List.any_eq_not_all_not]
/-- A condition is in order: not too many nodes, each of them right. -/
def condB (x : S108) : Bool := decide (1 + (n108 x : Int) ≤ 15) && vldC x
theorem spec_IsCond_ev (x : S108) (h : n108 x ≤ 1048576) : Ev (fun k => spec_IsCond.f k x.f0 x.f1 x.f2 x.f3) (condB x) := by
  have hv := (valid_evN _ x (Nat.le_refl _) h).1
  obtain ⟨r, hr, _, r1, r2⟩ := spec_l15Left_evN _ x 15 (Nat.le_refl _) h (by omega) (by omega)
  unfold spec_IsCond.f condB
  by_cases c : 1 + (n108 x : Int) ≤ 15
  · have q := r1 c
    refine Ev.bind hr ?_
    simp only [if_pos (show r ≥ 0 by omega), decide_eq_true c, Bool.true_and]
    exact Ev.bind hv (Ev.now _)
  · have q := r2 (by omega)
    refine Ev.bind hr ?_
    simp only [if_neg (show ¬ r ≥ 0 by omega), decide_eq_false c, Bool.false_and]
    exact Ev.now _

-- spec_IsRule
def ruleB (r : S110) : Bool := inB r.f0 0 1 && (inB r.f1 (-1) 5 && ((r.f2 == -1 || kindB r.f2 4) && condB r.f3))
def policyB (p : S38) : Bool := inB p.f0 0 999 && (decide ((p.f1.length : Int) ≤ 8) && p.f1.all ruleB)
theorem rule_n (r : S110) : n108 r.f3 ≤ n110 r := by unfold n110; omega
theorem spec_IsRule_ev (r : S110) (h : n110 r ≤ 1048576) : Ev (fun k => spec_IsRule.f k r.f0 r.f1 r.f2 r.f3.f0 r.f3.f1 r.f3.f2 r.f3.f3) (ruleB r) := by
  have hc := spec_IsCond_ev r.f3 (by have := rule_n r; omega)
  unfold spec_IsRule.f ruleB
  simp only [spec_l1In_eq, spec_HasKind_eq, Option.bind_some]
  refine Ev.bifT fun _ => Ev.bifT fun _ => ?_
  by_cases c : r.f2 = -1
  · simp only [if_pos c, beq_iff_eq.2 c, Bool.true_or, Bool.true_and]
    exact Ev.bind hc (Ev.now _)
  · simp only [if_neg c, beq_eq_false_iff_ne.2 c, Bool.false_or]
    exact Ev.bifT fun _ => Ev.bind hc (Ev.now _)

-- spec_IsPolicy
theorem spec_IsPolicy_ev (p : S38) (h : n38 p ≤ 1048576) : Ev (fun k => spec_IsPolicy.f k p.f0 p.f1) (policyB p) := by
  unfold n38 at h
  unfold spec_IsPolicy.f policyB
  have key : ∀ d i : Nat, p.f1.length - i = d → i ≤ p.f1.length → Ev (fun k => spec_IsPolicy.l0 k p.f0 p.f1 (i : Int)) ((p.f1.drop i).all ruleB && (inB p.f0 0 999 && decide ((p.f1.length : Int) ≤ 8))) := by
    intro d
    induction d with
    | zero =>
      intro i hd hi
      obtain rfl : i = p.f1.length := by omega
      refine Ev.succ ?_
      simp only [spec_IsPolicy.l0, Int.lt_irrefl, if_false, List.drop_length, List.all_nil, Bool.true_and, spec_l1In_eq, Option.bind_some]
      exact Ev.bifT fun _ => Ev.now _
    | succ d ih =>
      intro i hd hi
      have hi' : i < p.f1.length := by omega
      have hx : p.f1[i]? = some p.f1[i] := List.getElem?_eq_getElem hi'
      have hr := ih (i + 1) (by omega) (by omega)
      have hn := le_sum n110 hx
      rw [List.drop_eq_getElem_cons hi', List.all_cons, Bool.and_assoc]
      generalize p.f1[i] = x at hx hn ⊢
      have h1 : ((i : Int) < (p.f1.length : Int)) = True := eq_true (by omega)
      have h2 : (0 ≤ (i : Int)) = True := eq_true (by omega)
      refine Ev.succ ?_
      simp only [spec_IsPolicy.l0, h1, h2, if_true, rd_at_T110 hx, wr1 hi' (show p.f1.length ≤ 9223372036854775807 by omega)]
      exact Ev.band (spec_IsRule_ev x (by omega)) fun _ => hr
  refine Ev.eqv ?_ (key p.f1.length 0 (by omega) (by omega))
  rw [List.drop_zero]
  cases p.f1.all ruleB <;> cases inB p.f0 0 999 <;> simp

-- spec_IsFor
def forB (x : S110) (a o : Int) : Bool := (decide (x.f1 = -1) || decide (x.f1 = a)) && (decide (x.f2 = -1) || decide (x.f2 = o))
theorem spec_IsFor_eq (x : S110) (a o : Int) : spec_IsFor.f x.f0 x.f1 x.f2 x.f3.f0 x.f3.f1 x.f3.f2 x.f3.f3 a o = some (forB x a o) := by
  unfold spec_IsFor.f forB
  by_cases c1 : x.f1 = -1
  · rw [if_pos c1]
    by_cases c2 : x.f2 = -1
    · rw [if_pos c2]; simp [c1, c2]
    · rw [if_neg c2]; simp [c1, c2, Bool.beq_eq_decide_eq]
  · rw [if_neg c1]
    by_cases c3 : x.f1 = a
    · rw [if_pos c3]
      by_cases c2 : x.f2 = -1
      · rw [if_pos c2]; simp [c3, c2]
      · rw [if_neg c2]; simp [c3, c2, Bool.beq_eq_decide_eq]
    · rw [if_neg c3]; simp [c1, c3]

-- spec_IsFact
/-- Each element is in order (p), and with the one ahead of it (q). -/
def adjT {α : Type} (p : α → Bool) (q : α → α → Bool) : α → List α → Bool
  | _, [] => true
  | y, x :: t => p x && (q y x && adjT p q x t)
def adjB {α : Type} (p : α → Bool) (q : α → α → Bool) : List α → Bool
  | [] => true
  | x :: t => p x && adjT p q x t
theorem ev_adj {α : Type} (l : List α) (p : α → Bool) (q : α → α → Bool) (fin : Bool) (L : Nat → Int → Option Bool) (hend : Ev (fun k => L k (l.length : Int)) fin)
    (hs0 : ∀ x r, l[0]? = some x → Ev (fun k => L k ((0 + 1 : Nat) : Int)) r → Ev (fun k => L k 0) (p x && r))
    (hs : ∀ (i : Nat) y x r, l[i]? = some y → l[i + 1]? = some x → Ev (fun k => L k ((i + 1 + 1 : Nat) : Int)) r → Ev (fun k => L k ((i + 1 : Nat) : Int)) (p x && (q y x && r))) : Ev (fun k => L k 0) (adjB p q l && fin) := by
  have key : ∀ (d i : Nat) (y : α), l[i]? = some y → l.length - (i + 1) = d → Ev (fun k => L k ((i + 1 : Nat) : Int)) (adjT p q y (l.drop (i + 1)) && fin) := by
    intro d
    induction d with
    | zero =>
      intro i y hy hd
      have hi := lt_of_get hy
      have e : i + 1 = l.length := by omega
      rw [e, List.drop_length]
      exact hend
    | succ d ih =>
      intro i y hy hd
      have hi : i + 1 < l.length := by omega
      have hx : l[i + 1]? = some l[i + 1] := List.getElem?_eq_getElem hi
      have h := hs i y l[i + 1] _ hy hx (ih (i + 1) l[i + 1] hx (by omega))
      rw [List.drop_eq_getElem_cons hi]
      simp only [adjT, Bool.and_assoc]
      exact h
  cases l with
  | nil => exact hend
  | cons x t =>
    have h := hs0 x _ rfl (key _ 0 x rfl rfl)
    simp only [adjB, Bool.and_assoc]
    exact h
theorem wrp {i n : Nat} (h : i + 1 < n) (hn : n ≤ 9223372036854775807) : wrap64 (((i + 1 : Nat) : Int) - 1) = (i : Int) := by rw [wr (by omega) (by omega)]; omega
def claimB (x : S83) : Bool := if x.f0 = 1 then kindB x.f1 1 && inB x.f2 0 5 else if x.f0 = 2 then kindB x.f1 1 && kindB x.f2 2 else if x.f0 = 3 then kindB x.f1 2 && inB x.f2 0 3 else if x.f0 = 4 then kindB x.f1 3 && inB x.f2 0 3 else false
def factB (x : S83) : Bool := claimB x && (inB x.f3 0 9 && (timeB x.f4 && (timeB x.f5 && decide (x.f4 ≤ x.f5))))
/-- A fact stands ahead of another. -/
def factQ (y x : S83) : Bool := if y.f0 = x.f0 then if y.f1 = x.f1 then if y.f2 = x.f2 then decide (y.f3 < x.f3) else decide (y.f2 < x.f2) else decide (y.f1 < x.f1) else decide (y.f0 < x.f0)
def storeB (l : List S83) : Bool := adjB factB factQ l && decide ((l.length : Int) ≤ 30)
theorem spec_IsFact_eq (x : S83) : spec_IsFact.f x.f0 x.f1 x.f2 x.f3 x.f4 x.f5 = some (factB x) := by
  unfold spec_IsFact.f factB claimB
  simp only [spec_HasKind_eq, spec_l1In_eq, spec_IsTime_eq, Option.bind_some, ite_and]
  (repeat' split) <;> first | rfl | simp only [Bool.and_assoc, Bool.false_and]

-- spec_IsWithin
def ageV (a b : Int) : Int := if timeB a = true ∧ timeB b = true ∧ a ≤ b then b - a else -1
def freshV (a b m : Int) : Bool := if ageV a b = -1 then false else decide (ageV a b ≤ m)
theorem timeAt {t : Int} (h : timeB t = true) : 0 ≤ t ∧ t ≤ 10000 := inB_iff.1 h
theorem ageV_cases (a b : Int) : ageV a b = -1 ∨ 0 ≤ ageV a b := by
  unfold ageV
  split
  · right; omega
  · left; rfl
def withinB (a b t : Int) : Bool := timeB a && (timeB b && (timeB t && (decide (a ≤ t) && decide (t ≤ b))))
def holdsB (x : S83) (now age : Int) : Bool := factB x && (withinB x.f4 x.f5 now && freshV x.f4 now age)
theorem fresh_age {a t : Int} (ha : timeB a = true) (ht : timeB t = true) (h : a ≤ t) (m : Int) : freshV a t m = decide (ageV a t ≤ m) := by
  unfold freshV
  have e : ageV a t = t - a := by unfold ageV; rw [if_pos ⟨ha, ht, h⟩]
  rw [e, if_neg (by omega)]
theorem within_iff {a b t : Int} (h : withinB a b t = true) : timeB a = true ∧ timeB b = true ∧ timeB t = true ∧ a ≤ t ∧ t ≤ b := by
  simpa [withinB, and_assoc] using h
theorem spec_IsWithin_eq (a b t : Int) : spec_IsWithin.f a b t = some (withinB a b t) := by
  unfold spec_IsWithin.f withinB
  simp only [spec_IsTime_eq, Option.bind_some]
  cases timeB a <;> cases timeB b <;> cases timeB t <;> simp
  by_cases c : a ≤ t <;> simp [c]

-- spec_AgeOf
theorem spec_AgeOf_eq (a b : Int) : spec_AgeOf.f a b = some (ageV a b) := by
  unfold spec_AgeOf.f ageV
  simp only [spec_IsTime_eq, Option.bind_some]
  by_cases c1 : timeB a = true
  · by_cases c2 : timeB b = true
    · have h1 := timeAt c1
      have h2 := timeAt c2
      by_cases c3 : a > b
      · simp only [if_pos c1, if_pos c2, if_pos c3, if_neg (show ¬ (timeB a = true ∧ timeB b = true ∧ a ≤ b) from fun h => by omega)]
      · simp only [if_pos c1, if_pos c2, if_neg c3, if_pos (show timeB a = true ∧ timeB b = true ∧ a ≤ b from ⟨c1, c2, by omega⟩), wr (x := b - a) (by omega) (by omega)]
    · simp only [if_pos c1, if_neg c2, if_neg (show ¬ (timeB a = true ∧ timeB b = true ∧ a ≤ b) from fun h => c2 h.2.1)]
  · simp only [if_neg c1, if_neg (show ¬ (timeB a = true ∧ timeB b = true ∧ a ≤ b) from fun h => c1 h.1)]

-- spec_IsFresh
theorem spec_IsFresh_eq (a b m : Int) : spec_IsFresh.f a b m = some (freshV a b m) := by
  unfold spec_IsFresh.f freshV
  simp only [spec_AgeOf_eq, Option.bind_some]
  rcases ageV_cases a b with h | h
  · rw [if_neg (by omega), if_pos h]
  · rw [if_pos (by omega), if_neg (by omega)]

-- spec_HoldsAt
theorem spec_HoldsAt_eq (x : S83) (t a : Int) : spec_HoldsAt.f x.f0 x.f1 x.f2 x.f3 x.f4 x.f5 t a = some (holdsB x t a) := by
  unfold spec_HoldsAt.f holdsB
  simp only [spec_IsFact_eq, spec_IsWithin_eq, spec_IsFresh_eq, Option.bind_some]
  cases factB x <;> cases withinB x.f4 x.f5 t <;> simp

-- spec_RolesUnder
def roleB (n : Int) : Bool := decide (0 ≤ n) && decide (n ≤ 5)
def mkR (m : List Bool) (r : Int) : Bool := m.getD r.toNat false
def visX (a : Int) (s : List Bool × List Int) (x : S112) : List Bool × List Int := if x.f0 = a ∧ roleB x.f1 = true ∧ mkR s.1 x.f1 = false then (s.1.set x.f1.toNat true, s.2 ++ [x.f1]) else s
def popX (l : List S112) (a : Int) (s : List Bool × List Int) : List Bool × List Int := l.foldl (visX a) s
def bfsX (l : List S112) : Nat → List Int → List Bool → Option (List Bool)
  | 0, _, _ => none
  | _ + 1, [], m => some m
  | k + 1, a :: rest, m => bfsX l k (popX l a (m, rest)).2 (popX l a (m, rest)).1
/-- An edge between roles. -/
def edgeP (l : List S112) (a b : Int) : Prop := ∃ x ∈ l, x.f0 = a ∧ x.f1 = b ∧ roleB a = true ∧ roleB b = true
inductive Rch (l : List S112) (a : Int) : Int → Prop
  | refl : Rch l a a
  | step {b c : Int} : Rch l a b → edgeP l b c → Rch l a c
theorem Rch.trans {l : List S112} {a b c : Int} (h1 : Rch l a b) (h2 : Rch l b c) : Rch l a c := by
  induction h2 with
  | refl => exact h1
  | step _ e ih => exact .step ih e
/-- By one edge or more. -/
def RchP (l : List S112) (a c : Int) : Prop := ∃ b, edgeP l a b ∧ Rch l b c
theorem RchP.step {l : List S112} {a b c : Int} (h : RchP l a b) (e : edgeP l b c) : RchP l a c := by
  obtain ⟨d, h1, h2⟩ := h
  exact ⟨d, h1, .step h2 e⟩
theorem Rch_iff {l : List S112} {a c : Int} : Rch l a c ↔ a = c ∨ RchP l a c := by
  constructor
  · intro h
    induction h with
    | refl => exact .inl rfl
    | step h e ih =>
      rcases ih with rfl | ih
      · exact .inr ⟨_, e, .refl⟩
      · exact .inr (ih.step e)
  · rintro (rfl | ⟨b, e, h⟩)
    · exact .refl
    · exact Rch.trans (.step .refl e) h
def markX (m : List Bool) (x : S112) : List Bool := if roleB x.f0 && roleB x.f1 && mkR m x.f0 then m.set x.f1.toNat true else m
def roundX (l : List S112) (m : List Bool) : List Bool := l.foldl markX m
def itX (l : List S112) : Nat → List Bool → List Bool
  | 0, m => m
  | n + 1, m => itX l n (roundX l m)
theorem roleB_iff {n : Int} : roleB n = true ↔ 0 ≤ n ∧ n ≤ 5 := by simp [roleB]
theorem mk_set {m : List Bool} (hm : m.length = 6) {r : Int} (hr : roleB r = true) (q : Int) (hq : roleB q = true) : mkR (m.set r.toNat true) q = (decide (q = r) || mkR m q) := by
  rw [roleB_iff] at hr hq
  unfold mkR
  rw [List.getD_eq_getElem?_getD, List.getD_eq_getElem?_getD]
  by_cases h : q = r
  · subst h
    rw [List.getElem?_set_self (by omega)]
    simp
  · rw [List.getElem?_set_ne (by omega)]
    simp [h]
theorem markX_len {m : List Bool} (x : S112) : (markX m x).length = m.length := by
  unfold markX; split <;> simp
theorem roundX_len (l : List S112) : ∀ m : List Bool, (roundX l m).length = m.length := by
  unfold roundX
  induction l with
  | nil => intro m; rfl
  | cons x l ih => intro m; rw [List.foldl_cons, ih, markX_len]
theorem mk_markX {m : List Bool} (hm : m.length = 6) (x : S112) (q : Int) (hq : roleB q = true) : mkR (markX m x) q = (mkR m q || (decide (q = x.f1) && (roleB x.f0 && roleB x.f1 && mkR m x.f0))) := by
  unfold markX
  split
  · rename_i h
    rw [h]
    simp only [Bool.and_eq_true] at h
    rw [mk_set hm h.1.2 q hq, Bool.and_true, Bool.or_comm]
  · rename_i h
    rw [Bool.not_eq_true] at h
    rw [h]; simp
theorem mk_mono_markX {m : List Bool} (hm : m.length = 6) (x : S112) {q : Int} (hq : roleB q = true) (h : mkR m q = true) : mkR (markX m x) q = true := by
  rw [mk_markX hm x q hq, h]; rfl
theorem mk_mono_round (l : List S112) : ∀ {m : List Bool}, m.length = 6 → ∀ {q : Int}, roleB q = true → mkR m q = true → mkR (roundX l m) q = true := by
  unfold roundX
  induction l with
  | nil => intro m hm q hq h; exact h
  | cons x l ih => intro m hm q hq h; exact ih (m := markX m x) (by rw [markX_len]; exact hm) hq (mk_mono_markX hm x hq h)
/-- A round marks what an edge leads to. -/
theorem round_edge (l : List S112) : ∀ {m : List Bool}, m.length = 6 → ∀ {a b : Int}, edgeP l a b → mkR m a = true → mkR (roundX l m) b = true := by
  induction l with
  | nil => rintro m hm a b ⟨x, hx, _⟩; cases hx
  | cons x l ih =>
    rintro m hm a b ⟨y, hy, rfl, rfl, ha, hb⟩ h
    have hl : (markX m x).length = 6 := by rw [markX_len]; exact hm
    change mkR (roundX l (markX m x)) y.f1 = true
    rcases List.mem_cons.1 hy with rfl | hy
    · refine mk_mono_round l hl hb ?_
      rw [mk_markX hm y _ hb, ha, hb, h]; simp
    · exact ih hl ⟨y, hy, rfl, rfl, ha, hb⟩ (mk_mono_markX hm x ha h)
/-- A round marks nothing else. -/
theorem round_sound (l0 : List S112) (P : Int → Prop) (hP : ∀ a b, P a → edgeP l0 a b → P b) (l : List S112) (hl : ∀ x ∈ l, x ∈ l0) : ∀ {m : List Bool}, m.length = 6 → (∀ q, roleB q = true → mkR m q = true → P q) → ∀ q, roleB q = true → mkR (roundX l m) q = true → P q := by
  induction l with
  | nil => intro m hm h q hq hk; exact h q hq hk
  | cons x l ih =>
    intro m hm h
    refine ih (fun y hy => hl y (List.mem_cons_of_mem _ hy)) (m := markX m x) (by rw [markX_len]; exact hm) ?_
    intro q hq hk
    rw [mk_markX hm x q hq, Bool.or_eq_true] at hk
    rcases hk with hk | hk
    · exact h q hq hk
    · simp only [Bool.and_eq_true, decide_eq_true_eq] at hk
      obtain ⟨rfl, ⟨h1, h2⟩, h3⟩ := hk
      exact hP x.f0 x.f1 (h _ h1 h3) ⟨x, hl x List.mem_cons_self, rfl, rfl, h1, h2⟩
def cntB (m : List Bool) : Nat := m.countP id
theorem cnt_set : ∀ (m : List Bool) (i : Nat), cntB m ≤ cntB (m.set i true) ∧ (m[i]? = some false → cntB m < cntB (m.set i true)) := by
  intro m
  induction m with
  | nil => intro i; simp
  | cons b m ih =>
    intro i
    cases i with
    | zero => cases b <;> simp [cntB]
    | succ i =>
      have := ih i
      simp only [List.set_cons_succ, List.getElem?_cons_succ, cntB, List.countP_cons] at this ⊢
      exact ⟨by omega, fun h => by have := this.2 h; omega⟩
theorem cnt_markX (m : List Bool) (hm : m.length = 6) (x : S112) : cntB m ≤ cntB (markX m x) ∧ (markX m x = m ∨ cntB m < cntB (markX m x)) := by
  unfold markX
  split
  · rename_i h
    simp only [Bool.and_eq_true, roleB_iff] at h
    have hlt : x.f1.toNat < m.length := by omega
    refine ⟨(cnt_set m _).1, ?_⟩
    cases hb : m[x.f1.toNat] with
    | true =>
      left
      apply List.ext_getElem?
      intro j
      by_cases e : x.f1.toNat = j
      · subst e; rw [List.getElem?_set_self hlt, List.getElem?_eq_getElem hlt, hb]
      · rw [List.getElem?_set_ne e]
    | false => exact .inr ((cnt_set m _).2 (by rw [List.getElem?_eq_getElem hlt, hb]))
  · exact ⟨Nat.le_refl _, .inl rfl⟩
theorem cnt_round (l : List S112) : ∀ (m : List Bool), m.length = 6 → cntB m ≤ cntB (roundX l m) ∧ (roundX l m = m ∨ cntB m < cntB (roundX l m)) := by
  induction l with
  | nil => intro m hm; exact ⟨Nat.le_refl _, .inl rfl⟩
  | cons x l ih =>
    intro m hm
    obtain ⟨h1, h2⟩ := cnt_markX m hm x
    obtain ⟨h3, h4⟩ := ih (markX m x) (by rw [markX_len]; exact hm)
    change cntB m ≤ cntB (roundX l (markX m x)) ∧ (roundX l (markX m x) = m ∨ cntB m < cntB (roundX l (markX m x)))
    refine ⟨by omega, ?_⟩
    rcases h2 with h2 | h2
    · rw [h2] at h4 ⊢; exact h4
    · right; omega
theorem cnt_le (m : List Bool) : cntB m ≤ m.length := List.countP_le_length
theorem itX_len (l : List S112) : ∀ (n : Nat) (m : List Bool), (itX l n m).length = m.length := by
  intro n
  induction n with
  | zero => intro m; rfl
  | succ n ih => intro m; change (itX l n (roundX l m)).length = _; rw [ih, roundX_len]
theorem itX_fix (l : List S112) : ∀ (n : Nat) (m : List Bool), roundX l m = m → itX l n m = m := by
  intro n
  induction n with
  | zero => intro m _; rfl
  | succ n ih => intro m h; change itX l n (roundX l m) = m; rw [h]; exact ih m h
/-- After so many rounds as there are unmarked ones, and one, nothing changes. -/
theorem itX_closed (l : List S112) : ∀ (n : Nat) (m : List Bool), m.length = 6 → 6 ≤ cntB m + n → roundX l (itX l n m) = itX l n m := by
  intro n
  induction n with
  | zero =>
    intro m hm h
    rcases (cnt_round l m hm).2 with h2 | h2
    · exact h2
    · have := cnt_le (roundX l m); rw [roundX_len] at this; omega
  | succ n ih =>
    intro m hm h
    change roundX l (itX l n (roundX l m)) = itX l n (roundX l m)
    rcases (cnt_round l m hm).2 with h2 | h2
    · rw [h2, itX_fix l n m h2]; exact h2
    · exact ih _ (by rw [roundX_len]; exact hm) (by omega)
theorem itX_sound (l : List S112) (P : Int → Prop) (hP : ∀ a b, P a → edgeP l a b → P b) : ∀ (n : Nat) (m : List Bool), m.length = 6 → (∀ q, roleB q = true → mkR m q = true → P q) → ∀ q, roleB q = true → mkR (itX l n m) q = true → P q := by
  intro n
  induction n with
  | zero => intro m _ h; exact h
  | succ n ih => intro m hm h; exact ih _ (by rw [roundX_len]; exact hm) (round_sound l P hP l (fun _ h => h) hm h)
theorem itX_mono (l : List S112) : ∀ (n : Nat) (m : List Bool), m.length = 6 → ∀ q, roleB q = true → mkR m q = true → mkR (itX l n m) q = true := by
  intro n
  induction n with
  | zero => intro m _ q _ h; exact h
  | succ n ih => intro m hm q hq h; exact ih _ (by rw [roundX_len]; exact hm) q hq (mk_mono_round l hm hq h)
def closX (l : List S112) (role : Int) : List Bool := itX l 6 ((List.replicate 6 false).set role.toNat true)
theorem mk_start {role : Int} (hr : roleB role = true) (q : Int) (hq : roleB q = true) : mkR ((List.replicate 6 false).set role.toNat true) q = decide (q = role) := by
  rw [mk_set (by simp) hr q hq]
  have : mkR (List.replicate 6 false) q = false := by
    unfold mkR
    rw [List.getD_eq_getElem?_getD, List.getElem?_replicate]
    split <;> rfl
  rw [this, Bool.or_false]
theorem closX_iff (l : List S112) {role : Int} (hr : roleB role = true) {q : Int} (hq : roleB q = true) : mkR (closX l role) q = true ↔ Rch l role q := by
  have hl : ((List.replicate 6 false).set role.toNat true).length = 6 := by simp
  constructor
  · exact itX_sound l (Rch l role) (fun a b h e => .step h e) 6 _ hl (fun q hq h => by
      rw [mk_start hr q hq, decide_eq_true_eq] at h; subst h; exact .refl) q hq
  · intro h
    have hc : roundX l (closX l role) = closX l role := itX_closed l 6 _ hl (by omega)
    have h6 : (closX l role).length = 6 := by unfold closX; rw [itX_len]; exact hl
    have key : roleB q = true ∧ mkR (closX l role) q = true := by
      clear hq
      induction h with
      | refl => exact ⟨hr, itX_mono l 6 _ hl _ hr (by rw [mk_start hr _ hr]; simp)⟩
      | step h e ih =>
        have := round_edge l h6 e ih.2
        rw [hc] at this
        obtain ⟨x, _, _, _, _, hb⟩ := e
        exact ⟨hb, this⟩
    exact key.2

theorem visX_len (a : Int) (s : List Bool × List Int) (x : S112) : (visX a s x).1.length = s.1.length := by
  unfold visX; split <;> simp
theorem popX_len (l : List S112) (a : Int) : ∀ s : List Bool × List Int, (popX l a s).1.length = s.1.length := by
  unfold popX
  induction l with
  | nil => intro s; rfl
  | cons x l ih => intro s; rw [List.foldl_cons, ih, visX_len]
theorem cnt_set_lt {m : List Bool} {r : Int} (hm : m.length = 6) (hr : roleB r = true) (h : mkR m r = false) : cntB (m.set r.toNat true) = cntB m + 1 := by
  rw [roleB_iff] at hr
  have hlt : r.toNat < m.length := by omega
  have hb : m[r.toNat] = false := by
    unfold mkR at h; rw [List.getD_eq_getElem?_getD, List.getElem?_eq_getElem hlt] at h; exact h
  have key : ∀ (m : List Bool) (i : Nat), m[i]? = some false → cntB (m.set i true) = cntB m + 1 := by
    intro m
    induction m with
    | nil => intro i h; simp at h
    | cons b m ih =>
      intro i h
      cases i with
      | zero => simp at h; subst h; simp [cntB]
      | succ i =>
        have := ih i (by simpa using h)
        simp only [List.set_cons_succ, cntB, List.countP_cons] at this ⊢
        omega
  exact key m _ (by rw [List.getElem?_eq_getElem hlt, hb])
/-- What one visit does: what is marked stays, all is told. -/
structure VisOk (l0 : List S112) (a : Int) (s t : List Bool × List Int) : Prop where
  len : t.1.length = 6
  sum : t.2.length + (6 - cntB t.1) = s.2.length + (6 - cntB s.1)
  le : cntB s.1 ≤ cntB t.1
  mono : ∀ q, roleB q = true → mkR s.1 q = true → mkR t.1 q = true
  old : ∀ q, q ∈ s.2 → q ∈ t.2
  new : ∀ q, roleB q = true → mkR t.1 q = true → mkR s.1 q = true ∨ (q ∈ t.2 ∧ edgeP l0 a q)
  newq : ∀ q, q ∈ t.2 → q ∈ s.2 ∨ edgeP l0 a q
theorem VisOk.rfl' {l0 : List S112} {a : Int} {s : List Bool × List Int} (h : s.1.length = 6) : VisOk l0 a s s := ⟨h, rfl, Nat.le_refl _, fun _ _ h => h, fun _ h => h, fun _ _ h => .inl h, fun _ h => .inl h⟩
theorem vis_ok (l0 : List S112) (a : Int) (ha : roleB a = true) (s : List Bool × List Int) (h : s.1.length = 6) (x : S112) (hx : x ∈ l0) : VisOk l0 a s (visX a s x) := by
  unfold visX
  split
  · rename_i hc
    obtain ⟨h1, h2, h3⟩ := hc
    have e : edgeP l0 a x.f1 := ⟨x, hx, h1, rfl, ha, h2⟩
    have hcn := cnt_set_lt h h2 h3
    have hle := cnt_le (s.1.set x.f1.toNat true)
    rw [List.length_set] at hle
    refine ⟨by simp [h], ?_, by rw [hcn]; omega, fun q hq hm => ?_, fun q hq => List.mem_append_left _ hq, fun q hq hm => ?_, fun q hq => ?_⟩
    · simp only [List.length_append, List.length_singleton, hcn]; omega
    · show mkR (s.1.set _ true) q = true
      rw [mk_set h h2 q hq, hm, Bool.or_true]
    · rw [show (s.1.set x.f1.toNat true, s.2 ++ [x.f1]).1 = s.1.set x.f1.toNat true from rfl, mk_set h h2 q hq, Bool.or_eq_true, decide_eq_true_eq] at hm
      rcases hm with rfl | hm
      · exact .inr ⟨by simp, e⟩
      · exact .inl hm
    · rcases List.mem_append.1 hq with hq | hq
      · exact .inl hq
      · rw [List.mem_singleton.1 hq]; exact .inr e
  · exact VisOk.rfl' h
theorem VisOk.trans {l0 : List S112} {a : Int} {s t u : List Bool × List Int} (h1 : VisOk l0 a s t) (h2 : VisOk l0 a t u) : VisOk l0 a s u :=
  ⟨h2.len, h2.sum.trans h1.sum, Nat.le_trans h1.le h2.le, fun q hq h => h2.mono q hq (h1.mono q hq h), fun q h => h2.old q (h1.old q h),
    fun q hq h => by
      rcases h2.new q hq h with h | h
      · rcases h1.new q hq h with h | ⟨h, e⟩
        · exact .inl h
        · exact .inr ⟨h2.old q h, e⟩
      · exact .inr h,
    fun q h => by
      rcases h2.newq q h with h | h
      · exact h1.newq q h
      · exact .inr h⟩
theorem pop_ok (l0 : List S112) (a : Int) (ha : roleB a = true) (l : List S112) (hl : ∀ x ∈ l, x ∈ l0) : ∀ (s : List Bool × List Int), s.1.length = 6 → VisOk l0 a s (popX l a s) ∧ ∀ x ∈ l, x.f0 = a → roleB x.f1 = true → mkR (popX l a s).1 x.f1 = true := by
  unfold popX
  induction l with
  | nil => intro s h; exact ⟨VisOk.rfl' h, by intro x hx; cases hx⟩
  | cons x l ih =>
    intro s h
    have h1 := vis_ok l0 a ha s h x (hl x List.mem_cons_self)
    obtain ⟨h2, h3⟩ := ih (fun y hy => hl y (List.mem_cons_of_mem _ hy)) (visX a s x) h1.len
    refine ⟨h1.trans h2, fun y hy e1 e2 => ?_⟩
    rw [List.foldl_cons]
    rcases List.mem_cons.1 hy with rfl | hy
    · refine h2.mono _ e2 ?_
      unfold visX
      split
      · rw [show (s.1.set y.f1.toNat true, s.2 ++ [y.f1]).1 = s.1.set y.f1.toNat true from rfl, mk_set h e2 _ e2]; simp
      · rename_i hc
        cases hmk : mkR s.1 y.f1 with
        | true => rfl
        | false => exact absurd ⟨e1, e2, hmk⟩ hc
    · exact h3 y hy e1 e2
theorem bfsX_nil (l : List S112) (role : Int) (k : Nat) (m : List Bool) (hk : 0 < k) (hm : m.length = 6) (hs : ∀ q, roleB q = true → mkR m q = true → RchP l role q) (hc : ∀ a, (a = role ∨ roleB a = true ∧ mkR m a = true) → a ∈ ([] : List Int) ∨ ∀ b, edgeP l a b → mkR m b = true) :
    ∃ r, bfsX l k [] m = some r ∧ r.length = 6 ∧ ∀ q, roleB q = true → (mkR r q = true ↔ RchP l role q) := by
  obtain ⟨k, rfl⟩ : ∃ j, k = j + 1 := ⟨k - 1, by omega⟩
  refine ⟨m, rfl, hm, fun q hq => ⟨hs q hq, ?_⟩⟩
  rintro ⟨b, e, h⟩
  have h0 : mkR m b = true := (hc role (.inl rfl)).elim (fun h => absurd h (by simp)) (fun h => h b e)
  have key : mkR m q = true := by
    clear hq
    induction h with
    | refl => exact h0
    | step h e2 ih =>
      obtain ⟨x, _, _, _, hb, _⟩ := id e2
      exact (hc _ (.inr ⟨hb, ih⟩)).elim (fun h => absurd h (by simp)) (fun h => h _ e2)
  exact key
/-- What the search says of a role: all that it comes to by one pair or more. -/
theorem bfsX_spec (l : List S112) (role : Int) (hr : roleB role = true) : ∀ (d k : Nat) (todo : List Int) (m : List Bool), m.length = 6 → todo.length + (6 - cntB m) ≤ d → d < k →
    (∀ q ∈ todo, roleB q = true ∧ Rch l role q) → (∀ q, roleB q = true → mkR m q = true → RchP l role q) → (∀ a, (a = role ∨ roleB a = true ∧ mkR m a = true) → a ∈ todo ∨ ∀ b, edgeP l a b → mkR m b = true) →
    ∃ r, bfsX l k todo m = some r ∧ r.length = 6 ∧ ∀ q, roleB q = true → (mkR r q = true ↔ RchP l role q) := by
  intro d
  induction d with
  | zero =>
    intro k todo m hm hd hk ht hs hc
    cases todo with
    | cons a rest => simp at hd
    | nil => exact bfsX_nil l role k m (by omega) hm hs hc
  | succ d ih =>
    intro k todo m hm hd hk ht hs hc
    cases todo with
    | nil => exact bfsX_nil l role k m (by omega) hm hs hc
    | cons a rest =>
      obtain ⟨k, rfl⟩ : ∃ j, k = j + 1 := ⟨k - 1, by omega⟩
      obtain ⟨ha, hra⟩ := ht a List.mem_cons_self
      obtain ⟨ok, hall⟩ := pop_ok l a ha l (fun _ h => h) (m, rest) hm
      refine ih k _ _ ok.len (by have := ok.sum; simp only [List.length_cons] at hd this ⊢; omega) (by omega) (fun q hq => ?_) (fun q hq hmq => ?_) (fun b hb => ?_)
      · rcases ok.newq q hq with h | h
        · exact ht q (List.mem_cons_of_mem _ h)
        · obtain ⟨x, _, _, _, _, hb⟩ := id h
          exact ⟨hb, .step hra h⟩
      · rcases ok.new q hq hmq with h | ⟨_, h⟩
        · exact hs q hq h
        · rcases Rch_iff.1 hra with rfl | h2
          · exact ⟨q, h, .refl⟩
          · exact h2.step h
      · have hmono : ∀ c, mkR m c = true → roleB c = true → mkR (popX l a (m, rest)).1 c = true := fun c h hcr => ok.mono c hcr h
        have edgeR : ∀ {c e : Int}, edgeP l c e → roleB e = true := fun ⟨_, _, _, _, _, h⟩ => h
        by_cases hba : b = a
        · subst hba
          right
          rintro c ⟨x, hx, e1, e2, _, hcr⟩
          subst e2
          exact hall x hx e1 hcr
        · have hold : b = role ∨ roleB b = true ∧ mkR m b = true ∨ b ∈ (popX l a (m, rest)).2 := by
            rcases hb with rfl | ⟨h1, h2⟩
            · exact .inl rfl
            · rcases ok.new b h1 h2 with h | ⟨h, _⟩
              · exact .inr (.inl ⟨h1, h⟩)
              · exact .inr (.inr h)
          rcases hold with h | h | h
          · rcases hc b (.inl h) with h3 | h3
            · rcases List.mem_cons.1 h3 with h3 | h3
              · exact absurd h3 hba
              · exact .inl (ok.old b h3)
            · exact .inr fun c e => hmono c (h3 c e) (edgeR e)
          · rcases hc b (.inr h) with h3 | h3
            · rcases List.mem_cons.1 h3 with h3 | h3
              · exact absurd h3 hba
              · exact .inl (ok.old b h3)
            · exact .inr fun c e => hmono c (h3 c e) (edgeR e)
          · exact .inl h
theorem below_spec (l : List S112) (role : Int) (hr : roleB role = true) (k : Nat) (hk : 8 ≤ k) : ∃ r, bfsX l k [role] (List.replicate 6 false) = some r ∧ r.length = 6 ∧ ∀ q, roleB q = true → (mkR r q = true ↔ RchP l role q) := by
  have h0 : ∀ q, mkR (List.replicate 6 false) q = false := by
    intro q
    unfold mkR
    rw [List.getD_eq_getElem?_getD, List.getElem?_replicate]
    split <;> rfl
  refine bfsX_spec l role hr 7 k [role] _ (by simp) (by simp; omega) (by omega) (fun q hq => ?_) (fun q _ h => ?_) (fun a ha => ?_)
  · rw [List.mem_singleton.1 hq]; exact ⟨hr, .refl⟩
  · rw [h0] at h; cases h
  · rcases ha with rfl | ⟨_, h⟩
    · exact .inl (by simp)
    · rw [h0] at h; cases h
def hasI (l : List Int) (a : Int) : Bool := l.any (fun x => decide (a = x))
def underB (a b : List Int) : Bool := !(a.any fun x => !hasI b x)
/-- The roles under a role. -/
def outV (m : List Bool) : List Int := [0, 1, 2, 3, 4, 5].filter (fun r => mkR m r)
def rolesV (l : List S112) (role : Int) : List Int := if inB role 0 5 = true then outV (closX l role) else []
def pairP (l : List S112) (x : S112) : Bool := roleB x.f0 && (roleB x.f1 && !hasI (rolesV l x.f1) x.f0)
def pairsB (l : List S112) : Bool := l.all (pairP l) && decide ((l.length : Int) ≤ 10)
theorem roleB_in (n : Int) : inB n 0 5 = roleB n := rfl
theorem has_out (m : List Bool) (r : Int) (hr : roleB r = true) : hasI (outV m) r = mkR m r := by
  have h := roleB_iff.1 hr
  unfold hasI outV
  rw [Bool.eq_iff_iff, List.any_eq_true]
  constructor
  · rintro ⟨x, hx, he⟩
    rw [of_decide_eq_true he]
    exact (List.mem_filter.1 hx).2
  · intro hm
    exact ⟨r, List.mem_filter.2 ⟨by rcases (by omega : r = 0 ∨ r = 1 ∨ r = 2 ∨ r = 3 ∨ r = 4 ∨ r = 5) with rfl | rfl | rfl | rfl | rfl | rfl <;> simp, hm⟩, decide_eq_true rfl⟩
theorem has_roles (l : List S112) (a b : Int) (ha : roleB a = true) (hb : roleB b = true) : hasI (rolesV l b) a = mkR (closX l b) a := by
  unfold rolesV
  rw [roleB_in, if_pos hb, has_out _ _ ha]
/-- No role leads to itself: told by any of its pairs alike. -/
theorem pairs_alike (l : List S112) (p : S112 → Bool) (hp : ∀ x, p x = true ↔ roleB x.f0 = true ∧ roleB x.f1 = true ∧ ¬ RchP l x.f0 x.f0) : l.all p = l.all (pairP l) := by
  have hq : ∀ x, pairP l x = true ↔ roleB x.f0 = true ∧ roleB x.f1 = true ∧ ¬ Rch l x.f1 x.f0 := by
    intro x
    unfold pairP
    simp only [Bool.and_eq_true, Bool.not_eq_true']
    constructor
    · rintro ⟨h1, h2, h3⟩
      refine ⟨h1, h2, fun h => ?_⟩
      rw [has_roles l _ _ h1 h2, (closX_iff l h2 h1).2 h] at h3
      cases h3
    · rintro ⟨h1, h2, h3⟩
      refine ⟨h1, h2, ?_⟩
      rw [has_roles l _ _ h1 h2]
      cases hm : mkR (closX l x.f1) x.f0 with
      | false => rfl
      | true => exact absurd ((closX_iff l h2 h1).1 hm) h3
  rw [Bool.eq_iff_iff, List.all_eq_true, List.all_eq_true]
  constructor
  · intro h x hx
    obtain ⟨h1, h2, h3⟩ := (hp x).1 (h x hx)
    exact (hq x).2 ⟨h1, h2, fun hr => h3 ⟨x.f1, ⟨x, hx, rfl, rfl, h1, h2⟩, hr⟩⟩
  · intro h x hx
    obtain ⟨h1, h2, _⟩ := (hq x).1 (h x hx)
    refine (hp x).2 ⟨h1, h2, ?_⟩
    rintro ⟨b, ⟨y, hy, e1, rfl, _, _⟩, hr⟩
    have := (hq y).1 (h y hy)
    rw [e1] at this
    exact this.2.2 hr
theorem roles_l2 (m : List Bool) (hm : m.length = 6) : ∀ (d : Nat) (r : Nat) (out : List Int), r + d = 6 → out.length ≤ r → Ev (fun k => spec_RolesUnder.l2 k out m (r : Int)) (out ++ (([0, 1, 2, 3, 4, 5] : List Int).drop r).filter (fun r => mkR m r)) := by
  intro d
  induction d with
  | zero =>
    intro r out hr _
    obtain rfl : r = 6 := by omega
    refine Ev.succ ?_
    simp only [spec_RolesUnder.l2]
    refine Ev.neg (by omega) ?_
    simp only [List.drop_succ_cons, List.drop_nil, List.filter_nil, List.append_nil]
    exact Ev.now _
  | succ d ih =>
    intro r out hr ho
    have hd : (([0, 1, 2, 3, 4, 5] : List Int).drop r) = (r : Int) :: (([0, 1, 2, 3, 4, 5] : List Int).drop (r + 1)) := by
      rcases (by omega : r = 0 ∨ r = 1 ∨ r = 2 ∨ r = 3 ∨ r = 4 ∨ r = 5) with rfl | rfl | rfl | rfl | rfl | rfl <;> rfl
    have e : wrap64 ((r : Int) + 1) = ((r + 1 : Nat) : Int) := wr1 (n := 6) (by omega) (by omega)
    have e2 : rdOf false m (r : Int) = mkR m (r : Int) := rfl
    rw [hd, List.filter_cons]
    refine Ev.succ ?_
    simp only [spec_RolesUnder.l2, e, e2]
    refine Ev.pos (by omega) (Ev.pos (by omega) (Ev.pos (by omega) ?_))
    cases mkR m (r : Int) with
    | false => simp only [Bool.false_eq_true, if_false]; exact ih (r + 1) out (by omega) (by omega)
    | true =>
      simp only [if_true]
      refine Ev.pos (by omega) ?_
      have := ih (r + 1) (out ++ [(r : Int)]) (by omega) (by simp; omega)
      rw [List.append_assoc] at this
      exact this
theorem roles_l0 (l : List S112) (h : l.length ≤ 1048576) : ∀ (d n : Nat) (m : List Bool), n + d = 6 → m.length = 6 → Ev (fun k => spec_RolesUnder.l0 k l [] m (n : Int)) (outV (itX l d m)) := by
  intro d
  induction d with
  | zero =>
    intro n m hn hm
    obtain rfl : n = 6 := by omega
    refine Ev.succ ?_
    simp only [spec_RolesUnder.l0]
    refine Ev.neg (by omega) ?_
    exact roles_l2 m hm 6 0 [] rfl (by simp)
  | succ d ih =>
    intro n m hn hm
    have e : wrap64 ((n : Int) + 1) = ((n + 1 : Nat) : Int) := wr1 (n := 6) (by omega) (by omega)
    refine Ev.succ ?_
    simp only [spec_RolesUnder.l0]
    refine Ev.pos (by omega) ?_
    change Ev _ ((fun s => outV (itX l d s)) (l.foldl markX m))
    refine ev_fold l markX (fun s => outV (itX l d s)) (fun _ s => s.length = 6) (fun k s i => spec_RolesUnder.l1 k l [] s (n : Int) i) ?_ ?_ ?_ m hm
    · intro s hs
      refine Ev.succ ?_
      simp only [spec_RolesUnder.l1, Int.lt_irrefl, if_false, e]
      exact ih (n + 1) s (by omega) hs
    · intro i x s _ hs; rw [markX_len]; exact hs
    · intro i x s r hx hs hr
      have hi := lt_of_get hx
      have h1 : ((i : Int) < (l.length : Int)) = True := eq_true (by omega)
      have h2 : (0 ≤ (i : Int)) = True := eq_true (by omega)
      have e3 := wr1 hi (show l.length ≤ 9223372036854775807 by omega)
      refine Ev.succ ?_
      simp only [spec_RolesUnder.l1, h1, h2, if_true, rd_at_T112 hx, spec_l1In_eq, Option.bind_some, roleB_in, e3]
      unfold markX at hr
      cases h5 : roleB x.f0 with
      | false =>
        simp only [Bool.false_eq_true, if_false]
        simp only [h5, Bool.false_and, Bool.false_eq_true, if_false] at hr
        exact hr
      | true =>
        cases h6 : roleB x.f1 with
        | false =>
          simp only [Bool.false_eq_true, if_false, if_true]
          simp only [h5, h6, Bool.false_and, Bool.and_false, Bool.false_eq_true, if_false] at hr
          exact hr
        | true =>
          have h7 := roleB_iff.1 h5
          simp only [if_true]
          simp only [h5, h6, Bool.true_and] at hr
          refine Ev.pos (by omega) (Ev.pos (by omega) ?_)
          have h8 := roleB_iff.1 h6
          have hk : rdOf false s x.f0 = mkR s x.f0 := rfl
          rw [hk]
          cases h9 : mkR s x.f0 with
          | false => simp only [h9, Bool.false_eq_true, if_false] at hr ⊢; exact hr
          | true =>
            simp only [h9, if_true] at hr ⊢
            exact Ev.pos (by omega) (Ev.pos (by omega) hr)
theorem spec_RolesUnder_ev (l : List S112) (role : Int) (h : l.length ≤ 1048576) : Ev (fun k => spec_RolesUnder.f k l role) (rolesV l role) := by
  unfold spec_RolesUnder.f rolesV
  simp only [Option.bind_some, spec_l1In_eq]
  cases hr : inB role 0 5 with
  | false => simp only [Bool.false_eq_true, if_false]; exact Ev.now _
  | true =>
    have h2 := inB_iff.1 hr
    simp only [if_true]
    refine Ev.pos (by omega) (Ev.pos (by simp only [List.length_replicate]; omega) ?_)
    exact roles_l0 l h 6 0 _ rfl (by simp)

-- spec_RolesOf
def bestP (a b t g : Int) (x : S83) : Bool := decide (x.f0 = a) && (decide (x.f1 = b) && holdsB x t g)
def bestV (a b t g : Int) : List S83 → Int → Int
  | [], m => m
  | x :: l, m => bestV a b t g l (if bestP a b t g x = true then (if m < x.f2 then x.f2 else m) else m)
/-- What a person's facts of the kind role give. -/
def givesP (p t g : Int) (x : S83) : Bool := decide (x.f0 = 1) && (decide (x.f1 = p) && holdsB x t g)
def hasRB (l : List S112) (s : List S83) (p r t g : Int) : Bool := s.any fun x => givesP p t g x && hasI (rolesV l x.f2) r
theorem rolesV_len (l : List S112) (r : Int) : (rolesV l r).length ≤ 6 := by
  unfold rolesV
  split
  · unfold outV
    exact Nat.le_trans (List.length_filter_le _ _) (by simp)
  · simp
theorem rolesV_role (l : List S112) (r : Int) : ∀ q ∈ rolesV l r, roleB q = true := by
  intro q hq
  unfold rolesV at hq
  split at hq
  · unfold outV at hq
    have := (List.mem_filter.1 hq).1
    rw [roleB_iff]
    simp at this
    omega
  · simp at hq
theorem any_hasI (l : List Int) (r : Int) : hasI l r = true ↔ r ∈ l := by
  unfold hasI
  rw [List.any_eq_true]
  constructor
  · rintro ⟨x, hx, e⟩; rw [decide_eq_true_eq] at e; rw [e]; exact hx
  · intro h; exact ⟨r, h, by simp⟩
theorem rolesOf_l2 (m : List Bool) (hm : m.length = 6) : ∀ (d : Nat) (r : Nat) (out : List Int), r + d = 6 → out.length ≤ r → Ev (fun k => spec_RolesOf.l2 k m out (r : Int)) (out ++ (([0, 1, 2, 3, 4, 5] : List Int).drop r).filter (fun r => mkR m r)) := by
  intro d
  induction d with
  | zero =>
    intro r out hr _
    obtain rfl : r = 6 := by omega
    refine Ev.succ ?_
    simp only [spec_RolesOf.l2]
    refine Ev.neg (by omega) ?_
    simp only [List.drop_succ_cons, List.drop_nil, List.filter_nil, List.append_nil]
    exact Ev.now _
  | succ d ih =>
    intro r out hr ho
    have hd : (([0, 1, 2, 3, 4, 5] : List Int).drop r) = (r : Int) :: (([0, 1, 2, 3, 4, 5] : List Int).drop (r + 1)) := by
      rcases (by omega : r = 0 ∨ r = 1 ∨ r = 2 ∨ r = 3 ∨ r = 4 ∨ r = 5) with rfl | rfl | rfl | rfl | rfl | rfl <;> rfl
    have e : wrap64 ((r : Int) + 1) = ((r + 1 : Nat) : Int) := wr1 (n := 6) (by omega) (by omega)
    have e2 : rdOf false m (r : Int) = mkR m (r : Int) := rfl
    rw [hd, List.filter_cons]
    refine Ev.succ ?_
    simp only [spec_RolesOf.l2, e, e2]
    refine Ev.pos (by omega) (Ev.pos (by omega) (Ev.pos (by omega) ?_))
    cases mkR m (r : Int) with
    | false => simp only [Bool.false_eq_true, if_false]; exact ih (r + 1) out (by omega) (by omega)
    | true =>
      simp only [if_true]
      refine Ev.pos (by omega) ?_
      have := ih (r + 1) (out ++ [(r : Int)]) (by omega) (by simp; omega)
      rw [List.append_assoc] at this
      exact this
def setAll (m : List Bool) (u : List Int) : List Bool := u.foldl (fun m r => m.set r.toNat true) m
theorem setAll_len (u : List Int) : ∀ m : List Bool, (setAll m u).length = m.length := by
  induction u with
  | nil => intro m; rfl
  | cons r u ih => intro m; unfold setAll at *; rw [List.foldl_cons, ih, List.length_set]
theorem setAll_mk (u : List Int) : ∀ (m : List Bool), m.length = 6 → (∀ q ∈ u, roleB q = true) → ∀ q, roleB q = true → mkR (setAll m u) q = (mkR m q || hasI u q) := by
  induction u with
  | nil => intro m _ _ q _; simp [setAll, hasI]
  | cons r u ih =>
    intro m hm hu q hq
    have h1 := ih (m.set r.toNat true) (by rw [List.length_set]; exact hm) (fun y hy => hu y (List.mem_cons_of_mem _ hy)) q hq
    unfold setAll at h1 ⊢
    rw [List.foldl_cons, h1, mk_set hm (hu r List.mem_cons_self) q hq]
    unfold hasI
    rw [List.any_cons]
    cases mkR m q <;> cases decide (q = r) <;> simp
/-- The marks behind all facts. -/
def marksV (l : List S112) (p t g : Int) : List S83 → List Bool → List Bool
  | [], m => m
  | x :: s, m => marksV l p t g s (if givesP p t g x = true then setAll m (rolesV l x.f2) else m)
theorem marksV_len (l : List S112) (p t g : Int) : ∀ (s : List S83) (m : List Bool), (marksV l p t g s m).length = m.length
  | [], _ => rfl
  | x :: s, m => by
    rw [marksV, marksV_len l p t g s]
    split
    · exact setAll_len _ _
    · rfl
theorem marksV_mk (l : List S112) (p t g : Int) (q : Int) (hq : roleB q = true) : ∀ (s : List S83) (m : List Bool), m.length = 6 → mkR (marksV l p t g s m) q = (mkR m q || hasRB l s p q t g)
  | [], m, _ => by simp [marksV, hasRB]
  | x :: s, m, hm => by
    rw [marksV, marksV_mk l p t g q hq s _ (by split <;> simp [setAll_len, hm])]
    unfold hasRB
    rw [List.any_cons]
    cases givesP p t g x with
    | false => simp
    | true =>
      simp only [if_true, Bool.true_and]
      rw [setAll_mk _ m hm (rolesV_role l x.f2) q hq, Bool.or_assoc]
theorem hasRB_role (l : List S112) (s : List S83) (p r t g : Int) (h : roleB r = false) : hasRB l s p r t g = false := by
  unfold hasRB
  rw [List.any_eq_false]
  intro x _
  have : hasI (rolesV l x.f2) r = false := by
    rw [Bool.eq_false_iff]
    intro hc
    have := rolesV_role l x.f2 r ((any_hasI _ _).1 hc)
    rw [h] at this; cases this
  simp [this]
theorem spec_RolesOf_ev (l : List S112) (s : List S83) (p t g : Int) (hl : l.length ≤ 1048576) (h : s.length ≤ 1048576) : ∃ v, Ev (fun k => spec_RolesOf.f k l s p t g) v ∧ v.length ≤ 6 ∧ ∀ r, hasI v r = hasRB l s p r t g := by
  have under : ∀ (u : List Int) (hu : ∀ q ∈ u, roleB q = true) (hn : u.length ≤ 6) (i : Nat) (r : List Int) (d j : Nat) (m : List Bool), m.length = 6 → u.length - j = d → j ≤ u.length → Ev (fun k => spec_RolesOf.l0 k l s p t g (setAll m (u.drop j)) (wrap64 ((i : Int) + 1))) r → Ev (fun k => spec_RolesOf.l1 k l s p t g m (i : Int) u (j : Int)) r := by
    intro u hu hn i r d
    induction d with
    | zero =>
      intro j m hm hd hj hr
      obtain rfl : j = u.length := by omega
      rw [List.drop_length] at hr
      refine Ev.succ ?_
      simp only [spec_RolesOf.l1, Int.lt_irrefl, if_false]
      exact hr
    | succ d ih =>
      intro j m hm hd hj hr
      have hj' : j < u.length := by omega
      obtain ⟨y, hy⟩ := getAt (l := u) (i := j) hj'
      have hb := roleB_iff.1 (hu y (List.mem_of_getElem? hy))
      have ry := rd_nat _ _ _ hy
      have hd2 : u.drop j = y :: u.drop (j + 1) := by
        rw [List.drop_eq_getElem_cons hj']
        rw [List.getElem?_eq_getElem hj'] at hy
        rw [Option.some.inj hy]
      have hr2 := ih (j + 1) (m.set y.toNat true) (by rw [List.length_set]; exact hm) (by omega) (by omega) (by rw [hd2] at hr; exact hr)
      have k1 : ((j : Int) < (u.length : Int)) = True := eq_true (by omega)
      have k2 : (0 ≤ (j : Int)) = True := eq_true (by omega)
      have k3 : (0 ≤ y) = True := eq_true (by omega)
      have k4 : (y < (m.length : Int)) = True := eq_true (by omega)
      have w := wr1 hj' (show u.length ≤ 9223372036854775807 by omega)
      refine Ev.succ ?_
      simp only [spec_RolesOf.l1, k1, k2, k3, k4, if_true, ry, w]
      exact hr2
  have key : ∀ (d i : Nat) (m : List Bool), m.length = 6 → s.length - i = d → i ≤ s.length → Ev (fun k => spec_RolesOf.l0 k l s p t g m (i : Int)) (outV (marksV l p t g (s.drop i) m)) := by
    intro d
    induction d with
    | zero =>
      intro i m hm hd hi
      obtain rfl : i = s.length := by omega
      refine Ev.succ ?_
      simp only [spec_RolesOf.l0, Int.lt_irrefl, if_false, List.drop_length, marksV]
      exact rolesOf_l2 m hm 6 0 [] rfl (by simp)
    | succ d ih =>
      intro i m hm hd hi
      have hi' : i < s.length := by omega
      have hx : s[i]? = some s[i] := List.getElem?_eq_getElem hi'
      rw [List.drop_eq_getElem_cons hi', marksV]
      generalize s[i] = x at hx ⊢
      have h1 : ((i : Int) < (s.length : Int)) = True := eq_true (by omega)
      have h2 : (0 ≤ (i : Int)) = True := eq_true (by omega)
      have hl6 := rolesV_len l x.f2
      have hno := ih (i + 1) m hm (by omega) (by omega)
      have hyes := ih (i + 1) (setAll m (rolesV l x.f2)) (by rw [setAll_len]; exact hm) (by omega) (by omega)
      have h3 := wr1 hi' (show s.length ≤ 9223372036854775807 by omega)
      have jno : givesP p t g x = false → Ev (fun k => spec_RolesOf.l0 k l s p t g m ((i + 1 : Nat) : Int)) (outV (marksV l p t g (s.drop (i + 1)) (if givesP p t g x = true then setAll m (rolesV l x.f2) else m))) := by
        intro e
        simp only [e, Bool.false_eq_true, if_false]
        exact hno
      refine Ev.succ ?_
      simp only [spec_RolesOf.l0, h1, h2, if_true, rd_at_T83 hx, spec_HoldsAt_eq, Option.bind_some, h3]
      by_cases c0 : x.f0 = 1
      · by_cases c1 : x.f1 = p
        · cases c2 : holdsB x t g with
          | false => simp only [if_pos c0, if_pos c1, Bool.false_eq_true, if_false]; exact jno (by simp [givesP, c2])
          | true =>
            have e : givesP p t g x = true := by simp [givesP, c0, c1, c2]
            simp only [if_pos c0, if_pos c1, if_true, e]
            refine Ev.bind (spec_RolesUnder_ev l x.f2 hl) ?_
            exact under _ (rolesV_role l x.f2) hl6 i _ _ 0 m hm rfl (by omega) (by rw [List.drop_zero, h3]; exact hyes)
        · simp only [if_pos c0, if_neg c1]; exact jno (by simp [givesP, c1])
      · simp only [if_neg c0]; exact jno (by simp [givesP, c0])
  have hk := key s.length 0 (List.replicate 6 false) (by simp) (by omega) (by omega)
  rw [List.drop_zero] at hk
  have hml : (marksV l p t g s (List.replicate 6 false)).length = 6 := by rw [marksV_len]; simp
  refine ⟨outV (marksV l p t g s (List.replicate 6 false)), ?_, ?_, fun r => ?_⟩
  · unfold spec_RolesOf.f
    exact hk
  · exact Nat.le_trans (List.length_filter_le _ _) (by simp)
  · cases c : roleB r with
    | true =>
      rw [has_out _ r c, marksV_mk l p t g r c s _ (by simp)]
      have : mkR (List.replicate 6 false) r = false := by
        have := roleB_iff.1 c
        rcases (by omega : r = 0 ∨ r = 1 ∨ r = 2 ∨ r = 3 ∨ r = 4 ∨ r = 5) with rfl | rfl | rfl | rfl | rfl | rfl <;> rfl
      rw [this, Bool.false_or]
    | false =>
      rw [hasRB_role l s p r t g c, Bool.eq_false_iff]
      intro hc
      have h1 := (any_hasI _ _).1 hc
      unfold outV at h1
      have h2 := (List.mem_filter.1 h1).1
      rw [Bool.eq_false_iff] at c
      apply c
      rw [roleB_iff]
      simp at h2
      omega

-- spec_l13Has
theorem spec_l13Has_ev (l : List Int) (a : Int) (h : l.length ≤ 1048576) : Ev (fun k => spec_l13Has.f k l a) (hasI l a) := by
  unfold spec_l13Has.f hasI
  rw [← idxV_any]
  refine ev_idx l (fun x => decide (a = x)) (fun r => decide (r ≥ 0)) (fun k i => spec_l13Has.l0 k l a i) ?_ ?_
  · refine Ev.succ ?_
    simp only [spec_l13Has.l0, Int.lt_irrefl, if_false]
    exact Ev.now _
  · intro i x hx
    have hi := lt_of_get hx
    have h1 : ((i : Int) < (l.length : Int)) = True := eq_true (by omega)
    have h2 : (0 ≤ (i : Int)) = True := eq_true (by omega)
    constructor
    · intro c r hr
      have c' : ¬ x = a := fun e => of_decide_eq_false c e.symm
      refine Ev.succ ?_
      simp only [spec_l13Has.l0, h1, h2, if_true, rd_nat l i x hx, wr1 hi (by omega), if_neg c']
      exact hr
    · intro c
      have c' : x = a := (of_decide_eq_true c).symm
      refine Ev.succ ?_
      simp only [spec_l13Has.l0, h1, h2, if_true, rd_nat l i x hx, if_pos c', show decide ((i : Int) ≥ 0) = true from decide_eq_true (by omega)]
      exact Ev.now _

-- spec_HasRole
theorem spec_HasRole_ev (l : List S112) (s : List S83) (p r t g : Int) (hl : l.length ≤ 1048576) (h : s.length ≤ 1048576) : Ev (fun k => spec_HasRole.f k l s p r t g) (hasRB l s p r t g) := by
  obtain ⟨v, hE, hv, hh⟩ := spec_RolesOf_ev l s p t g hl h
  unfold spec_HasRole.f
  refine Ev.bind hE ?_
  rw [← hh r]
  exact Ev.bid (spec_l13Has_ev v r (by omega))

-- spec_FindFact
def findP (a b c t g : Int) (x : S83) : Bool := decide (x.f0 = a) && (decide (x.f1 = b) && (decide (x.f2 = c) && holdsB x t g))
theorem spec_FindFact_ev (l : List S83) (a b c t g : Int) (h : l.length ≤ 1048576) : Ev (fun k => spec_FindFact.f k l a b c t g) (idxV (findP a b c t g) l 0) := by
  unfold spec_FindFact.f
  refine ev_idx l (findP a b c t g) id (fun k i => spec_FindFact.l0 k l a b c t g i) ?_ ?_
  · refine Ev.succ ?_
    simp only [spec_FindFact.l0, Int.lt_irrefl, if_false]
    exact Ev.now _
  · intro i x hx
    have hi := lt_of_get hx
    have h1 : ((i : Int) < (l.length : Int)) = True := eq_true (by omega)
    have h2 : (0 ≤ (i : Int)) = True := eq_true (by omega)
    have h3 := wr1 hi (show l.length ≤ 9223372036854775807 by omega)
    refine ⟨fun hp r hr => ?_, fun hp => ?_⟩
    · refine Ev.succ ?_
      simp only [spec_FindFact.l0, h1, h2, if_true, rd_at_T83 hx, h3, spec_HoldsAt_eq, Option.bind_some]
      unfold findP at hp
      by_cases c0 : x.f0 = a
      · by_cases c1 : x.f1 = b
        · by_cases c2 : x.f2 = c
          · have hq : holdsB x t g = false := by simpa [c0, c1, c2] using hp
            simp only [if_pos c0, if_pos c1, if_pos c2, hq, Bool.false_eq_true, if_false]; exact hr
          · simp only [if_pos c0, if_pos c1, if_neg c2]; exact hr
        · simp only [if_pos c0, if_neg c1]; exact hr
      · simp only [if_neg c0]; exact hr
    · refine Ev.succ ?_
      simp only [findP, Bool.and_eq_true, decide_eq_true_eq] at hp
      simp only [spec_FindFact.l0, h1, h2, if_true, rd_at_T83 hx, spec_HoldsAt_eq, Option.bind_some, if_pos hp.1, if_pos hp.2.1, if_pos hp.2.2.1, hp.2.2.2]
      exact Ev.now _

-- spec_Max
theorem spec_Max_eq (a b : Int) : spec_Max.f a b = some (if b > a then b else a) := by
  unfold spec_Max.f; split <;> rfl

-- spec_BestValue
theorem spec_BestValue_ev (l : List S83) (a b t g : Int) (h : l.length ≤ 1048576) : Ev (fun k => spec_BestValue.f k l a b t g) (bestV a b t g l (-1)) := by
  have key : ∀ (d i : Nat) (m : Int), l.length - i = d → i ≤ l.length → Ev (fun k => spec_BestValue.l0 k l a b t g m (i : Int)) (bestV a b t g (l.drop i) m) := by
    intro d
    induction d with
    | zero =>
      intro i m hd hi
      obtain rfl : i = l.length := by omega
      refine Ev.succ ?_
      simp only [spec_BestValue.l0, Int.lt_irrefl, if_false, List.drop_length, bestV]
      exact Ev.now _
    | succ d ih =>
      intro i m hd hi
      have hi' : i < l.length := by omega
      have hx : l[i]? = some l[i] := List.getElem?_eq_getElem hi'
      rw [List.drop_eq_getElem_cons hi', bestV]
      generalize l[i] = x at hx ⊢
      have h1 : ((i : Int) < (l.length : Int)) = True := eq_true (by omega)
      have h2 : (0 ≤ (i : Int)) = True := eq_true (by omega)
      have hr := fun m => ih (i + 1) m (by omega) (by omega)
      have h3 := wr1 hi' (show l.length ≤ 9223372036854775807 by omega)
      refine Ev.succ ?_
      simp only [spec_BestValue.l0, h1, h2, if_true, rd_at_T83 hx, h3, spec_HoldsAt_eq, spec_Max_eq, Option.bind_some]
      by_cases c0 : x.f0 = a
      · by_cases c1 : x.f1 = b
        · cases c2 : holdsB x t g with
          | false =>
            have e : bestP a b t g x = false := by simp [bestP, c2]
            simp only [if_pos c0, if_pos c1, e, Bool.false_eq_true, if_false]; exact hr m
          | true =>
            have e : bestP a b t g x = true := by simp [bestP, c0, c1, c2]
            simp only [if_pos c0, if_pos c1, e, if_true]; exact hr _
        · have e : bestP a b t g x = false := by simp [bestP, c1]
          simp only [if_pos c0, if_neg c1, e, Bool.false_eq_true, if_false]; exact hr m
      · have e : bestP a b t g x = false := by simp [bestP, c0]
        simp only [if_neg c0, e, Bool.false_eq_true, if_false]; exact hr m
  unfold spec_BestValue.f
  exact Ev.eqv (by rw [List.drop_zero]) (key l.length 0 (-1) (by omega) (by omega))

-- spec_LeafHolds
def leafB (l : List S112) (s : List S83) (q : S56) (o a g : Int) : Bool := if o = 1 then true else if o = 2 then hasRB l s q.f0 a q.f5 g else if o = 3 then decide (idxV (findP 2 q.f0 q.f1 q.f5 g) s 0 ≥ 0) else if o = 4 then decide (bestV 3 q.f1 q.f5 g s (-1) ≥ a) else if o = 5 then decide (bestV 4 q.f2 q.f5 g s (-1) ≥ a) else if o = 6 then decide (q.f5 ≤ a) else false
theorem idxV_ge {α : Type} (p : α → Bool) : ∀ (l : List α) (i : Int), 0 ≤ i → (idxV p l i = -1 ∨ 0 ≤ idxV p l i)
  | [], _, _ => .inl rfl
  | x :: xs, i, h => by
    rw [idxV]
    split
    · exact .inr h
    · exact idxV_ge p xs (i + 1) (by omega)
theorem idxV_ne {α : Type} (p : α → Bool) (l : List α) : (!decide (idxV p l 0 = -1)) = decide (idxV p l 0 ≥ 0) := by
  rcases idxV_ge p l 0 (by omega) with h | h
  · rw [h]; rfl
  · rw [decide_eq_true h]; simp; omega
theorem spec_LeafHolds_ev (l : List S112) (s : List S83) (q : S56) (o a g : Int) (u : List S108) (hl : l.length ≤ 1048576) (h : s.length ≤ 1048576) : Ev (fun k => spec_LeafHolds.f k l s o a g u q.f0 q.f1 q.f2 q.f3 q.f4 q.f5) (leafB l s q o a g) := by
  unfold spec_LeafHolds.f leafB
  by_cases c1 : o = 1
  · simp only [if_pos c1]; exact Ev.now _
  by_cases c2 : o = 2
  · simp only [if_neg c1, if_pos c2]; exact Ev.bid (spec_HasRole_ev l s q.f0 a q.f5 g hl h)
  by_cases c3 : o = 3
  · simp only [if_neg c1, if_neg c2, if_pos c3]
    · refine Ev.bind (spec_FindFact_ev s 2 q.f0 q.f1 q.f5 g h) ?_
      exact Ev.now _
  by_cases c4 : o = 4
  · simp only [if_neg c1, if_neg c2, if_neg c3, if_pos c4]
    exact Ev.bind (spec_BestValue_ev s 3 q.f1 q.f5 g h) (Ev.now _)
  by_cases c5 : o = 5
  · simp only [if_neg c1, if_neg c2, if_neg c3, if_neg c4, if_pos c5]
    exact Ev.bind (spec_BestValue_ev s 4 q.f2 q.f5 g h) (Ev.now _)
  by_cases c6 : o = 6
  · simp only [if_neg c1, if_neg c2, if_neg c3, if_neg c4, if_neg c5, if_pos c6]; exact Ev.now _
  · simp only [if_neg c1, if_neg c2, if_neg c3, if_neg c4, if_neg c5, if_neg c6]; exact Ev.now _

-- spec_l18Eval
mutual
/-- What a condition in order comes to, by what its leaves come to. -/
def evC (lf : Int → Int → Int → Bool) : S108 → Bool
  | ⟨a, b, c, l⟩ => if a = 7 then !(evL lf l).getD 0 false else if a = 8 then (evL lf l).getD 0 false && (evL lf l).getD 1 false else if a = 9 then (evL lf l).getD 0 false || (evL lf l).getD 1 false else lf a b c
def evL (lf : Int → Int → Int → Bool) : List S108 → List Bool
  | [] => []
  | x :: l => evC lf x :: evL lf l
end
theorem evL_eq (lf : Int → Int → Int → Bool) : ∀ l : List S108, evL lf l = l.map (evC lf)
  | [] => by simp [evL]
  | x :: l => by simp [evL, evL_eq lf l]
theorem evC_f (lf : Int → Int → Int → Bool) (x : S108) : evC lf x = if x.f0 = 7 then !(x.f3.map (evC lf)).getD 0 false else if x.f0 = 8 then (x.f3.map (evC lf)).getD 0 false && (x.f3.map (evC lf)).getD 1 false else if x.f0 = 9 then (x.f3.map (evC lf)).getD 0 false || (x.f3.map (evC lf)).getD 1 false else lf x.f0 x.f1 x.f2 := by
  cases x
  simp only [evC, evL_eq]
theorem node_args {a b c : Int} {l : List S108} (h : spec_l15Node.f a b c l = some true) : (a = 7 → (l.length : Int) = 1) ∧ (a = 8 ∨ a = 9 → (l.length : Int) = 2) := by
  have ha : ∀ m, spec_ArityOf.f a = some m → (l.length : Int) = m := by
    intro m hm
    refine Classical.byContradiction fun hc => ?_
    revert h
    unfold spec_l15Node.f
    simp only [spec_l1In_eq, spec_IsTime_eq, hm, Option.bind_some, if_neg hc]
    (repeat' split) <;> simp_all
  refine ⟨?_, ?_⟩
  · rintro rfl; exact ha 1 rfl
  · rintro (rfl | rfl)
    · exact ha 2 rfl
    · exact ha 2 rfl
theorem getD_map {f : S108 → Bool} {l : List S108} {i : Nat} {y : S108} (h : l[i]? = some y) : (l.map f).getD i false = f y := by
  rw [List.getD_eq_getElem?_getD, List.getElem?_map, h]; rfl
/-- The parts of a condition in order that are asked for are there. -/
theorem vld_parts {x : S108} (hv : vldC x = true) : (x.f0 = 7 ∨ x.f0 = 8 ∨ x.f0 = 9 → ∃ y, x.f3[0]? = some y ∧ rd_T108 x.f3 0 = y ∧ (0 < (x.f3.length : Int)) = True ∧ vldC y = true ∧ n108 y < n108 x) ∧ (x.f0 = 8 ∨ x.f0 = 9 → ∃ y, x.f3[1]? = some y ∧ rd_T108 x.f3 1 = y ∧ (1 < (x.f3.length : Int)) = True ∧ vldC y = true ∧ n108 y < n108 x) := by
  rw [vldC_f, Bool.and_eq_true] at hv
  obtain ⟨t, ht⟩ := node_some x.f0 x.f1 x.f2 x.f3
  rw [ht, Option.getD_some] at hv
  obtain ⟨rfl, hc⟩ := hv
  have hargs := node_args ht
  have child : ∀ (i : Nat) (y : S108), x.f3[i]? = some y → vldC y = true ∧ n108 y < n108 x := fun i y hy => by
    have hn := le_sum n108 hy
    have hp := lt_of_get hy
    exact ⟨List.all_eq_true.1 hc y (List.mem_of_getElem? hy), by rw [n108_f x]; omega⟩
  constructor
  · intro h
    have : 1 ≤ x.f3.length := by
      rcases h with h | h | h
      · have := hargs.1 h; omega
      · have := hargs.2 (.inl h); omega
      · have := hargs.2 (.inr h); omega
    obtain ⟨y, hy⟩ := getAt (l := x.f3) (i := 0) (by omega)
    exact ⟨y, hy, rd_at_T108 hy, eq_true (by omega), child 0 y hy⟩
  · intro h
    have := hargs.2 h
    obtain ⟨y, hy⟩ := getAt (l := x.f3) (i := 1) (by omega)
    exact ⟨y, hy, rd_at_T108 hy, eq_true (by omega), child 1 y hy⟩
def evalB (l : List S112) (s : List S83) (q : S56) (x : S108) : Bool := condB x && evC (leafB l s q) x
theorem spec_l18Eval_ev (l : List S112) (s : List S83) (q : S56) (hl : l.length ≤ 1048576) (hs : s.length ≤ 1048576) (N : Nat) : ∀ x : S108, n108 x ≤ N → vldC x = true → Ev (fun k => spec_l18Eval.f k l s x.f0 x.f1 x.f2 x.f3 q.f0 q.f1 q.f2 q.f3 q.f4 q.f5) (evC (leafB l s q) x) := by
  induction N using Nat.strongRecOn with
  | _ N ih =>
  intro x hx hv
  obtain ⟨two, three⟩ := vld_parts hv
  rw [evC_f]
  refine Ev.succ ?_
  by_cases c7 : x.f0 = 7
  · obtain ⟨y, hy, ry, p0, hvy, hn⟩ := two (.inl c7)
    simp only [spec_l18Eval.f, if_pos c7, p0, if_true, ry]
    refine Ev.bind (ih _ (by omega) y (Nat.le_refl _) hvy) ?_
    rw [getD_map hy]
    exact Ev.now _
  by_cases c8 : x.f0 = 8
  · obtain ⟨y, hy, ry, p0, hvy, hn⟩ := two (.inr (.inl c8))
    obtain ⟨z, hz, rz, p1, hvz, hn2⟩ := three (.inl c8)
    simp only [spec_l18Eval.f, if_neg c7, if_pos c8, p0, p1, if_true, ry, rz]
    rw [getD_map hy, getD_map hz]
    refine Ev.bind (ih _ (by omega) y (Nat.le_refl _) hvy) ?_
    cases evC (leafB l s q) y with
    | false => exact Ev.now _
    | true => simp only [if_true, Bool.true_and]; exact Ev.bid (ih _ (by omega) z (Nat.le_refl _) hvz)
  by_cases c9 : x.f0 = 9
  · obtain ⟨y, hy, ry, p0, hvy, hn⟩ := two (.inr (.inr c9))
    obtain ⟨z, hz, rz, p1, hvz, hn2⟩ := three (.inr c9)
    simp only [spec_l18Eval.f, if_neg c7, if_neg c8, if_pos c9, p0, p1, if_true, ry, rz]
    rw [getD_map hy, getD_map hz]
    refine Ev.bind (ih _ (by omega) y (Nat.le_refl _) hvy) ?_
    cases evC (leafB l s q) y with
    | true => exact Ev.now _
    | false => simp only [Bool.false_eq_true, if_false, Bool.false_or]; exact Ev.bid (ih _ (by omega) z (Nat.le_refl _) hvz)
  simp only [spec_l18Eval.f, if_neg c7, if_neg c8, if_neg c9]
  exact Ev.bid ((spec_LeafHolds_ev l s q x.f0 x.f1 x.f2 x.f3 hl hs))

-- spec_EvalCond
theorem spec_EvalCond_ev (l : List S112) (s : List S83) (q : S56) (x : S108) (hl : l.length ≤ 1048576) (hs : s.length ≤ 1048576) (hx : n108 x ≤ 1048576) : Ev (fun k => spec_EvalCond.f k l s x.f0 x.f1 x.f2 x.f3 q.f0 q.f1 q.f2 q.f3 q.f4 q.f5) (evalB l s q x) := by
  unfold spec_EvalCond.f evalB
  refine Ev.bind (spec_IsCond_ev x hx) ?_
  cases c : condB x with
  | false => exact Ev.now _
  | true =>
    have hv : vldC x = true := by
      unfold condB at c
      rw [Bool.and_eq_true] at c
      exact c.2
    exact Ev.pos rfl (Ev.bid (spec_l18Eval_ev l s q hl hs _ x (Nat.le_refl _) hv))

-- spec_RulesThatHold
def polB (v : Int) (P : List S110) : Bool := policyB ⟨v, P⟩
/-- The rules' sizes, in all. -/
def nPol (P : List S110) : Nat := P.length + (P.map n110).sum
def thatV (p : S110 → Bool) : List S110 → Int → List Int
  | [], _ => []
  | x :: P, i => if p x = true then i :: thatV p P (i + 1) else thatV p P (i + 1)
theorem thatV_len (p : S110 → Bool) : ∀ (P : List S110) (i : Int), (thatV p P i).length ≤ P.length
  | [], _ => by simp [thatV]
  | x :: P, i => by
    have := thatV_len p P (i + 1)
    rw [thatV, List.length_cons]
    split
    · rw [List.length_cons]; omega
    · omega
theorem thatV_in (p : S110 → Bool) : ∀ (P : List S110) (i : Int), ∀ y ∈ thatV p P i, i ≤ y ∧ y < i + (P.length : Int)
  | [], _ => by simp [thatV]
  | x :: P, i => by
    have ih := thatV_in p P (i + 1)
    intro y hy
    rw [List.length_cons]
    rw [thatV] at hy
    split at hy
    · rcases List.mem_cons.1 hy with rfl | hy
      · omega
      · have := ih y hy; omega
    · have := ih y hy; omega
def rhoB (l : List S112) (s : List S83) (q : S56) (x : S110) : Bool := forB x q.f3 q.f4 && evalB l s q x.f3
/-- What is decided, by the effects of the rules that hold. -/
def decE : List Int → Int → Int
  | [], a => a
  | e :: r, a => if e = 0 then 0 else if e = 1 then decE r 1 else decE r a
def decV (l : List S112) (s : List S83) (v : Int) (P : List S110) (q : S56) : Int := if reqB q.f0 q.f1 q.f2 q.f3 q.f4 q.f5 = true then if polB v P = true then decE ((thatV (rhoB l s q) P 0).map fun i => (rd_T110 P i).f0) 0 else 0 else 0
theorem decE_all : ∀ (es : List Int) (a : Int), (∀ e ∈ es, e = 0 ∨ e = 1) → decE es a = if es.any (fun e => decide (e = 0)) = true then 0 else if es.length = 0 then a else 1
  | [], a, _ => by simp [decE]
  | e :: r, a, h => by
    have hr := fun b => decE_all r b (fun x hx => h x (List.mem_cons_of_mem _ hx))
    rcases h e List.mem_cons_self with rfl | rfl
    · simp [decE]
    · have e1 : decE (1 :: r) a = decE r 1 := by simp [decE]
      rw [e1, hr, List.any_cons]
      by_cases hz : r.any (fun e => decide (e = 0)) = true
      · simp [hz]
      · simp [hz]
theorem spec_RulesThatHold_ev (l : List S112) (s : List S83) (q : S56) (n0 : Int) (P : List S110) (hl : l.length ≤ 1048576) (hs : s.length ≤ 1048576) (hP : nPol P ≤ 1048576) : Ev (fun k => spec_RulesThatHold.f k l s n0 P q.f0 q.f1 q.f2 q.f3 q.f4 q.f5) (thatV (rhoB l s q) P 0) := by
  unfold nPol at hP
  have key : ∀ (d i : Nat) (out : List Int), P.length - i = d → i ≤ P.length → out.length ≤ i → Ev (fun k => spec_RulesThatHold.l0 k l s n0 P q.f0 q.f1 q.f2 q.f3 q.f4 q.f5 out (i : Int)) (out ++ thatV (rhoB l s q) (P.drop i) (i : Int)) := by
    intro d
    induction d with
    | zero =>
      intro i out hd hi ho
      obtain rfl : i = P.length := by omega
      refine Ev.succ ?_
      simp only [spec_RulesThatHold.l0, Int.lt_irrefl, if_false, List.drop_length, thatV, List.append_nil]
      exact Ev.now _
    | succ d ih =>
      intro i out hd hi ho
      have hi' : i < P.length := by omega
      have hx : P[i]? = some P[i] := List.getElem?_eq_getElem hi'
      rw [List.drop_eq_getElem_cons hi', thatV]
      generalize P[i] = x at hx ⊢
      have hn := le_sum n110 hx
      have hn2 := rule_n x
      have h1 : ((i : Int) < (P.length : Int)) = True := eq_true (by omega)
      have h2 : (0 ≤ (i : Int)) = True := eq_true (by omega)
      have e1 := spec_EvalCond_ev l s q x.f3 hl hs (by omega)
      have v1 := ih (i + 1) out (by omega) (by omega) (by omega)
      have v2 := ih (i + 1) (out ++ [(i : Int)]) (by omega) (by omega) (by rw [List.length_append, List.length_singleton]; omega)
      have hol : (out.length < 17592186044416) = True := eq_true (by omega)
      have h3 := wr1 hi' (show P.length ≤ 9223372036854775807 by omega)
      have h4 : (i : Int) + 1 = ((i + 1 : Nat) : Int) := by omega
      rw [h4, show rhoB l s q x = (forB x q.f3 q.f4 && evalB l s q x.f3) from rfl]
      refine Ev.succ ?_
      simp only [spec_RulesThatHold.l0, h1, h2, if_true, rd_at_T110 hx, spec_IsFor_eq, Option.bind_some, h3]
      cases c : forB x q.f3 q.f4 with
      | false =>
        simp only [Bool.false_eq_true, if_false, Bool.false_and]
        exact v1
      | true =>
        simp only [if_true, Bool.true_and]
        refine Ev.bind e1 ?_
        cases evalB l s q x.f3 with
        | true =>
          simp only [if_true, hol]
          exact Ev.eqv (by rw [List.append_assoc]; rfl) v2
        | false => simp only [Bool.false_eq_true, if_false]; exact v1
  unfold spec_RulesThatHold.f
  exact Ev.eqv (by rw [List.drop_zero, List.nil_append]; rfl) (key P.length 0 [] (by omega) (by omega) (by simp))

-- spec_DecideBy
theorem spec_DecideBy_ev (l : List S112) (s : List S83) (v : Int) (P : List S110) (q : S56) (hl : l.length ≤ 1048576) (hs : s.length ≤ 1048576) (hp : nPol P ≤ 1048576) : Ev (fun k => spec_DecideBy.f k l s v P q.f0 q.f1 q.f2 q.f3 q.f4 q.f5) (decV l s v P q) := by
  unfold spec_DecideBy.f decV
  simp only [spec_IsRequest_eq, Option.bind_some]
  cases c : reqB q.f0 q.f1 q.f2 q.f3 q.f4 q.f5 with
  | false => simp only [Bool.false_eq_true, if_false]; exact Ev.now _
  | true =>
    simp only [if_true]
    refine Ev.bind (spec_IsPolicy_ev ⟨v, P⟩ (by unfold n38; unfold nPol at hp; exact hp)) ?_
    unfold polB
    cases c2 : policyB ⟨v, P⟩ with
    | false => simp only [Bool.false_eq_true, if_false]; exact Ev.now _
    | true =>
      simp only [if_true]
      have hr : P.all ruleB = true := by
        have h := c2
        unfold policyB at h
        rw [Bool.and_eq_true, Bool.and_eq_true] at h
        exact h.2.2
      have hlen : P.length ≤ 1048576 := by unfold nPol at hp; omega
      have hL := thatV_len (rhoB l s q) P 0
      have hy := thatV_in (rhoB l s q) P 0
      refine Ev.bind (spec_RulesThatHold_ev l s q v P hl hs hp) ?_
      generalize thatV (rhoB l s q) P 0 = L at hL hy ⊢
      have eff : ∀ y ∈ L, (rd_T110 P y).f0 = 0 ∨ (rd_T110 P y).f0 = 1 := by
        intro y hm
        have hb := hy y hm
        obtain ⟨x, hx⟩ := getAt (l := P) (i := y.toNat) (by omega)
        have rx := rd_at_T110 hx
        rw [show ((y.toNat : Nat) : Int) = y by omega] at rx
        have hrx := List.all_eq_true.1 hr x (List.mem_of_getElem? hx)
        unfold ruleB at hrx
        rw [Bool.and_eq_true] at hrx
        have h0 := inB_iff.1 hrx.1
        rw [rx]; omega
      rw [decE_all _ 0 (fun e he => by
        obtain ⟨y, hm, rfl⟩ := List.mem_map.1 he
        exact eff y hm)]
      rw [List.any_map, List.length_map]
      have key : ∀ (d i : Nat), L.length - i = d → i ≤ L.length → Ev (fun k => spec_DecideBy.l0 k v P L (i : Int)) (if (L.drop i).any ((fun e => decide (e = 0)) ∘ fun i => (rd_T110 P i).f0) = true then 0 else if L.length = 0 then 0 else 1) := by
        intro d
        induction d with
        | zero =>
          intro i hd hi
          obtain rfl : i = L.length := by omega
          refine Ev.succ ?_
          simp only [spec_DecideBy.l0, Int.lt_irrefl, if_false, List.drop_length, List.any_nil, Bool.false_eq_true]
          by_cases c3 : L.length = 0
          · simp only [if_pos c3, if_pos (show (L.length : Int) = 0 by omega)]; exact Ev.now _
          · simp only [if_neg c3, if_neg (show ¬ (L.length : Int) = 0 by omega)]; exact Ev.now _
        | succ d ih =>
          intro i hd hi
          have hi' : i < L.length := by omega
          have hx : L[i]? = some L[i] := List.getElem?_eq_getElem hi'
          have hb := hy _ (List.getElem_mem hi')
          rw [List.drop_eq_getElem_cons hi', List.any_cons]
          generalize L[i] = y at hx hb ⊢
          have h1 : ((i : Int) < (L.length : Int)) = True := eq_true (by omega)
          have h2 : (0 ≤ (i : Int)) = True := eq_true (by omega)
          have h3 : (0 ≤ y) = True := eq_true (by omega)
          have h4 : (y < (P.length : Int)) = True := eq_true (by omega)
          have h5 := wr1 hi' (show L.length ≤ 9223372036854775807 by omega)
          refine Ev.succ ?_
          simp only [spec_DecideBy.l0, h1, h2, h3, h4, if_true, rd_nat _ _ _ hx, h5, Function.comp]
          by_cases c0 : (rd_T110 P y).f0 = 0
          · simp only [if_pos c0, c0, decide_true, Bool.true_or, if_true]; exact Ev.now _
          · simp only [if_neg c0, decide_eq_false c0, Bool.false_or]
            exact ih (i + 1) (by omega) (by omega)
      exact Ev.eqv (by rw [List.drop_zero]) (key L.length 0 (by omega) (by omega))

-- spec_l27True
/-- A request at another time. -/
def atT (q : S56) (t : Int) : S56 := ⟨q.f0, q.f1, q.f2, q.f3, q.f4, t⟩
/-- What is decided stays so, from a time on. -/
def staysB (p : S45) (y : S58) : Nat → Int → Bool
  | 0, _ => true
  | n + 1, t => decide (decV p.f1.f2 p.f2 p.f1.f3.f0 p.f1.f3.f1 (atT y.f0 t) = y.f1) && staysB p y n (t + 1)
def trueB (p : S45) (y : S58) : Bool := reqB y.f0.f0 y.f0.f1 y.f0.f2 y.f0.f3 y.f0.f4 y.f0.f5 && (!decide (y.f0.f5 < p.f4) && (inB y.f2 y.f0.f5 (y.f0.f5 + 10) && staysB p y (y.f2 + 1 - y.f0.f5).toNat y.f0.f5))
theorem spec_l27True_ev (p : S45) (y : S58) (h : n45 p ≤ 1048576) : Ev (fun k => spec_l27True.f k p.f0 p.f1.f0 p.f1.f1 p.f1.f2 p.f1.f3.f0 p.f1.f3.f1 p.f2 p.f3 p.f4 p.f5 y.f0.f0 y.f0.f1 y.f0.f2 y.f0.f3 y.f0.f4 y.f0.f5 y.f1 y.f2) (trueB p y) := by
  have hl : p.f1.f2.length ≤ 1048576 := by unfold n45 n40 at h; omega
  have hs : p.f2.length ≤ 1048576 := by unfold n45 at h; omega
  have hp : nPol p.f1.f3.f1 ≤ 1048576 := by unfold n45 n40 n38 at h; unfold nPol; omega
  unfold spec_l27True.f trueB
  simp only [spec_IsRequest_eq, Option.bind_some]
  refine Ev.bifT fun c => ?_
  have ht : 0 ≤ y.f0.f5 ∧ y.f0.f5 ≤ 10000 := by
    unfold reqB at c
    simp only [Bool.and_eq_true] at c
    exact timeAt c.2.2.2.2.2
  have w1 : wrap64 (y.f0.f5 + 10) = y.f0.f5 + 10 := wr (by omega) (by omega)
  refine Ev.dnot fun _ => ?_
  by_cases c1 : y.f2 < y.f0.f5
  · have e : inB y.f2 y.f0.f5 (y.f0.f5 + 10) = false := by rw [Bool.eq_false_iff, Ne, inB_iff]; omega
    simp only [if_pos c1, e, Bool.false_and]
    exact Ev.now _
  by_cases c2 : y.f2 > y.f0.f5 + 10
  · have e : inB y.f2 y.f0.f5 (y.f0.f5 + 10) = false := by rw [Bool.eq_false_iff, Ne, inB_iff]; omega
    simp only [if_neg c1, w1, if_pos c2, e, Bool.false_and]
    exact Ev.now _
  have e : inB y.f2 y.f0.f5 (y.f0.f5 + 10) = true := by rw [inB_iff]; omega
  simp only [if_neg c1, w1, if_neg c2, e, Bool.true_and]
  have key : ∀ (n : Nat) (t : Int), (n : Int) = y.f2 + 1 - t → 0 ≤ t → Ev (fun k => spec_l27True.l0 k p.f0 p.f1.f0 p.f1.f1 p.f1.f2 p.f1.f3.f0 p.f1.f3.f1 p.f2 p.f3 p.f4 p.f5 y.f0.f0 y.f0.f1 y.f0.f2 y.f0.f3 y.f0.f4 y.f0.f5 y.f1 y.f2 t) (staysB p y n t) := by
    intro n
    induction n with
    | zero =>
      intro t e h0
      refine Ev.succ ?_
      simp only [spec_l27True.l0]
      exact Ev.neg (by omega) (Ev.now _)
    | succ n ih =>
      intro t e h0
      have w2 : wrap64 (t + 1) = t + 1 := wr (by omega) (by omega)
      refine Ev.succ ?_
      simp only [spec_l27True.l0, spec_AtTime.f, Option.bind_some, w2]
      refine Ev.pos (by omega) (Ev.bind (spec_DecideBy_ev p.f1.f2 p.f2 p.f1.f3.f0 p.f1.f3.f1 (atT y.f0 t) hl hs hp) ?_)
      exact Ev.dand fun _ => ih (t + 1) (by omega) (by omega)
  exact key _ _ (by omega) ht.1

-- spec_ArePairs
theorem spec_ArePairs_ev (l : List S112) (h : l.length ≤ 1048576) : Ev (fun k => spec_ArePairs.f k l) (pairsB l) := by
  unfold spec_ArePairs.f pairsB
  have hout : ∀ m, (outV m).length ≤ 1048576 := fun m => by
    unfold outV
    have := List.length_filter_le (fun r => mkR m r) ([0, 1, 2, 3, 4, 5] : List Int)
    simp only [List.length_cons, List.length_nil] at this
    omega
  have hro : ∀ r, (rolesV l r).length ≤ 1048576 := fun r => by
    unfold rolesV
    split
    · exact hout _
    · simp
  have key : ∀ d i : Nat, l.length - i = d → i ≤ l.length → Ev (fun k => spec_ArePairs.l0 k l (i : Int)) ((l.drop i).all (pairP l) && decide ((l.length : Int) ≤ 10)) := by
    intro d
    induction d with
    | zero =>
      intro i hd hi
      obtain rfl : i = l.length := by omega
      refine Ev.succ ?_
      simp only [spec_ArePairs.l0, Int.lt_irrefl, if_false, List.drop_length, List.all_nil, Bool.true_and]
      exact Ev.now _
    | succ d ih =>
      intro i hd hi
      have hi' : i < l.length := by omega
      have hx : l[i]? = some l[i] := List.getElem?_eq_getElem hi'
      have hr := ih (i + 1) (by omega) (by omega)
      rw [List.drop_eq_getElem_cons hi', List.all_cons, Bool.and_assoc]
      generalize l[i] = x at hx ⊢
      have h1 : ((i : Int) < (l.length : Int)) = True := eq_true (by omega)
      have h2 : (0 ≤ (i : Int)) = True := eq_true (by omega)
      have hj : ∀ (b : Bool) r, Ev (fun k => spec_ArePairs.l0 k l ((i + 1 : Nat) : Int)) r → Ev (fun k => if b = true then some false else spec_ArePairs.l0 k l ((i + 1 : Nat) : Int)) (!b && r) := by
        intro b r hr
        cases b with
        | false => exact Ev.neg (by simp) hr
        | true => exact Ev.pos rfl (Ev.now _)
      refine Ev.succ ?_
      simp only [spec_ArePairs.l0, h1, h2, if_true, rd_at_T112 hx, spec_l1In_eq, Option.bind_some, roleB_in, wr1 hi' (show l.length ≤ 9223372036854775807 by omega)]
      unfold pairP
      cases roleB x.f0 with
      | false => simp only [Bool.false_eq_true, if_false]; exact Ev.now _
      | true =>
        cases roleB x.f1 with
        | false => simp only [Bool.false_eq_true, if_false, if_true]; exact Ev.now _
        | true =>
          simp only [if_true, Bool.true_and]
          refine Ev.bind (spec_RolesUnder_ev l x.f1 h) ?_
          refine Ev.bind (spec_l13Has_ev _ x.f0 (hro _)) ?_
          exact hj _ _ hr
  exact Ev.eqv (by rw [List.drop_zero]) (key l.length 0 (by omega) (by omega))

-- spec_IsEpoch
def epochB (e : S40) : Bool := inB e.f0 0 999 && (timeB e.f1 && (pairsB e.f2 && (policyB e.f3 && (e.f3.f0 == e.f0))))
def epochQ (y x : S40) : Bool := !decide (y.f0 ≥ x.f0) && !decide (y.f1 > x.f1)
def epochsB (l : List S40) : Bool := adjB epochB epochQ l && decide ((l.length : Int) ≤ 6)
theorem epochQ_step {y x : S40} {g : Nat → Option Bool} {r : Bool} (h : epochQ y x = true → Ev g r) : Ev (fun k => if y.f0 ≥ x.f0 then some false else if y.f1 > x.f1 then some false else g k) (epochQ y x && r) := by
  unfold epochQ at h ⊢
  rw [Bool.and_assoc]
  exact Ev.dnot fun a => Ev.dnot fun b => h (by rw [decide_eq_false a, decide_eq_false b]; rfl)
theorem spec_IsEpoch_ev (e : S40) (h : n40 e ≤ 1048576) : Ev (fun k => spec_IsEpoch.f k e.f0 e.f1 e.f2 e.f3.f0 e.f3.f1) (epochB e) := by
  unfold n40 at h
  unfold spec_IsEpoch.f epochB
  simp only [spec_l1In_eq, spec_IsTime_eq, Option.bind_some]
  exact Ev.bifT fun _ => Ev.bifT fun _ => Ev.band (spec_ArePairs_ev e.f2 (by omega)) fun _ => Ev.band (spec_IsPolicy_ev e.f3 (by omega)) fun _ => Ev.now _

-- spec_FactBefore
theorem spec_FactBefore_eq (y x : S83) : spec_FactBefore.f y.f0 y.f1 y.f2 y.f3 y.f4 y.f5 x.f0 x.f1 x.f2 x.f3 x.f4 x.f5 = some (factQ y x) := by
  unfold spec_FactBefore.f factQ
  (repeat' split) <;> rfl

-- spec_IsStore
theorem spec_IsStore_ev (l : List S83) (h : l.length ≤ 1048576) : Ev (fun k => spec_IsStore.f k l) (storeB l) := by
  unfold spec_IsStore.f storeB
  refine ev_adj l factB factQ _ (fun k i => spec_IsStore.l0 k l i) ?_ ?_ ?_
  · refine Ev.succ ?_
    simp only [spec_IsStore.l0, Int.lt_irrefl, if_false]
    exact Ev.now _
  · intro x r hx hr
    have hi := lt_of_get hx
    have h1 : ((0 : Int) < (l.length : Int)) = True := eq_true (by omega)
    have e := rd_at_T83 hx
    have e2 := wr1 hi (show l.length ≤ 9223372036854775807 by omega)
    simp only [Int.ofNat_zero, Int.natCast_zero] at e e2
    refine Ev.succ ?_
    simp only [spec_IsStore.l0, h1, if_true, Int.le_refl, gt_iff_lt, Int.lt_irrefl, if_false, e, e2, spec_IsFact_eq, spec_FactBefore_eq, Option.bind_some]
    exact Ev.bifT fun _ => hr
  · intro i y x r hy hx hr
    have hi := lt_of_get hx
    have h1 : (((i + 1 : Nat) : Int) < (l.length : Int)) = True := eq_true (by omega)
    have h2 : (0 ≤ ((i + 1 : Nat) : Int)) = True := eq_true (by omega)
    have h3 : (((i + 1 : Nat) : Int) > 0) = True := eq_true (by omega)
    have h4 : (0 ≤ (i : Int)) = True := eq_true (by omega)
    have h5 : ((i : Int) < (l.length : Int)) = True := eq_true (by omega)
    refine Ev.succ ?_
    simp only [spec_IsStore.l0, h1, h2, h3, h4, h5, if_true, rd_at_T83 hx, rd_at_T83 hy, wr1 hi (show l.length ≤ 9223372036854775807 by omega), wrp hi (show l.length ≤ 9223372036854775807 by omega), spec_IsFact_eq, spec_FactBefore_eq, Option.bind_some]
    exact Ev.bifT fun _ => Ev.bifT fun _ => hr

-- spec_AreRevoked
def revP (x : S86) : Bool := inB x.f0 1 9999 && timeB x.f1
def revQ (y x : S86) : Bool := !decide (y.f0 ≥ x.f0)
def revB (l : List S86) : Bool := adjB revP revQ l && decide ((l.length : Int) ≤ 40)
theorem revP_step {x : S86} {g : Nat → Option Bool} {r : Bool} (h : revP x = true → Ev g r) : Ev (fun k => if inB x.f0 1 9999 = true then (if timeB x.f1 = true then g k else some false) else some false) (revP x && r) := by
  unfold revP at h ⊢
  rw [Bool.and_assoc]
  exact Ev.bifT fun a => Ev.bifT fun b => h (by rw [a, b]; rfl)
theorem spec_AreRevoked_ev (l : List S86) (h : l.length ≤ 1048576) : Ev (fun k => spec_AreRevoked.f k l) (revB l) := by
  unfold spec_AreRevoked.f revB
  refine ev_adj l revP revQ _ (fun k i => spec_AreRevoked.l0 k l i) ?_ ?_ ?_
  · refine Ev.succ ?_
    simp only [spec_AreRevoked.l0, Int.lt_irrefl, if_false]
    exact Ev.now _
  · intro x r hx hr
    have hi := lt_of_get hx
    have h1 : ((0 : Int) < (l.length : Int)) = True := eq_true (by omega)
    have e := rd_at_T86 hx
    have e2 := wr1 hi (show l.length ≤ 9223372036854775807 by omega)
    simp only [Int.ofNat_zero, Int.natCast_zero] at e e2
    refine Ev.succ ?_
    simp only [spec_AreRevoked.l0, h1, if_true, Int.le_refl, gt_iff_lt, Int.lt_irrefl, if_false, e, e2, spec_l1In_eq, spec_IsTime_eq, Option.bind_some]
    exact revP_step fun _ => hr
  · intro i y x r hy hx hr
    have hi := lt_of_get hx
    have h1 : (((i + 1 : Nat) : Int) < (l.length : Int)) = True := eq_true (by omega)
    have h2 : (0 ≤ ((i + 1 : Nat) : Int)) = True := eq_true (by omega)
    have h3 : (((i + 1 : Nat) : Int) > 0) = True := eq_true (by omega)
    have h4 : (0 ≤ (i : Int)) = True := eq_true (by omega)
    have h5 : ((i : Int) < (l.length : Int)) = True := eq_true (by omega)
    refine Ev.succ ?_
    simp only [spec_AreRevoked.l0, h1, h2, h3, h4, h5, if_true, rd_at_T86 hx, rd_at_T86 hy, wr1 hi (show l.length ≤ 9223372036854775807 by omega), wrp hi (show l.length ≤ 9223372036854775807 by omega), spec_l1In_eq, spec_IsTime_eq, Option.bind_some]
    exact revP_step fun _ => Ev.dnot fun _ => hr

-- spec_IsPoint
def newPt (n : Int) : S45 := ⟨n, ⟨0, 0, [], ⟨0, []⟩⟩, [], [], -1, []⟩
def pointB (p : S45) : Bool := if p.f4 = -1 then eqPt p (newPt p.f0) else timeB p.f4 && (epochB p.f1 && (storeB p.f2 && (revB p.f3 && (decide ((p.f5.length : Int) ≤ 8) && p.f5.all (trueB p)))))
theorem point_le2 (p : S45) (h : n45 p ≤ 1048576) : n40 p.f1 ≤ 1048576 ∧ p.f2.length ≤ 1048576 ∧ p.f3.length ≤ 1048576 ∧ p.f5.length ≤ 1048576 := by
  unfold n45 at h
  refine ⟨?_, ?_, ?_, ?_⟩ <;> omega
theorem spec_IsPoint_ev (p : S45) (h : n45 p ≤ 1048576) : Ev (fun k => spec_IsPoint.f k p.f0 p.f1.f0 p.f1.f1 p.f1.f2 p.f1.f3.f0 p.f1.f3.f1 p.f2 p.f3 p.f4 p.f5) (pointB p) := by
  obtain ⟨h1, h2, h3, h5⟩ := point_le2 p h
  unfold spec_IsPoint.f pointB
  refine Ev.ite (fun c => ?_) (fun c => ?_)
  · rw [if_pos c]
    simp only [spec_NewPoint.f, Option.bind_some]
    exact Ev.bid (spec_EqualPoints_ev p (newPt p.f0) h)
  · rw [if_neg c]
    have key : ∀ (d i : Nat), p.f5.length - i = d → i ≤ p.f5.length → Ev (fun k => spec_IsPoint.l0 k p.f0 p.f1.f0 p.f1.f1 p.f1.f2 p.f1.f3.f0 p.f1.f3.f1 p.f2 p.f3 p.f4 p.f5 (i : Int)) ((p.f5.drop i).all (trueB p) && (timeB p.f4 && (epochB p.f1 && (storeB p.f2 && (revB p.f3 && decide ((p.f5.length : Int) ≤ 8)))))) := by
      intro d
      induction d with
      | zero =>
        intro i hd hi
        obtain rfl : i = p.f5.length := by omega
        refine Ev.succ ?_
        simp only [spec_IsPoint.l0, Int.lt_irrefl, if_false, List.drop_length, List.all_nil, Bool.true_and, spec_IsTime_eq, Option.bind_some]
        exact Ev.bifT fun _ => Ev.band (spec_IsEpoch_ev p.f1 h1) fun _ => Ev.band (spec_IsStore_ev p.f2 h2) fun _ => Ev.band (spec_AreRevoked_ev p.f3 h3) fun _ => Ev.now _
      | succ d ih =>
        intro i hd hi
        have hi' : i < p.f5.length := by omega
        have hx : p.f5[i]? = some p.f5[i] := List.getElem?_eq_getElem hi'
        rw [List.drop_eq_getElem_cons hi', List.all_cons, Bool.and_assoc]
        generalize p.f5[i] = y at hx ⊢
        have e1 : ((i : Int) < (p.f5.length : Int)) = True := eq_true (by omega)
        have e2 : (0 ≤ (i : Int)) = True := eq_true (by omega)
        have e3 := wr1 hi' (show p.f5.length ≤ 9223372036854775807 by omega)
        refine Ev.succ ?_
        simp only [spec_IsPoint.l0, e1, e2, if_true, rd_at_T58 hx, e3]
        exact Ev.band (spec_l27True_ev p y h) fun _ => ih (i + 1) (by omega) (by omega)
    refine Ev.eqv ?_ (key p.f5.length 0 (by omega) (by omega))
    rw [List.drop_zero]
    cases p.f5.all (trueB p) <;> cases timeB p.f4 <;> cases epochB p.f1 <;> cases storeB p.f2 <;> cases revB p.f3 <;> simp

-- slices_Equal85
theorem slices_Equal85_ev (l m : List S112) (h : l.length ≤ 1048576) : Ev (fun k => slices_Equal85.f k l m) (decide (l.length = m.length) && allZ eqT112 l m) := by
  unfold slices_Equal85.f
  refine Ev.dlen fun c => ev_allz eqT112 l m c (fun k i => slices_Equal85.l0 k l m (l.length : Int) i) ?_ ?_
  · refine Ev.succ ?_
    simp only [slices_Equal85.l0, Int.lt_irrefl, if_false]
    exact Ev.now _
  · intro i x y r hx hy hr
    have hi := lt_of_get hx
    have h1 : ((i : Int) < (l.length : Int)) = True := eq_true (by omega)
    have h2 : (0 ≤ (i : Int)) = True := eq_true (by omega)
    have h3 : ((i : Int) < (m.length : Int)) = True := eq_true (by omega)
    refine Ev.succ ?_
    simp only [slices_Equal85.l0, h1, h2, h3, if_true, rd_at_T112 hx, rd_at_T112 hy, wr1 hi (by omega)]
    exact Ev.eqv (congrArg (· && r) (by rw [Bool.eq_iff_iff]; simp [eqT112])) (Ev.dand fun _ => hr)

-- impl_EqualConds
theorem impl_EqualConds_evN (N : Nat) : ∀ x y : S108, n108 x ≤ N → N ≤ 1048576 → Ev (fun k => impl_EqualConds.f k x.f0 x.f1 x.f2 x.f3 y.f0 y.f1 y.f2 y.f3) (eqC x y) := by
  induction N using Nat.strongRecOn with
  | _ N ih =>
  intro x y h hN
  rw [n108_f] at h
  rw [eqC_f]
  refine Ev.succ ?_
  simp only [impl_EqualConds.f]
  refine Ev.dand fun _ => Ev.dand fun _ => Ev.dand fun _ => Ev.bid ?_
  refine Ev.succ ?_
  simp only [slices_EqualFunc133_122.f]
  refine Ev.dlen fun c => ev_allz eqC x.f3 y.f3 c (fun k i => slices_EqualFunc133_122.l0 k y.f3 x.f3 (x.f3.length : Int) i) ?_ ?_
  · refine Ev.succ ?_
    simp only [slices_EqualFunc133_122.l0, Int.lt_irrefl, if_false]
    exact Ev.now _
  · intro i a b r ha hb hr
    have hi := lt_of_get ha
    have hn := le_sum n108 ha
    have h1 : ((i : Int) < (x.f3.length : Int)) = True := eq_true (by omega)
    have h2 : (0 ≤ (i : Int)) = True := eq_true (by omega)
    have h3 : ((i : Int) < (y.f3.length : Int)) = True := eq_true (by omega)
    refine Ev.succ ?_
    simp only [slices_EqualFunc133_122.l0, h1, h2, h3, if_true, rd_at_T108 ha, rd_at_T108 hb, wr1 hi (by omega)]
    exact Ev.band (ih (n108 a) (by omega) a b (Nat.le_refl _) (by omega)) (fun _ => hr)
theorem impl_EqualConds_ev (x y : S108) (h : n108 x ≤ 1048576) : Ev (fun k => impl_EqualConds.f k x.f0 x.f1 x.f2 x.f3 y.f0 y.f1 y.f2 y.f3) (eqC x y) := impl_EqualConds_evN _ x y (Nat.le_refl _) h

-- impl_equalRules
theorem impl_equalRules_ev (x y : S110) (h : n108 x.f3 ≤ 1048576) : Ev (fun k => impl_equalRules.f k x.f0 x.f1 x.f2 x.f3.f0 x.f3.f1 x.f3.f2 x.f3.f3 y.f0 y.f1 y.f2 y.f3.f0 y.f3.f1 y.f3.f2 y.f3.f3) (eqR x y) := by
  unfold impl_equalRules.f eqR
  exact Ev.dand fun _ => Ev.dand fun _ => Ev.dand fun _ => Ev.bid (impl_EqualConds_ev x.f3 y.f3 h)

-- impl_EqualPolicies
theorem impl_EqualPolicies_ev (a : Int) (l : List S110) (b : Int) (m : List S110) (h : l.length + (l.map n110).sum ≤ 1048576) : Ev (fun k => impl_EqualPolicies.f k a l b m) (eqPol a l b m) := by
  unfold impl_EqualPolicies.f eqPol
  refine Ev.dand fun _ => Ev.bid ?_
  unfold slices_EqualFunc108_109.f
  refine Ev.dlen fun c => ev_allz eqR l m c (fun k i => slices_EqualFunc108_109.l0 k m l (l.length : Int) i) ?_ ?_
  · refine Ev.succ ?_
    simp only [slices_EqualFunc108_109.l0, Int.lt_irrefl, if_false]
    exact Ev.now _
  · intro i x y r hx hy hr
    have hi := lt_of_get hx
    have h1 : ((i : Int) < (l.length : Int)) = True := eq_true (by omega)
    have h2 : (0 ≤ (i : Int)) = True := eq_true (by omega)
    have h3 : ((i : Int) < (m.length : Int)) = True := eq_true (by omega)
    refine Ev.succ ?_
    simp only [slices_EqualFunc108_109.l0, h1, h2, h3, if_true, rd_at_T110 hx, rd_at_T110 hy, wr1 hi (by omega)]
    exact Ev.band (impl_equalRules_ev x y (by have := rule_le (List.mem_of_getElem? hx); omega)) (fun _ => hr)

-- impl_EqualEpochs
theorem impl_EqualEpochs_ev (a0 a1 : Int) (l2 : List S112) (a3 : Int) (l4 : List S110) (b0 b1 : Int) (m2 : List S112) (b3 : Int) (m4 : List S110) (h2 : l2.length ≤ 1048576) (h4 : l4.length + (l4.map n110).sum ≤ 1048576) : Ev (fun k => impl_EqualEpochs.f k a0 a1 l2 a3 l4 b0 b1 m2 b3 m4) (eqEp a0 a1 l2 a3 l4 b0 b1 m2 b3 m4) := by
  unfold impl_EqualEpochs.f eqEp
  exact Ev.dand fun _ => Ev.dand fun _ => Ev.band (slices_Equal85_ev l2 m2 h2) fun _ => Ev.bid (impl_EqualPolicies_ev a3 l4 b3 m4 h4)

-- slices_Equal87
theorem slices_Equal87_ev (l m : List S83) (h : l.length ≤ 1048576) : Ev (fun k => slices_Equal87.f k l m) (decide (l.length = m.length) && allZ eqT83 l m) := by
  unfold slices_Equal87.f
  refine Ev.dlen fun c => ev_allz eqT83 l m c (fun k i => slices_Equal87.l0 k l m (l.length : Int) i) ?_ ?_
  · refine Ev.succ ?_
    simp only [slices_Equal87.l0, Int.lt_irrefl, if_false]
    exact Ev.now _
  · intro i x y r hx hy hr
    have hi := lt_of_get hx
    have h1 : ((i : Int) < (l.length : Int)) = True := eq_true (by omega)
    have h2 : (0 ≤ (i : Int)) = True := eq_true (by omega)
    have h3 : ((i : Int) < (m.length : Int)) = True := eq_true (by omega)
    refine Ev.succ ?_
    simp only [slices_Equal87.l0, h1, h2, h3, if_true, rd_at_T83 hx, rd_at_T83 hy, wr1 hi (by omega)]
    exact Ev.eqv (congrArg (· && r) (by rw [Bool.eq_iff_iff]; simp [eqT83])) (Ev.dand fun _ => hr)

-- impl_EqualStores
theorem impl_EqualStores_ev (l m : List S83) (h : l.length ≤ 1048576) : Ev (fun k => impl_EqualStores.f k l m) (decide (l.length = m.length) && allZ eqT83 l m) := by
  unfold impl_EqualStores.f
  exact Ev.bid (slices_Equal87_ev l m h)

-- slices_Equal58
theorem slices_Equal58_ev (l m : List S86) (h : l.length ≤ 1048576) : Ev (fun k => slices_Equal58.f k l m) (decide (l.length = m.length) && allZ eqT86 l m) := by
  unfold slices_Equal58.f
  refine Ev.dlen fun c => ev_allz eqT86 l m c (fun k i => slices_Equal58.l0 k l m (l.length : Int) i) ?_ ?_
  · refine Ev.succ ?_
    simp only [slices_Equal58.l0, Int.lt_irrefl, if_false]
    exact Ev.now _
  · intro i x y r hx hy hr
    have hi := lt_of_get hx
    have h1 : ((i : Int) < (l.length : Int)) = True := eq_true (by omega)
    have h2 : (0 ≤ (i : Int)) = True := eq_true (by omega)
    have h3 : ((i : Int) < (m.length : Int)) = True := eq_true (by omega)
    refine Ev.succ ?_
    simp only [slices_Equal58.l0, h1, h2, h3, if_true, rd_at_T86 hx, rd_at_T86 hy, wr1 hi (by omega)]
    exact Ev.eqv (congrArg (· && r) (by rw [Bool.eq_iff_iff]; simp [eqT86])) (Ev.dand fun _ => hr)

-- slices_Equal59
theorem slices_Equal59_ev (l m : List S58) (h : l.length ≤ 1048576) : Ev (fun k => slices_Equal59.f k l m) (decide (l.length = m.length) && allZ eqT58 l m) := by
  unfold slices_Equal59.f
  refine Ev.dlen fun c => ev_allz eqT58 l m c (fun k i => slices_Equal59.l0 k l m (l.length : Int) i) ?_ ?_
  · refine Ev.succ ?_
    simp only [slices_Equal59.l0, Int.lt_irrefl, if_false]
    exact Ev.now _
  · intro i x y r hx hy hr
    have hi := lt_of_get hx
    have h1 : ((i : Int) < (l.length : Int)) = True := eq_true (by omega)
    have h2 : (0 ≤ (i : Int)) = True := eq_true (by omega)
    have h3 : ((i : Int) < (m.length : Int)) = True := eq_true (by omega)
    refine Ev.succ ?_
    simp only [slices_Equal59.l0, h1, h2, h3, if_true, rd_at_T58 hx, rd_at_T58 hy, wr1 hi (by omega)]
    exact Ev.eqv (congrArg (· && r) (by rw [Bool.eq_iff_iff]; simp [eqT58])) (Ev.dand fun _ => hr)

-- impl_EqualPoints
theorem impl_EqualPoints_ev (x y : S45) (h : n45 x ≤ 1048576) : Ev (fun k => impl_EqualPoints.f k x.f0 x.f1.f0 x.f1.f1 x.f1.f2 x.f1.f3.f0 x.f1.f3.f1 x.f2 x.f3 x.f4 x.f5 y.f0 y.f1.f0 y.f1.f1 y.f1.f2 y.f1.f3.f0 y.f1.f3.f1 y.f2 y.f3 y.f4 y.f5) (eqPt x y) := by
  obtain ⟨h2, h4, h6, h7, h9⟩ := point_le x h
  unfold impl_EqualPoints.f eqPt
  rw [and6]
  unfold rowB
  exact Ev.dand fun _ => Ev.band (impl_EqualEpochs_ev _ _ _ _ _ _ _ _ _ _ h2 h4) fun _ => Ev.band (impl_EqualStores_ev _ _ h6) fun _ => Ev.band (slices_Equal58_ev _ _ h7) fun _ => Ev.dand fun _ => Ev.bid (slices_Equal59_ev _ _ h9)

-- impl_InRange


-- impl_IsTime
theorem impl_IsTime_eq (a : Int) : impl_IsTime.f a = some (timeB a) := by
  unfold impl_IsTime.f
  rw [impl_InRange_eq]; rfl

-- impl_isRole
-- told elsewhere

-- impl_below
theorem popX_len2 (l : List S112) (a : Int) : ∀ s : List Bool × List Int, (popX l a s).2.length ≤ s.2.length + l.length := by
  unfold popX
  induction l with
  | nil => intro s; simp
  | cons x l ih =>
    intro s
    rw [List.foldl_cons]
    have := ih (visX a s x)
    have h : (visX a s x).2.length ≤ s.2.length + 1 := by
      unfold visX; split
      · simp
      · omega
    simp only [List.length_cons]
    omega
theorem isRole_role (a : Int) : impl_isRole.f a = some (roleB a) := by
  unfold impl_isRole.f
  rw [impl_InRange_eq]; rfl
theorem below_in (l : List S112) (hl : l.length ≤ 1048576) (a : Int) (c0 c1 c2 c3 c4 c5 : Bool) (r : Bool × Bool × Bool × Bool × Bool × Bool) : ∀ (d i : Nat) (b0 b1 b2 b3 b4 b5 : Bool) (q : List Int), i + d = l.length → q.length + d ≤ 20000000 →
    (∀ (e0 e1 e2 e3 e4 e5 : Bool) (q' : List Int), popX (l.drop i) a ([b0, b1, b2, b3, b4, b5], q) = ([e0, e1, e2, e3, e4, e5], q') → Ev (fun k => impl_below.l0 k l c0 c1 c2 c3 c4 c5 e0 e1 e2 e3 e4 e5 q') r) →
    Ev (fun k => impl_below.l1 k l c0 c1 c2 c3 c4 c5 b0 b1 b2 b3 b4 b5 q a l (l.length : Int) (i : Int)) r := by
  intro d
  induction d with
  | zero =>
    intro i b0 b1 b2 b3 b4 b5 q hi hq h
    obtain rfl : i = l.length := by omega
    refine Ev.succ ?_
    simp only [impl_below.l1, Int.lt_irrefl, if_false]
    exact h _ _ _ _ _ _ _ (by rw [List.drop_length]; rfl)
  | succ d ih =>
    intro i b0 b1 b2 b3 b4 b5 q hi hq h
    have hil : i < l.length := by omega
    obtain ⟨x, hx⟩ := getAt (l := l) (i := i) hil
    have hd : l.drop i = x :: l.drop (i + 1) := by
      rw [List.drop_eq_getElem_cons hil]
      rw [List.getElem?_eq_getElem hil] at hx
      rw [Option.some.inj hx]
    have h1 : ((i : Int) < (l.length : Int)) = True := eq_true (by omega)
    have h2 : (0 ≤ (i : Int)) = True := eq_true (by omega)
    have h3 : (q.length < 17592186044416) = True := eq_true (by omega)
    have go : ∀ (b0 b1 b2 b3 b4 b5 : Bool) (q2 : List Int), q2.length ≤ q.length + 1 → visX a ([b0, b1, b2, b3, b4, b5], q2) x = ([b0, b1, b2, b3, b4, b5], q2) ∨ True → True := fun _ _ _ _ _ _ _ _ _ => trivial
    clear go
    have keep : visX a ([b0, b1, b2, b3, b4, b5], q) x = ([b0, b1, b2, b3, b4, b5], q) → Ev (fun k => impl_below.l1 k l c0 c1 c2 c3 c4 c5 b0 b1 b2 b3 b4 b5 q a l (l.length : Int) ((i + 1 : Nat) : Int)) r := by
      intro hv
      refine ih (i + 1) _ _ _ _ _ _ q (by omega) (by omega) fun e0 e1 e2 e3 e4 e5 q' he => h _ _ _ _ _ _ _ ?_
      rw [hd]
      show popX (l.drop (i + 1)) a (visX a ([b0, b1, b2, b3, b4, b5], q) x) = _
      rw [hv]; exact he
    have put : ∀ (f0 f1 f2 f3 f4 f5 : Bool), visX a ([b0, b1, b2, b3, b4, b5], q) x = ([f0, f1, f2, f3, f4, f5], q ++ [x.f1]) → Ev (fun k => impl_below.l1 k l c0 c1 c2 c3 c4 c5 f0 f1 f2 f3 f4 f5 (q ++ [x.f1]) a l (l.length : Int) ((i + 1 : Nat) : Int)) r := by
      intro f0 f1 f2 f3 f4 f5 hv
      refine ih (i + 1) _ _ _ _ _ _ _ (by omega) (by rw [List.length_append, List.length_singleton]; omega) fun e0 e1 e2 e3 e4 e5 q' he => h _ _ _ _ _ _ _ ?_
      rw [hd]
      show popX (l.drop (i + 1)) a (visX a ([b0, b1, b2, b3, b4, b5], q) x) = _
      rw [hv]; exact he
    refine Ev.succ ?_
    simp only [impl_below.l1, h1, h2, h3, if_true, rd_at_T112 hx, wr1 hil (by omega), isRole_role, Option.bind_some]
    by_cases ca : x.f0 = a
    · simp only [if_pos ca]
      cases hr : roleB x.f1 with
      | false =>
        simp only [Bool.false_eq_true, if_false, ca, if_true]
        exact keep (by unfold visX; simp [hr])
      | true =>
        have hr' := roleB_iff.1 hr
        have hc : x.f1 = 0 ∨ x.f1 = 1 ∨ x.f1 = 2 ∨ x.f1 = 3 ∨ x.f1 = 4 ∨ x.f1 = 5 := by omega
        rcases hc with e | e | e | e | e | e <;> simp only [e, if_true, Int.reduceEq, if_false] at put ⊢
        · cases b0 with
          | true => simp only [if_true]; exact keep (by unfold visX; simp [mkR, e])
          | false => simp only [Bool.false_eq_true, if_false]; exact put _ _ _ _ _ _ (by unfold visX; simp [mkR, e, ca, roleB])
        · cases b1 with
          | true => simp only [if_true]; exact keep (by unfold visX; simp [mkR, e])
          | false => simp only [Bool.false_eq_true, if_false]; exact put _ _ _ _ _ _ (by unfold visX; simp [mkR, e, ca, roleB])
        · cases b2 with
          | true => simp only [if_true]; exact keep (by unfold visX; simp [mkR, e])
          | false => simp only [Bool.false_eq_true, if_false]; exact put _ _ _ _ _ _ (by unfold visX; simp [mkR, e, ca, roleB])
        · cases b3 with
          | true => simp only [if_true]; exact keep (by unfold visX; simp [mkR, e])
          | false => simp only [Bool.false_eq_true, if_false]; exact put _ _ _ _ _ _ (by unfold visX; simp [mkR, e, ca, roleB])
        · cases b4 with
          | true => simp only [if_true]; exact keep (by unfold visX; simp [mkR, e])
          | false => simp only [Bool.false_eq_true, if_false]; exact put _ _ _ _ _ _ (by unfold visX; simp [mkR, e, ca, roleB])
        · cases b5 with
          | true => simp only [if_true]; exact keep (by unfold visX; simp [mkR, e])
          | false => simp only [Bool.false_eq_true, if_false]; exact put _ _ _ _ _ _ (by unfold visX; simp [mkR, e, ca, roleB])
    · simp only [if_neg ca]
      exact keep (by unfold visX; simp [ca])
theorem below_out (l : List S112) (hl : l.length ≤ 1048576) (c0 c1 c2 c3 c4 c5 r0 r1 r2 r3 r4 r5 : Bool) : ∀ (n : Nat) (q : List Int) (b0 b1 b2 b3 b4 b5 : Bool), q.length + n * 1048576 ≤ 10000000 → bfsX l n q [b0, b1, b2, b3, b4, b5] = some [r0, r1, r2, r3, r4, r5] →
    Ev (fun k => impl_below.l0 k l c0 c1 c2 c3 c4 c5 b0 b1 b2 b3 b4 b5 q) (r0, r1, r2, r3, r4, r5) := by
  intro n
  induction n with
  | zero => intro q b0 b1 b2 b3 b4 b5 hq h; cases h
  | succ n ih =>
    intro q b0 b1 b2 b3 b4 b5 hq h
    cases q with
    | nil =>
      cases h
      refine Ev.succ ?_
      simp only [impl_below.l0, List.length_nil, Int.ofNat_eq_natCast, Int.natCast_zero, gt_iff_lt, Int.lt_irrefl, if_false]
      exact Ev.now _
    | cons a rest =>
      simp only [List.length_cons] at hq
      have h1 : (((a :: rest).length : Int) > 0) = True := eq_true (by simp only [List.length_cons]; omega)
      have h2 : (0 < ((a :: rest).length : Int)) = True := eq_true (by simp only [List.length_cons]; omega)
      have h3 : (1 ≤ ((a :: rest).length : Int)) = True := eq_true (by simp only [List.length_cons]; omega)
      refine Ev.succ ?_
      simp only [impl_below.l0, h1, h2, h3, if_true]
      have hrd : rd (a :: rest) 0 = a := rfl
      have hdr : (a :: rest).drop 1 = rest := rfl
      rw [hrd, hdr]
      refine below_in l hl a c0 c1 c2 c3 c4 c5 _ l.length 0 b0 b1 b2 b3 b4 b5 rest (by omega) (by omega) fun e0 e1 e2 e3 e4 e5 q' he => ?_
      rw [List.drop_zero] at he
      have hp := popX_len2 l a ([b0, b1, b2, b3, b4, b5], rest)
      rw [he] at hp
      simp only at hp
      refine ih q' e0 e1 e2 e3 e4 e5 (by omega) ?_
      have h' : bfsX l n (popX l a ([b0, b1, b2, b3, b4, b5], rest)).2 (popX l a ([b0, b1, b2, b3, b4, b5], rest)).1 = some [r0, r1, r2, r3, r4, r5] := h
      rw [he] at h'
      exact h'
theorem six {r : List Bool} (h : r.length = 6) : ∃ r0 r1 r2 r3 r4 r5, r = [r0, r1, r2, r3, r4, r5] := by
  match r, h with
  | [a, b, c, d, e, f], _ => exact ⟨a, b, c, d, e, f, rfl⟩
theorem impl_below_ev (l : List S112) (hl : l.length ≤ 1048576) (a : Int) (ha : roleB a = true) : ∃ r0 r1 r2 r3 r4 r5, Ev (fun k => impl_below.f k l a) (r0, r1, r2, r3, r4, r5) ∧ bfsX l 8 [a] (List.replicate 6 false) = some [r0, r1, r2, r3, r4, r5] := by
  obtain ⟨r, e, hr, -⟩ := below_spec l a ha 8 (by omega)
  obtain ⟨r0, r1, r2, r3, r4, r5, rfl⟩ := six hr
  exact ⟨r0, r1, r2, r3, r4, r5, below_out l hl _ _ _ _ _ _ _ _ _ _ _ _ 8 [a] _ _ _ _ _ _ (by simp) e, e⟩

-- impl_ArePairs
theorem impl_ArePairs_ev (l : List S112) (h : l.length ≤ 1048576) : Ev (fun k => impl_ArePairs.f k l) (pairsB l) := by
  have hb := fun r hr => below_spec l r hr 8 (by omega)
  have e0 : (l.all (fun x => roleB x.f0 && (roleB x.f1 && !mkR ((bfsX l 8 [x.f0] (List.replicate 6 false)).getD []) x.f0)) && decide ((l.length : Int) ≤ 10)) = pairsB l := by
    rw [pairs_alike l]
    · rfl
    intro x
    simp only [Bool.and_eq_true, Bool.not_eq_true']
    constructor
    · rintro ⟨h1, h2, h3⟩
      obtain ⟨m, e, _, hm⟩ := hb x.f0 h1
      rw [e, Option.getD_some] at h3
      exact ⟨h1, h2, fun hc => by rw [(hm _ h1).2 hc] at h3; cases h3⟩
    · rintro ⟨h1, h2, h3⟩
      obtain ⟨m, e, _, hm⟩ := hb x.f0 h1
      rw [e, Option.getD_some]
      refine ⟨h1, h2, ?_⟩
      cases hc : mkR m x.f0 with
      | false => rfl
      | true => exact absurd ((hm _ h1).1 hc) h3
  rw [← e0]
  unfold impl_ArePairs.f
  have key : ∀ (d i : Nat), i + d = l.length → Ev (fun k => impl_ArePairs.l0 k l l (l.length : Int) (i : Int)) ((l.drop i).all (fun x => roleB x.f0 && (roleB x.f1 && !mkR ((bfsX l 8 [x.f0] (List.replicate 6 false)).getD []) x.f0)) && decide ((l.length : Int) ≤ 10)) := by
    intro d
    induction d with
    | zero =>
      intro i hi
      obtain rfl : i = l.length := by omega
      refine Ev.succ ?_
      simp only [impl_ArePairs.l0, Int.lt_irrefl, if_false, List.drop_length, List.all_nil, Bool.true_and]
      exact Ev.now _
    | succ d ih =>
      intro i hi
      have hil : i < l.length := by omega
      obtain ⟨x, hx⟩ := getAt (l := l) (i := i) hil
      have hd : l.drop i = x :: l.drop (i + 1) := by
        rw [List.drop_eq_getElem_cons hil]
        rw [List.getElem?_eq_getElem hil] at hx
        rw [Option.some.inj hx]
      have h1 : ((i : Int) < (l.length : Int)) = True := eq_true (by omega)
      have h2 : (0 ≤ (i : Int)) = True := eq_true (by omega)
      have ih := ih (i + 1) (by omega)
      rw [hd, List.all_cons]
      refine Ev.succ ?_
      simp only [impl_ArePairs.l0, h1, h2, if_true, rd_at_T112 hx, wr1 hil (by omega), isRole_role, Option.bind_some]
      cases q1 : roleB x.f0 with
      | false => simp only [Bool.false_eq_true, if_false, Bool.false_and]; exact Ev.now _
      | true =>
        cases q2 : roleB x.f1 with
        | false => simp only [Bool.false_eq_true, if_false, if_true, Bool.false_and, Bool.true_and]; exact Ev.now _
        | true =>
          obtain ⟨r0, r1, r2, r3, r4, r5, ev, eb⟩ := impl_below_ev l h x.f0 q1
          simp only [if_true, Bool.true_and, eb, Option.getD_some]
          refine Ev.bind ev ?_
          have hr' := roleB_iff.1 q1
          have hc : x.f0 = 0 ∨ x.f0 = 1 ∨ x.f0 = 2 ∨ x.f0 = 3 ∨ x.f0 = 4 ∨ x.f0 = 5 := by omega
          have fin : ∀ (b : Bool), mkR [r0, r1, r2, r3, r4, r5] x.f0 = b → Ev (fun k => if b = true then some false else impl_ArePairs.l0 k l l (l.length : Int) ((i + 1 : Nat) : Int)) ((!mkR [r0, r1, r2, r3, r4, r5] x.f0 && (l.drop (i + 1)).all (fun x => roleB x.f0 && (roleB x.f1 && !mkR ((bfsX l 8 [x.f0] (List.replicate 6 false)).getD []) x.f0))) && decide ((l.length : Int) ≤ 10)) := by
            intro b hb
            rw [hb]
            cases b with
            | true => simp only [if_true, Bool.not_true, Bool.false_and]; exact Ev.now _
            | false => simp only [Bool.false_eq_true, if_false, Bool.not_false, Bool.true_and]; exact ih
          rcases hc with e | e | e | e | e | e <;> simp only [e, if_true, Int.reduceEq, if_false] <;> (rw [e] at fin) <;> exact fin _ rfl
  have := key l.length 0 (by omega)
  rwa [List.drop_zero] at this

-- impl_SizeOf
theorem impl_SizeOf_evN (N : Nat) : ∀ x : S108, n108 x ≤ N → N ≤ 1048576 → Ev (fun k => impl_SizeOf.f k x.f0 x.f1 x.f2 x.f3) (1 + (n108 x : Int)) := by
  induction N using Nat.strongRecOn with
  | _ N ih =>
  intro x hx hN
  rw [n108_f] at hx ⊢
  have key : ∀ (d i : Nat) (s : Int), x.f3.length - i = d → i ≤ x.f3.length → 0 ≤ s → s + (((x.f3.drop i).length + ((x.f3.drop i).map n108).sum : Nat) : Int) ≤ 2000000 → Ev (fun k => impl_SizeOf.l0 k s x.f3 (x.f3.length : Int) (i : Int)) (s + (((x.f3.drop i).length + ((x.f3.drop i).map n108).sum : Nat) : Int)) := by
    intro d
    induction d with
    | zero =>
      intro i s hd hi h0 hs
      obtain rfl : i = x.f3.length := by omega
      refine Ev.succ ?_
      simp only [impl_SizeOf.l0, Int.lt_irrefl, if_false, List.drop_length, List.length_nil, List.map_nil, List.sum_nil]
      exact Ev.eqv (by omega) (Ev.now _)
    | succ d ih2 =>
      intro i s hd hi h0 hs
      have hi' : i < x.f3.length := by omega
      have hy : x.f3[i]? = some x.f3[i] := List.getElem?_eq_getElem hi'
      have hn := le_sum n108 hy
      rw [List.drop_eq_getElem_cons hi'] at hs ⊢
      simp only [List.length_cons, List.map_cons, List.sum_cons] at hs ⊢
      generalize x.f3[i] = y at hy hn hs ⊢
      have e := ih (n108 y) (by omega) y (Nat.le_refl _) (by omega)
      have h1 : ((i : Int) < (x.f3.length : Int)) = True := eq_true (by omega)
      have h2 : (0 ≤ (i : Int)) = True := eq_true (by omega)
      refine Ev.succ ?_
      simp only [impl_SizeOf.l0, h1, h2, if_true, rd_at_T108 hy, wr1 hi' (by omega)]
      refine Ev.bind e ?_
      rw [wr (show (-9223372036854775808 : Int) ≤ s + (1 + (n108 y : Int)) by omega) (by omega)]
      exact Ev.eqv (by omega) (ih2 (i + 1) (s + (1 + (n108 y : Int))) (by omega) (by omega) (by omega) (by omega))
  refine Ev.succ ?_
  simp only [impl_SizeOf.f]
  exact Ev.eqv (by rw [List.drop_zero]) (key x.f3.length 0 1 (by omega) (by omega) (by omega) (by rw [List.drop_zero]; omega))
theorem impl_SizeOf_ev (x : S108) (h : n108 x ≤ 1048576) : Ev (fun k => impl_SizeOf.f k x.f0 x.f1 x.f2 x.f3) (1 + (n108 x : Int)) := impl_SizeOf_evN _ x (Nat.le_refl _) h

-- impl_ArityOf
-- told elsewhere

-- impl_isNode
-- told elsewhere

-- impl_areNodes
-- told elsewhere

-- impl_IsCond
theorem impl_IsCond_ev (x : S108) (h : n108 x ≤ 1048576) : Ev (fun k => impl_IsCond.f k x.f0 x.f1 x.f2 x.f3) (condB x) := by
  have hv := (valid_evN _ x (Nat.le_refl _) h).2
  unfold impl_IsCond.f condB
  refine Ev.bind (impl_SizeOf_ev x h) ?_
  by_cases c : 1 + (n108 x : Int) ≤ 15
  · simp only [if_pos c, decide_eq_true c, Bool.true_and]
    exact Ev.bind hv (Ev.now _)
  · simp only [if_neg c, decide_eq_false c, Bool.false_and]
    exact Ev.now _

-- impl_IsName
theorem impl_IsName_eq (a : Int) : impl_IsName.f a = some (nameB a) := by
  unfold impl_IsName.f
  rw [impl_InRange_eq]; rfl

-- impl_KindOf
theorem impl_KindOf_eq (a : Int) : impl_KindOf.f a = some (if nameB a = true then a / 10 else 0) := by
  unfold impl_KindOf.f
  rw [impl_IsName_eq, Option.bind_some]
  cases h : nameB a with
  | true => simp only [if_true, name_div h]
  | false => rfl

-- impl_HasKind
theorem impl_HasKind_eq (a b : Int) : impl_HasKind.f a b = some (kindB a b) := by
  unfold impl_HasKind.f kindB
  rw [impl_IsName_eq, impl_KindOf_eq, Option.bind_some]
  cases h : nameB a with
  | true => simp only [if_true, Option.bind_some, Bool.true_and]; rfl
  | false => rfl

-- impl_IsRule
theorem impl_IsRule_ev (r : S110) (h : n110 r ≤ 1048576) : Ev (fun k => impl_IsRule.f k r.f0 r.f1 r.f2 r.f3.f0 r.f3.f1 r.f3.f2 r.f3.f3) (ruleB r) := by
  have hc := impl_IsCond_ev r.f3 (by have := rule_n r; omega)
  unfold impl_IsRule.f ruleB
  simp only [impl_InRange_eq, impl_HasKind_eq, Option.bind_some]
  refine Ev.bifT fun _ => Ev.bifT fun _ => ?_
  by_cases c : r.f2 = -1
  · simp only [if_pos c, beq_iff_eq.2 c, Bool.true_or, Bool.true_and]
    exact Ev.bind hc (Ev.now _)
  · simp only [if_neg c, beq_eq_false_iff_ne.2 c, Bool.false_or]
    exact Ev.bifT fun _ => Ev.bind hc (Ev.now _)

-- impl_IsPolicy
theorem impl_IsPolicy_ev (p : S38) (h : n38 p ≤ 1048576) : Ev (fun k => impl_IsPolicy.f k p.f0 p.f1) (policyB p) := by
  unfold n38 at h
  unfold impl_IsPolicy.f policyB
  simp only [impl_InRange_eq, Option.bind_some]
  have hI : Ev (fun k => slices_IndexFunc110_91.f k p.f1) (idxV (fun x => !ruleB x) p.f1 0) := by
    unfold slices_IndexFunc110_91.f
    refine idx_ev (fun k i => slices_IndexFunc110_91.l0 k p.f1 (p.f1.length : Int) i) (fun x => !ruleB x) p.f1 0 p.f1.length (by omega) ?_ ?_
    · refine Ev.succ ?_
      simp only [slices_IndexFunc110_91.l0, Int.lt_irrefl, if_false]
      exact Ev.now _
    · intro j x r _ hx
      rw [Nat.sub_zero] at hx
      have hj := lt_of_get hx
      have hn := le_sum n110 hx
      have h1 : ((j : Int) < (p.f1.length : Int)) = True := eq_true (by omega)
      have h2 : (0 ≤ (j : Int)) = True := eq_true (by omega)
      have hc : Ev (fun k => cl91.f k x.f0 x.f1 x.f2 x.f3.f0 x.f3.f1 x.f3.f2 x.f3.f3) (!ruleB x) := by
        unfold cl91.f
        exact Ev.bind (impl_IsRule_ev _ (by omega)) (Ev.now _)
      constructor
      · intro hq
        refine Ev.succ ?_
        simp only [slices_IndexFunc110_91.l0, h1, h2, if_true, rd_at_T110 hx]
        refine Ev.bind hc ?_
        simp only [hq, if_true]
        exact Ev.now _
      · intro hq he
        refine Ev.succ ?_
        simp only [slices_IndexFunc110_91.l0, h1, h2, if_true, rd_at_T110 hx, wr1 hj (by omega)]
        refine Ev.bind hc ?_
        simp only [hq, Bool.false_eq_true, if_false]
        exact he
  refine Ev.bifT fun _ => Ev.dand fun _ => ?_
  have hC : Ev (fun k => slices_ContainsFunc90_91.f k p.f1) (p.f1.any (fun x => !ruleB x)) := by
    unfold slices_ContainsFunc90_91.f
    exact Ev.bind hI (Ev.eqv (idxV_anyI (fun x => !ruleB x) p.f1 0 (by omega)) (Ev.now _))
  refine Ev.bind hC ?_
  refine Ev.eqv ?_ (Ev.now _)
  simp [List.any_eq_not_all_not]

-- impl_IsEpoch
theorem impl_IsEpoch_ev (e : S40) (h : n40 e ≤ 1048576) : Ev (fun k => impl_IsEpoch.f k e.f0 e.f1 e.f2 e.f3.f0 e.f3.f1) (epochB e) := by
  unfold n40 at h
  unfold impl_IsEpoch.f epochB
  simp only [impl_InRange_eq, impl_IsTime_eq, Option.bind_some]
  exact Ev.bifT fun _ => Ev.bifT fun _ => Ev.band (impl_ArePairs_ev e.f2 (by omega)) fun _ => Ev.band (impl_IsPolicy_ev e.f3 (by omega)) fun _ => Ev.now _

-- impl_isClaim
theorem impl_isClaim_eq (x : S83) : impl_isClaim.f x.f0 x.f1 x.f2 x.f3 x.f4 x.f5 = some (claimB x) := by
  unfold impl_isClaim.f claimB
  simp only [impl_HasKind_eq, impl_InRange_eq, Option.bind_some, ite_and]
  (repeat' split) <;> rfl

-- impl_IsFact
theorem impl_IsFact_eq (x : S83) : impl_IsFact.f x.f0 x.f1 x.f2 x.f3 x.f4 x.f5 = some (factB x) := by
  unfold impl_IsFact.f factB
  simp only [impl_isClaim_eq, impl_InRange_eq, impl_IsTime_eq, Option.bind_some, ite_and]

-- impl_compareClaims
def cmp4 (a b c d a' b' c' d' : Int) : Int := if a < a' then -1 else if a > a' then 1 else if b < b' then -1 else if b > b' then 1 else if c < c' then -1 else if c > c' then 1 else if d < d' then -1 else if d > d' then 1 else 0
theorem impl_compareClaims_ev (a b c d e f a' b' c' d' e' f' : Int) : Ev (fun k => impl_compareClaims.f k a b c d e f a' b' c' d' e' f') (cmp4 a b c d a' b' c' d') := by
  have st : ∀ {g h : Nat → Option Int} {x y r : Int}, Ev g r → (∀ k, h (k + 1) = if x < y then some (-1) else if x > y then some 1 else g k) → Ev h (if x < y then -1 else if x > y then 1 else r) := by
    intro g h x y r hg e
    refine Ev.succ (Ev.eqv rfl ?_)
    simp only [e]
    refine Ev.ite (fun c1 => ?_) (fun c1 => Ev.ite (fun c2 => ?_) (fun c2 => ?_))
    · rw [if_pos c1]; exact Ev.now _
    · rw [if_neg c1, if_pos c2]; exact Ev.now _
    · rw [if_neg c1, if_neg c2]; exact hg
  have w0 : wrap64 1 = 1 := wr (by omega) (by omega)
  have w1 : wrap64 2 = 2 := wr (by omega) (by omega)
  have w2 : wrap64 3 = 3 := wr (by omega) (by omega)
  have w3 : wrap64 4 = 4 := wr (by omega) (by omega)
  have h4 : Ev (fun k => impl_compareClaims.l0 k a b c d a' b' c' d' 4) 0 := by
    refine Ev.succ ?_
    simp only [impl_compareClaims.l0, Int.lt_irrefl, if_false]
    exact Ev.now _
  have h3 := st (h := fun k => impl_compareClaims.l0 k a b c d a' b' c' d' 3) (x := d) (y := d') h4 (fun k => by simp [impl_compareClaims.l0, w3])
  have h2 := st (h := fun k => impl_compareClaims.l0 k a b c d a' b' c' d' 2) (x := c) (y := c') h3 (fun k => by simp [impl_compareClaims.l0, w2])
  have h1 := st (h := fun k => impl_compareClaims.l0 k a b c d a' b' c' d' 1) (x := b) (y := b') h2 (fun k => by simp [impl_compareClaims.l0, w1])
  exact st (h := fun k => impl_compareClaims.l0 k a b c d a' b' c' d' 0) (x := a) (y := a') h1 (fun k => by simp [impl_compareClaims.l0, w0])

-- impl_FactBefore
theorem impl_FactBefore_ev (y x : S83) : Ev (fun k => impl_FactBefore.f k y.f0 y.f1 y.f2 y.f3 y.f4 y.f5 x.f0 x.f1 x.f2 x.f3 x.f4 x.f5) (factQ y x) := by
  unfold impl_FactBefore.f
  refine Ev.bind (impl_compareClaims_ev _ _ _ _ _ _ _ _ _ _ _ _) (Ev.eqv ?_ (Ev.now _))
  unfold cmp4 factQ
  rw [Bool.eq_iff_iff]
  (repeat' split) <;> simp only [decide_eq_true_eq] <;> omega

-- impl_IsStore
theorem impl_IsStore_ev (l : List S83) (h : l.length ≤ 1048576) : Ev (fun k => impl_IsStore.f k l) (storeB l) := by
  unfold impl_IsStore.f storeB
  refine ev_adj l factB factQ _ (fun k i => impl_IsStore.l0 k l l (l.length : Int) i) ?_ ?_ ?_
  · refine Ev.succ ?_
    simp only [impl_IsStore.l0, Int.lt_irrefl, if_false]
    exact Ev.now _
  · intro x r hx hr
    have hi := lt_of_get hx
    have h1 : ((0 : Int) < (l.length : Int)) = True := eq_true (by omega)
    have e := rd_at_T83 hx
    have e2 := wr1 hi (show l.length ≤ 9223372036854775807 by omega)
    simp only [Int.ofNat_zero, Int.natCast_zero] at e e2
    refine Ev.succ ?_
    simp only [impl_IsStore.l0, h1, if_true, Int.le_refl, gt_iff_lt, Int.lt_irrefl, if_false, e, e2, impl_IsFact_eq, Option.bind_some]
    exact Ev.bifT fun _ => hr
  · intro i y x r hy hx hr
    have hi := lt_of_get hx
    have h1 : (((i + 1 : Nat) : Int) < (l.length : Int)) = True := eq_true (by omega)
    have h2 : (0 ≤ ((i + 1 : Nat) : Int)) = True := eq_true (by omega)
    have h3 : (((i + 1 : Nat) : Int) > 0) = True := eq_true (by omega)
    have h4 : (0 ≤ (i : Int)) = True := eq_true (by omega)
    have h5 : ((i : Int) < (l.length : Int)) = True := eq_true (by omega)
    refine Ev.succ ?_
    simp only [impl_IsStore.l0, h1, h2, h3, h4, h5, if_true, rd_at_T83 hx, rd_at_T83 hy, wr1 hi (show l.length ≤ 9223372036854775807 by omega), wrp hi (show l.length ≤ 9223372036854775807 by omega), impl_IsFact_eq, Option.bind_some]
    exact Ev.bifT fun _ => Ev.band (impl_FactBefore_ev y x) fun _ => hr

-- impl_AreRevoked
theorem impl_AreRevoked_ev (l : List S86) (h : l.length ≤ 1048576) : Ev (fun k => impl_AreRevoked.f k l) (revB l) := by
  unfold impl_AreRevoked.f revB
  refine ev_adj l revP revQ _ (fun k i => impl_AreRevoked.l0 k l l (l.length : Int) i) ?_ ?_ ?_
  · refine Ev.succ ?_
    simp only [impl_AreRevoked.l0, Int.lt_irrefl, if_false]
    exact Ev.now _
  · intro x r hx hr
    have hi := lt_of_get hx
    have h1 : ((0 : Int) < (l.length : Int)) = True := eq_true (by omega)
    have e := rd_at_T86 hx
    have e2 := wr1 hi (show l.length ≤ 9223372036854775807 by omega)
    simp only [Int.ofNat_zero, Int.natCast_zero] at e e2
    refine Ev.succ ?_
    simp only [impl_AreRevoked.l0, h1, if_true, Int.le_refl, gt_iff_lt, Int.lt_irrefl, if_false, e, e2, impl_InRange_eq, impl_IsTime_eq, Option.bind_some]
    exact revP_step fun _ => hr
  · intro i y x r hy hx hr
    have hi := lt_of_get hx
    have h1 : (((i + 1 : Nat) : Int) < (l.length : Int)) = True := eq_true (by omega)
    have h2 : (0 ≤ ((i + 1 : Nat) : Int)) = True := eq_true (by omega)
    have h3 : (((i + 1 : Nat) : Int) > 0) = True := eq_true (by omega)
    have h4 : (0 ≤ (i : Int)) = True := eq_true (by omega)
    have h5 : ((i : Int) < (l.length : Int)) = True := eq_true (by omega)
    refine Ev.succ ?_
    simp only [impl_AreRevoked.l0, h1, h2, h3, h4, h5, if_true, rd_at_T86 hx, rd_at_T86 hy, wr1 hi (show l.length ≤ 9223372036854775807 by omega), wrp hi (show l.length ≤ 9223372036854775807 by omega), impl_InRange_eq, impl_IsTime_eq, Option.bind_some]
    exact revP_step fun _ => Ev.dnot fun _ => hr

-- impl_IsRequest
theorem impl_IsRequest_eq (a b c d e t : Int) : impl_IsRequest.f a b c d e t = some (reqB a b c d e t) := by
  unfold impl_IsRequest.f reqB
  simp only [impl_HasKind_eq, impl_IsTime_eq, impl_InRange_eq, Option.bind_some]
  cases kindB a 1 <;> cases kindB b 2 <;> cases kindB c 3 <;> cases kindB e 4 <;> cases inB d 0 5 <;> simp

-- impl_IsFor
theorem impl_IsFor_eq (x : S110) (a o : Int) : impl_IsFor.f x.f0 x.f1 x.f2 x.f3.f0 x.f3.f1 x.f3.f2 x.f3.f3 a o = some (forB x a o) := by
  unfold impl_IsFor.f forB
  by_cases c1 : x.f1 = -1
  · rw [if_pos c1]
    by_cases c2 : x.f2 = -1
    · rw [if_pos c2]; simp [c1, c2]
    · rw [if_neg c2]; simp [c1, c2, Bool.beq_eq_decide_eq]
  · rw [if_neg c1]
    by_cases c3 : x.f1 = a
    · rw [if_pos c3]
      by_cases c2 : x.f2 = -1
      · rw [if_pos c2]; simp [c3, c2]
      · rw [if_neg c2]; simp [c3, c2, Bool.beq_eq_decide_eq]
    · rw [if_neg c3]; simp [c1, c3]

-- impl_IsWithin
def withB (a b c : Int) : Bool := timeB a && (timeB b && (timeB c && inB c a b))
theorem impl_IsWithin_eq (a b c : Int) : impl_IsWithin.f a b c = some (withB a b c) := by
  unfold impl_IsWithin.f withB
  simp only [impl_IsTime_eq, impl_InRange_eq, Option.bind_some]
  cases timeB a <;> cases timeB b <;> cases timeB c <;> rfl

-- impl_AgeOf
theorem impl_AgeOf_eq (a b : Int) : impl_AgeOf.f a b = some (ageV a b) := by
  unfold impl_AgeOf.f ageV
  simp only [impl_IsTime_eq, Option.bind_some]
  by_cases c1 : timeB a = true
  · by_cases c2 : timeB b = true
    · have h1 := timeAt c1
      have h2 := timeAt c2
      by_cases c3 : a > b
      · simp only [if_pos c1, if_pos c2, if_pos c3, if_neg (show ¬ (timeB a = true ∧ timeB b = true ∧ a ≤ b) from fun h => by omega)]
      · simp only [if_pos c1, if_pos c2, if_neg c3, if_pos (show timeB a = true ∧ timeB b = true ∧ a ≤ b from ⟨c1, c2, by omega⟩), wr (x := b - a) (by omega) (by omega)]
    · simp only [if_pos c1, if_neg c2, if_neg (show ¬ (timeB a = true ∧ timeB b = true ∧ a ≤ b) from fun h => c2 h.2.1)]
  · simp only [if_neg c1, if_neg (show ¬ (timeB a = true ∧ timeB b = true ∧ a ≤ b) from fun h => c1 h.1)]

-- impl_HoldsAt
theorem withB_in (a b c : Int) : withB a b c = withinB a b c := rfl
theorem impl_HoldsAt_eq (x : S83) (t a : Int) : impl_HoldsAt.f x.f0 x.f1 x.f2 x.f3 x.f4 x.f5 t a = some (holdsB x t a) := by
  unfold impl_HoldsAt.f holdsB
  simp only [impl_IsFact_eq, impl_IsWithin_eq, withB_in, impl_AgeOf_eq, Option.bind_some]
  cases factB x
  · simp
  · cases h : withinB x.f4 x.f5 t
    · simp
    · have h2 := within_iff h
      simp only [if_true, Bool.true_and]
      rw [fresh_age h2.1 h2.2.2.1 h2.2.2.2.1]

-- impl_RolesUnder
theorem roles_step (a : Int) (r0 r1 r2 r3 r4 r5 : Bool) (k i : Nat) (hi : i < 6) (o : List Int) (ho : o.length ≤ 6) : impl_RolesUnder.l0 (k + 1) a o r0 r1 r2 r3 r4 r5 (i : Int) = impl_RolesUnder.l0 k a (o ++ (if mkR [r0, r1, r2, r3, r4, r5] (i : Int) = true ∨ (i : Int) = a then [(i : Int)] else [])) r0 r1 r2 r3 r4 r5 ((i + 1 : Nat) : Int) := by
  have h1 : (o.length < 17592186044416) = True := eq_true (by omega)
  have hw : wrap64 ((i : Int) + 1) = ((i + 1 : Nat) : Int) := wr1 hi (by omega)
  have hr : ∀ (r : Bool) (p q : Option (List Int)), mkR [r0, r1, r2, r3, r4, r5] (i : Int) = r → (if r = true then p else if (i : Int) = a then p else q) = if mkR [r0, r1, r2, r3, r4, r5] (i : Int) = true ∨ (i : Int) = a then p else q := by
    intro r p q e
    rw [e]
    cases r <;> simp
  have hg : ∀ (c : Prop) [Decidable c], impl_RolesUnder.l0 k a (o ++ (if c then [(i : Int)] else [])) r0 r1 r2 r3 r4 r5 ((i + 1 : Nat) : Int) = if c then impl_RolesUnder.l0 k a (o ++ [(i : Int)]) r0 r1 r2 r3 r4 r5 ((i + 1 : Nat) : Int) else impl_RolesUnder.l0 k a o r0 r1 r2 r3 r4 r5 ((i + 1 : Nat) : Int) := by
    intro c _
    by_cases hc : c
    · rw [if_pos hc, if_pos hc]
    · rw [if_neg hc, if_neg hc, List.append_nil]
  rw [hg]
  have h6 : ((i : Int) < 6) = True := eq_true (by omega)
  simp only [impl_RolesUnder.l0, h1, hw, h6, if_true]
  rcases (by omega : i = 0 ∨ i = 1 ∨ i = 2 ∨ i = 3 ∨ i = 4 ∨ i = 5) with rfl | rfl | rfl | rfl | rfl | rfl
  · rw [if_pos (by decide)]; exact hr r0 _ _ rfl
  · rw [if_neg (by decide), if_pos (by decide)]; exact hr r1 _ _ rfl
  · rw [if_neg (by decide), if_neg (by decide), if_pos (by decide)]; exact hr r2 _ _ rfl
  · rw [if_neg (by decide), if_neg (by decide), if_neg (by decide), if_pos (by decide)]; exact hr r3 _ _ rfl
  · rw [if_neg (by decide), if_neg (by decide), if_neg (by decide), if_neg (by decide), if_pos (by decide)]; exact hr r4 _ _ rfl
  · rw [if_neg (by decide), if_neg (by decide), if_neg (by decide), if_neg (by decide), if_neg (by decide), if_pos (by decide)]; exact hr r5 _ _ rfl
theorem impl_RolesUnder_ev (l : List S112) (role : Int) (hl : l.length ≤ 1048576) : Ev (fun k => impl_RolesUnder.f k l role) (rolesV l role) := by
  unfold impl_RolesUnder.f rolesV
  rw [isRole_role, roleB_in]
  cases c : roleB role with
  | false => simp only [Option.bind_some, Bool.false_eq_true, if_false]; exact Ev.now _
  | true =>
    simp only [Option.bind_some, if_true]
    obtain ⟨r0, r1, r2, r3, r4, r5, e, eb⟩ := impl_below_ev l hl role c
    refine Ev.bind e ?_
    obtain ⟨r, h1, h2, h3⟩ := below_spec l role c 8 (by omega)
    rw [eb] at h1
    obtain rfl := Option.some.inj h1
    have hq : ∀ q, roleB q = true → ((mkR [r0, r1, r2, r3, r4, r5] q = true ∨ q = role) ↔ mkR (closX l role) q = true) := fun q hq => by
      rw [h3 q hq, closX_iff l c hq, Rch_iff]
      constructor
      · rintro (h | h)
        · exact Or.inr h
        · exact Or.inl h.symm
      · rintro (h | h)
        · exact Or.inr h.symm
        · exact Or.inl h
    have key : ∀ (d i : Nat) (o : List Int), i + d = 6 → o.length ≤ i → Ev (fun k => impl_RolesUnder.l0 k role o r0 r1 r2 r3 r4 r5 (i : Int)) (o ++ (([0, 1, 2, 3, 4, 5] : List Int).drop i).filter fun r => mkR (closX l role) r) := by
      intro d
      induction d with
      | zero =>
        intro i o hi ho
        obtain rfl : i = 6 := by omega
        refine Ev.succ ?_
        simp only [impl_RolesUnder.l0]
        rw [show (([0, 1, 2, 3, 4, 5] : List Int).drop 6) = [] from rfl, List.filter_nil, List.append_nil]
        exact Ev.neg (by omega) (Ev.now _)
      | succ d ih =>
        intro i o hi ho
        refine Ev.next (fun k => roles_step role r0 r1 r2 r3 r4 r5 k i (by omega) o (by omega)) ?_
        have hr := hq (i : Int) (by rw [roleB_iff]; omega)
        have hd : (([0, 1, 2, 3, 4, 5] : List Int).drop i) = (i : Int) :: ([0, 1, 2, 3, 4, 5] : List Int).drop (i + 1) := by
          rcases (by omega : i = 0 ∨ i = 1 ∨ i = 2 ∨ i = 3 ∨ i = 4 ∨ i = 5) with rfl | rfl | rfl | rfl | rfl | rfl <;> rfl
        rw [hd]
        by_cases cc : mkR [r0, r1, r2, r3, r4, r5] (i : Int) = true ∨ (i : Int) = role
        · rw [if_pos cc, List.filter_cons_of_pos (by exact hr.1 cc)]
          refine Ev.eqv ?_ (ih (i + 1) (o ++ [(i : Int)]) (by omega) (by rw [List.length_append, List.length_singleton]; omega))
          rw [List.append_assoc]; rfl
        · rw [if_neg cc, List.append_nil, List.filter_cons_of_neg (by intro hc; exact cc (hr.2 hc))]
          exact ih (i + 1) o (by omega) (by omega)
    exact Ev.eqv (by rw [List.drop_zero, List.nil_append]; rfl) (key 6 0 [] rfl (by simp))

-- slices_Sort_int_int
theorem slices_Sort_int_int_eq (l : List Int) (h : l.length < 2199023255552) : slices_Sort_int_int.f l = some (l.mergeSort fun x y => decide (x ≤ y)) := by
  unfold slices_Sort_int_int.f
  rw [if_pos h]

-- slices_Compact_int_int
theorem slices_Compact_int_int_eq (l : List Int) (h : l.length < 2199023255552) : slices_Compact_int_int.f l = some (Go.Lib.compact l) := by
  unfold slices_Compact_int_int.f
  rw [if_pos h]

-- impl_RolesOf
theorem mem_compactUpTo (d : Array Int) (x : Int) : ∀ m, x ∈ Go.Lib.compactUpTo d m ↔ ∃ j, j < m ∧ d[j]! = x
  | 0 => by simp [Go.Lib.compactUpTo]
  | m + 1 => by
    rw [Go.Lib.compactUpTo_succ, List.mem_append, mem_compactUpTo d x m]
    constructor
    · rintro (⟨j, hj, e⟩ | h)
      · exact ⟨j, by omega, e⟩
      · split at h
        · exact ⟨m, by omega, (List.mem_singleton.1 h).symm⟩
        · simp at h
    · rintro ⟨j, hj, e⟩
      by_cases hm : j = m
      · subst hm
        by_cases hk : Go.Lib.keeps d j = true
        · rw [if_pos hk]; exact .inr (by simp [e])
        · left
          unfold Go.Lib.keeps at hk
          have h0 : j ≠ 0 ∧ d[j]! = d[j - 1]! := by simpa using hk
          exact ⟨j - 1, by omega, by rw [← h0.2, e]⟩
      · exact .inl ⟨j, by omega, e⟩
theorem asc_compactUpTo (d : Array Int) (n : Nat) (hs : ∀ i j, i ≤ j → j < n → d[i]! ≤ d[j]!) : ∀ m, m ≤ n → (Go.Lib.compactUpTo d m).Pairwise (· < ·)
  | 0, _ => by simp [Go.Lib.compactUpTo]
  | m + 1, hm => by
    rw [Go.Lib.compactUpTo_succ, List.pairwise_append]
    refine ⟨asc_compactUpTo d n hs m (by omega), by split <;> simp, ?_⟩
    intro a ha b hb
    split at hb
    case isFalse => simp at hb
    case isTrue hk =>
    obtain rfl := List.mem_singleton.1 hb
    obtain ⟨j, hj, rfl⟩ := (mem_compactUpTo d a m).1 ha
    unfold Go.Lib.keeps at hk
    have h0 : m = 0 ∨ d[m]! ≠ d[m - 1]! := of_decide_eq_true hk
    have h1 := hs j (m - 1) (by omega) (by omega)
    have h2 := hs (m - 1) m (by omega) (by omega)
    rcases h0 with h0 | h0
    · omega
    · omega
theorem asc_ext : ∀ (a b : List Int), a.Pairwise (· < ·) → b.Pairwise (· < ·) → (∀ x, x ∈ a ↔ x ∈ b) → a = b
  | [], [], _, _, _ => rfl
  | [], y :: b, _, _, h => by have := (h y).2 (by simp); simp at this
  | x :: a, [], _, _, h => by have := (h x).1 (by simp); simp at this
  | x :: a, y :: b, ha, hb, h => by
    rw [List.pairwise_cons] at ha hb
    have hxy : x = y := by
      have h1 := (h x).1 (by simp)
      have h2 := (h y).2 (by simp)
      rcases List.mem_cons.1 h1 with e | e
      · exact e
      · rcases List.mem_cons.1 h2 with e2 | e2
        · exact e2.symm
        · have := hb.1 x e; have := ha.1 y e2; omega
    subst hxy
    rw [asc_ext a b ha.2 hb.2 (fun z => ⟨fun hz => ?_, fun hz => ?_⟩)]
    · rcases List.mem_cons.1 ((h z).1 (by simp [hz])) with e | e
      · have := ha.1 z hz; omega
      · exact e
    · rcases List.mem_cons.1 ((h z).2 (by simp [hz])) with e | e
      · have := hb.1 z hz; omega
      · exact e
theorem asc_sorted (l : List Int) : (Go.Lib.compact (l.mergeSort fun x y => decide (x ≤ y))).Pairwise (· < ·) ∧ ∀ x, x ∈ Go.Lib.compact (l.mergeSort fun x y => decide (x ≤ y)) ↔ x ∈ l := by
  have hp : (l.mergeSort fun x y => decide (x ≤ y)).Pairwise fun x y => decide (x ≤ y) = true := List.pairwise_mergeSort (fun a b c h1 h2 => by simp at h1 h2 ⊢; omega) (fun a b => by simp; omega) l
  have hm : ∀ x, x ∈ (l.mergeSort fun x y => decide (x ≤ y)) ↔ x ∈ l := fun x => List.mem_mergeSort
  generalize (l.mergeSort fun x y => decide (x ≤ y)) = s at hp hm
  unfold Go.Lib.compact
  have hs : ∀ i j, i ≤ j → j < s.length → s.toArray[i]! ≤ s.toArray[j]! := by
    intro i j hij hj
    rw [getElem!_pos _ _ (by simp; omega), getElem!_pos _ _ (by simpa using hj)]
    rcases Nat.lt_or_eq_of_le hij with h | h
    · have := List.pairwise_iff_getElem.1 hp i j (by omega) hj h
      simpa using this
    · subst h; exact Int.le_refl _
  refine ⟨asc_compactUpTo _ s.length hs _ (Nat.le_refl _), fun x => ?_⟩
  rw [mem_compactUpTo, ← hm x]
  constructor
  · rintro ⟨j, hj, rfl⟩
    rw [getElem!_pos _ _ (by simpa using hj)]; simp
  · intro h
    obtain ⟨j, hj, rfl⟩ := List.getElem_of_mem h
    exact ⟨j, hj, by rw [getElem!_pos _ _ (by simpa using hj)]; simp⟩
/-- What is gathered, in the order of the facts. -/
def gathV (l : List S112) (p t g : Int) : List S83 → List Int
  | [] => []
  | x :: s => (if givesP p t g x = true then rolesV l x.f2 else []) ++ gathV l p t g s
theorem gath_has (l : List S112) (p r t g : Int) : ∀ s, hasI (gathV l p t g s) r = hasRB l s p r t g
  | [] => rfl
  | x :: s => by
    have ih := gath_has l p r t g s
    unfold hasI hasRB at *
    rw [gathV, List.any_append, List.any_cons, ih]
    cases givesP p t g x <;> simp [hasI]
theorem gath_len (l : List S112) (p t g : Int) : ∀ s : List S83, (gathV l p t g s).length ≤ 6 * s.length
  | [] => by simp [gathV]
  | x :: s => by
    have ih := gath_len l p t g s
    have := rolesV_len l x.f2
    rw [gathV, List.length_append, List.length_cons]
    split <;> simp <;> omega
theorem impl_RolesOf_ev (l : List S112) (s : List S83) (p t g : Int) (hl : l.length ≤ 1048576) (h : s.length ≤ 1048576) : ∃ v, Ev (fun k => impl_RolesOf.f k l s p t g) v ∧ v.length ≤ 6291456 ∧ ∀ r, hasI v r = hasRB l s p r t g := by
  have key : ∀ (d i : Nat) (out : List Int), s.length - i = d → i ≤ s.length → out.length + 6 * d ≤ 6291456 → Ev (fun k => impl_RolesOf.l0 k l p t g out s (s.length : Int) (i : Int)) (Go.Lib.compact ((out ++ gathV l p t g (s.drop i)).mergeSort fun x y => decide (x ≤ y))) := by
    intro d
    induction d with
    | zero =>
      intro i out hd hi ho
      obtain rfl : i = s.length := by omega
      refine Ev.succ ?_
      simp only [impl_RolesOf.l0, Int.lt_irrefl, if_false, List.drop_length, gathV, List.append_nil]
      rw [slices_Sort_int_int_eq out (by omega), Option.bind_some, slices_Compact_int_int_eq _ (by rw [List.length_mergeSort]; omega), Option.bind_some]
      exact Ev.now _
    | succ d ih =>
      intro i out hd hi ho
      have hi' : i < s.length := by omega
      have hx : s[i]? = some s[i] := List.getElem?_eq_getElem hi'
      rw [List.drop_eq_getElem_cons hi', gathV, ← List.append_assoc]
      generalize s[i] = x at hx ⊢
      have h1 : ((i : Int) < (s.length : Int)) = True := eq_true (by omega)
      have h2 : (0 ≤ (i : Int)) = True := eq_true (by omega)
      have hll := rolesV_len l x.f2
      have hno := ih (i + 1) out (by omega) (by omega) (by omega)
      have hyes := ih (i + 1) (out ++ rolesV l x.f2) (by omega) (by omega) (by rw [List.length_append]; omega)
      have h3 := wr1 hi' (show s.length ≤ 9223372036854775807 by omega)
      refine Ev.succ ?_
      simp only [impl_RolesOf.l0, h1, h2, if_true, rd_at_T83 hx, impl_HoldsAt_eq, Option.bind_some, h3]
      by_cases c0 : x.f0 = 1
      · by_cases c1 : x.f1 = p
        · cases c2 : holdsB x t g with
          | false =>
            have e : givesP p t g x = false := by simp [givesP, c2]
            simp only [if_pos c0, if_pos c1, Bool.false_eq_true, if_false, e, List.append_nil]
            exact hno
          | true =>
            have e : givesP p t g x = true := by simp [givesP, c0, c1, c2]
            simp only [if_pos c0, if_pos c1, e, if_true]
            refine Ev.bind (impl_RolesUnder_ev l x.f2 hl) ?_
            exact Ev.pos (by omega) hyes
        · have e : givesP p t g x = false := by simp [givesP, c1]
          simp only [if_pos c0, if_neg c1, Bool.false_eq_true, if_false, e, List.append_nil]
          exact hno
      · have e : givesP p t g x = false := by simp [givesP, c0]
        simp only [if_neg c0, Bool.false_eq_true, if_false, e, List.append_nil]
        exact hno
  refine ⟨_, key s.length 0 [] (by omega) (by omega) (by simp; omega), ?_, fun r => ?_⟩
  · have := gath_len l p t g s
    have h2 := Go.Lib.compact_length_le (([] ++ gathV l p t g (s.drop 0)).mergeSort fun x y => decide (x ≤ y))
    rw [List.length_mergeSort] at h2
    simp only [List.nil_append, List.drop_zero] at h2 ⊢
    omega
  · rw [← gath_has]
    simp only [List.nil_append, List.drop_zero]
    rw [Bool.eq_iff_iff, any_hasI, any_hasI]
    exact (asc_sorted _).2 r

-- slices_Index155
theorem slices_Index155_ev (l : List Int) (a : Int) (h : l.length ≤ 1073741824) : Ev (fun k => slices_Index155.f k l a) (idxV (fun x => decide (a = x)) l 0) := by
  unfold slices_Index155.f
  refine idx_ev (fun k i => slices_Index155.l0 k l a (l.length : Int) i) (fun x => decide (a = x)) l 0 l.length (by omega) ?_ ?_
  · refine Ev.succ ?_
    simp only [slices_Index155.l0, Int.lt_irrefl, if_false]
    exact Ev.now _
  · intro j x r _ hx
    rw [Nat.sub_zero] at hx
    have hj := lt_of_get hx
    have h1 : ((j : Int) < (l.length : Int)) = True := eq_true (by omega)
    have h2 : (0 ≤ (j : Int)) = True := eq_true (by omega)
    constructor
    · intro hp
      refine Ev.succ ?_
      simp only [slices_Index155.l0, h1, h2, if_true, rd_nat _ _ _ hx, of_decide_eq_true hp]
      exact Ev.now _
    · intro hp he
      refine Ev.succ ?_
      simp only [slices_Index155.l0, h1, h2, if_true, rd_nat _ _ _ hx, if_neg (of_decide_eq_false hp), wr1 hj (by omega)]
      exact he

-- slices_Contains147
theorem slices_Contains147_ev (l : List Int) (a : Int) (h : l.length ≤ 1073741824) : Ev (fun k => slices_Contains147.f k l a) (hasI l a) := by
  unfold slices_Contains147.f
  refine Ev.bind (slices_Index155_ev l a h) ?_
  exact Ev.eqv (idxV_anyI (fun x => decide (a = x)) l 0 (by omega)) (Ev.now _)

-- impl_HasRole
theorem impl_HasRole_ev (l : List S112) (s : List S83) (p r t g : Int) (hl : l.length ≤ 1048576) (h : s.length ≤ 1048576) : Ev (fun k => impl_HasRole.f k l s p r t g) (hasRB l s p r t g) := by
  obtain ⟨v, hE, hv, hh⟩ := impl_RolesOf_ev l s p t g hl h
  unfold impl_HasRole.f
  refine Ev.bind hE ?_
  rw [← hh r]
  exact Ev.bid (slices_Contains147_ev v r (by omega))

-- impl_FindFact
theorem impl_FindFact_ev (l : List S83) (a b c t g : Int) (h : l.length ≤ 1048576) : Ev (fun k => impl_FindFact.f k l a b c t g) (idxV (findP a b c t g) l 0) := by
  unfold impl_FindFact.f
  refine Ev.bind (a := idxV (findP a b c t g) l 0) ?_ (Ev.now _)
  unfold slices_IndexFunc149_150.f
  refine idx_ev (fun k i => slices_IndexFunc149_150.l0 k l a b c t g (l.length : Int) i) (findP a b c t g) l 0 l.length (by omega) ?_ ?_
  · refine Ev.succ ?_
    simp only [slices_IndexFunc149_150.l0, Int.lt_irrefl, if_false]
    exact Ev.now _
  · intro j x r _ hx
    rw [Nat.sub_zero] at hx
    have hj := lt_of_get hx
    have h1 : ((j : Int) < (l.length : Int)) = True := eq_true (by omega)
    have h2 : (0 ≤ (j : Int)) = True := eq_true (by omega)
    have hc : cl150.f x.f0 x.f1 x.f2 x.f3 x.f4 x.f5 a b c t g = some (findP a b c t g x) := by
      unfold cl150.f findP
      simp only [impl_HoldsAt_eq, Option.bind_some]
      by_cases c0 : x.f0 = a
      · by_cases c1 : x.f1 = b
        · by_cases c2 : x.f2 = c
          · rw [if_pos c0, if_pos c1, if_pos c2]; simp [c0, c1, c2]
          · rw [if_pos c0, if_pos c1, if_neg c2]; simp [c2]
        · rw [if_pos c0, if_neg c1]; simp [c1]
      · rw [if_neg c0]; simp [c0]
    constructor
    · intro hp
      refine Ev.succ ?_
      simp only [slices_IndexFunc149_150.l0, h1, h2, if_true, rd_at_T83 hx, hc, Option.bind_some, hp]
      exact Ev.now _
    · intro hp he
      refine Ev.succ ?_
      simp only [slices_IndexFunc149_150.l0, h1, h2, if_true, rd_at_T83 hx, hc, Option.bind_some, hp, Bool.false_eq_true, if_false, wr1 hj (by omega)]
      exact he

-- impl_BestValue
theorem impl_BestValue_ev (l : List S83) (a b t g : Int) (h : l.length ≤ 1048576) : Ev (fun k => impl_BestValue.f k l a b t g) (bestV a b t g l (-1)) := by
  have key : ∀ (d i : Nat) (m : Int), l.length - i = d → i ≤ l.length → Ev (fun k => impl_BestValue.l0 k a b t g m l (l.length : Int) (i : Int)) (bestV a b t g (l.drop i) m) := by
    intro d
    induction d with
    | zero =>
      intro i m hd hi
      obtain rfl : i = l.length := by omega
      refine Ev.succ ?_
      simp only [impl_BestValue.l0, Int.lt_irrefl, if_false, List.drop_length, bestV]
      exact Ev.now _
    | succ d ih =>
      intro i m hd hi
      have hi' : i < l.length := by omega
      have hx : l[i]? = some l[i] := List.getElem?_eq_getElem hi'
      rw [List.drop_eq_getElem_cons hi', bestV]
      generalize l[i] = x at hx ⊢
      have h1 : ((i : Int) < (l.length : Int)) = True := eq_true (by omega)
      have h2 : (0 ≤ (i : Int)) = True := eq_true (by omega)
      have hr := fun m => ih (i + 1) m (by omega) (by omega)
      have h3 := wr1 hi' (show l.length ≤ 9223372036854775807 by omega)
      refine Ev.succ ?_
      simp only [impl_BestValue.l0, h1, h2, if_true, rd_at_T83 hx, impl_HoldsAt_eq, Option.bind_some, h3]
      by_cases c0 : x.f0 = a
      · by_cases c1 : x.f1 = b
        · simp only [if_pos c0, if_pos c1]
          cases c2 : holdsB x t g with
          | false =>
            have e : bestP a b t g x = false := by simp [bestP, c2]
            simp only [e, Bool.false_eq_true, if_false]; exact hr _
          | true =>
            have e : bestP a b t g x = true := by simp [bestP, c0, c1, c2]
            simp only [e, if_true]; exact hr _
        · have e : bestP a b t g x = false := by simp [bestP, c1]
          simp only [if_pos c0, if_neg c1, e, Bool.false_eq_true, if_false]; exact hr _
      · have e : bestP a b t g x = false := by simp [bestP, c0]
        simp only [if_neg c0, e, Bool.false_eq_true, if_false]; exact hr _
  unfold impl_BestValue.f
  exact Ev.eqv (by rw [List.drop_zero]) (key l.length 0 (-1) (by omega) (by omega))

-- impl_LeafHolds
theorem impl_LeafHolds_ev (l : List S112) (s : List S83) (q : S56) (o a g : Int) (u : List S108) (hl : l.length ≤ 1048576) (h : s.length ≤ 1048576) : Ev (fun k => impl_LeafHolds.f k l s o a g u q.f0 q.f1 q.f2 q.f3 q.f4 q.f5) (leafB l s q o a g) := by
  unfold impl_LeafHolds.f leafB
  by_cases c1 : o = 1
  · simp only [if_pos c1]; exact Ev.now _
  by_cases c2 : o = 2
  · simp only [if_neg c1, if_pos c2]; exact Ev.bid (impl_HasRole_ev l s q.f0 a q.f5 g hl h)
  by_cases c3 : o = 3
  · simp only [if_neg c1, if_neg c2, if_pos c3]
    refine Ev.bind (impl_FindFact_ev s 2 q.f0 q.f1 q.f5 g h) ?_
    rw [idxV_ne]
    exact Ev.now _
  by_cases c4 : o = 4
  · simp only [if_neg c1, if_neg c2, if_neg c3, if_pos c4]
    exact Ev.bind (impl_BestValue_ev s 3 q.f1 q.f5 g h) (Ev.now _)
  by_cases c5 : o = 5
  · simp only [if_neg c1, if_neg c2, if_neg c3, if_neg c4, if_pos c5]
    exact Ev.bind (impl_BestValue_ev s 4 q.f2 q.f5 g h) (Ev.now _)
  by_cases c6 : o = 6
  · simp only [if_neg c1, if_neg c2, if_neg c3, if_neg c4, if_neg c5, if_pos c6]; exact Ev.now _
  · simp only [if_neg c1, if_neg c2, if_neg c3, if_neg c4, if_neg c5, if_neg c6]; exact Ev.now _

-- impl_EvalCond
theorem impl_evalWith_ev (l : List S112) (s : List S83) (q : S56) (hl : l.length ≤ 1048576) (hs : s.length ≤ 1048576) (N : Nat) : ∀ x : S108, n108 x ≤ N → vldC x = true → Ev (fun k => impl_evalWith_126.f k x.f0 x.f1 x.f2 x.f3 l s q.f0 q.f1 q.f2 q.f3 q.f4 q.f5) (evC (leafB l s q) x) := by
  induction N using Nat.strongRecOn with
  | _ N ih =>
  intro x hx hv
  obtain ⟨two, three⟩ := vld_parts hv
  rw [evC_f]
  refine Ev.succ ?_
  by_cases c7 : x.f0 = 7
  · obtain ⟨y, hy, ry, p0, hvy, hn⟩ := two (.inl c7)
    simp only [impl_evalWith_126.f, if_pos c7, p0, if_true, ry]
    refine Ev.bind (ih _ (by omega) y (Nat.le_refl _) hvy) ?_
    rw [getD_map hy]
    exact Ev.now _
  by_cases c8 : x.f0 = 8
  · obtain ⟨y, hy, ry, p0, hvy, hn⟩ := two (.inr (.inl c8))
    obtain ⟨z, hz, rz, p1, hvz, hn2⟩ := three (.inl c8)
    simp only [impl_evalWith_126.f, if_neg c7, if_pos c8, p0, p1, if_true, ry, rz]
    rw [getD_map hy, getD_map hz]
    refine Ev.bind (ih _ (by omega) y (Nat.le_refl _) hvy) ?_
    cases evC (leafB l s q) y with
    | false => exact Ev.now _
    | true => simp only [if_true, Bool.true_and]; exact Ev.bid (ih _ (by omega) z (Nat.le_refl _) hvz)
  by_cases c9 : x.f0 = 9
  · obtain ⟨y, hy, ry, p0, hvy, hn⟩ := two (.inr (.inr c9))
    obtain ⟨z, hz, rz, p1, hvz, hn2⟩ := three (.inr c9)
    simp only [impl_evalWith_126.f, if_neg c7, if_neg c8, if_pos c9, p0, p1, if_true, ry, rz]
    rw [getD_map hy, getD_map hz]
    refine Ev.bind (ih _ (by omega) y (Nat.le_refl _) hvy) ?_
    cases evC (leafB l s q) y with
    | true => exact Ev.now _
    | false => simp only [Bool.false_eq_true, if_false, Bool.false_or]; exact Ev.bid (ih _ (by omega) z (Nat.le_refl _) hvz)
  simp only [impl_evalWith_126.f, if_neg c7, if_neg c8, if_neg c9]
  unfold cl126.f
  exact Ev.bid (Ev.bid (impl_LeafHolds_ev l s q x.f0 x.f1 x.f2 x.f3 hl hs))
theorem impl_EvalCond_ev (l : List S112) (s : List S83) (q : S56) (x : S108) (hl : l.length ≤ 1048576) (hs : s.length ≤ 1048576) (hx : n108 x ≤ 1048576) : Ev (fun k => impl_EvalCond.f k l s x.f0 x.f1 x.f2 x.f3 q.f0 q.f1 q.f2 q.f3 q.f4 q.f5) (evalB l s q x) := by
  unfold impl_EvalCond.f evalB
  refine Ev.bind (impl_IsCond_ev x hx) ?_
  cases c : condB x with
  | false => exact Ev.now _
  | true =>
    have hv : vldC x = true := by
      unfold condB at c
      rw [Bool.and_eq_true] at c
      exact c.2
    exact Ev.pos rfl (Ev.bid (impl_evalWith_ev l s q hl hs _ x (Nat.le_refl _) hv))

-- impl_RulesThatHold
theorem impl_RulesThatHold_ev (l : List S112) (s : List S83) (q : S56) (n0 : Int) (P : List S110) (hl : l.length ≤ 1048576) (hs : s.length ≤ 1048576) (hP : nPol P ≤ 1048576) : Ev (fun k => impl_RulesThatHold.f k l s n0 P q.f0 q.f1 q.f2 q.f3 q.f4 q.f5) (thatV (rhoB l s q) P 0) := by
  unfold nPol at hP
  have key : ∀ (d i : Nat) (out : List Int), P.length - i = d → i ≤ P.length → out.length ≤ i → Ev (fun k => impl_RulesThatHold.l0 k l s q.f0 q.f1 q.f2 q.f3 q.f4 q.f5 out P (P.length : Int) (i : Int)) (out ++ thatV (rhoB l s q) (P.drop i) (i : Int)) := by
    intro d
    induction d with
    | zero =>
      intro i out hd hi ho
      obtain rfl : i = P.length := by omega
      refine Ev.succ ?_
      simp only [impl_RulesThatHold.l0, Int.lt_irrefl, if_false, List.drop_length, thatV, List.append_nil]
      exact Ev.now _
    | succ d ih =>
      intro i out hd hi ho
      have hi' : i < P.length := by omega
      have hx : P[i]? = some P[i] := List.getElem?_eq_getElem hi'
      rw [List.drop_eq_getElem_cons hi', thatV]
      generalize P[i] = x at hx ⊢
      have hn := le_sum n110 hx
      have hn2 := rule_n x
      have h1 : ((i : Int) < (P.length : Int)) = True := eq_true (by omega)
      have h2 : (0 ≤ (i : Int)) = True := eq_true (by omega)
      have e1 := impl_EvalCond_ev l s q x.f3 hl hs (by omega)
      have v1 := ih (i + 1) out (by omega) (by omega) (by omega)
      have v2 := ih (i + 1) (out ++ [(i : Int)]) (by omega) (by omega) (by rw [List.length_append, List.length_singleton]; omega)
      have hol : (out.length < 17592186044416) = True := eq_true (by omega)
      have h3 := wr1 hi' (show P.length ≤ 9223372036854775807 by omega)
      have h4 : (i : Int) + 1 = ((i + 1 : Nat) : Int) := by omega
      rw [h4, show rhoB l s q x = (forB x q.f3 q.f4 && evalB l s q x.f3) from rfl]
      refine Ev.succ ?_
      simp only [impl_RulesThatHold.l0, h1, h2, if_true, rd_at_T110 hx, impl_IsFor_eq, Option.bind_some, h3]
      cases c : forB x q.f3 q.f4 with
      | false =>
        simp only [Bool.false_eq_true, if_false, Bool.false_and]
        exact v1
      | true =>
        simp only [if_true, Bool.true_and]
        refine Ev.bind e1 ?_
        cases evalB l s q x.f3 with
        | true =>
          simp only [if_true, hol]
          exact Ev.eqv (by rw [List.append_assoc]; rfl) v2
        | false => simp only [Bool.false_eq_true, if_false]; exact v1
  unfold impl_RulesThatHold.f
  exact Ev.eqv (by rw [List.drop_zero, List.nil_append]; rfl) (key P.length 0 [] (by omega) (by omega) (by simp))

-- impl_decided
theorem impl_decided_ev (n0 : Int) (P : List S110) (L : List Int) (hL : L.length ≤ 1048576) (hy : ∀ y ∈ L, 0 ≤ y ∧ y < (P.length : Int)) : Ev (fun k => impl_decided.f k n0 P L) (decE (L.map fun i => (rd_T110 P i).f0) 0) := by
  have key : ∀ (d i : Nat) (a : Int), L.length - i = d → i ≤ L.length → Ev (fun k => impl_decided.l0 k n0 P a L (L.length : Int) (i : Int)) (decE ((L.drop i).map fun i => (rd_T110 P i).f0) a) := by
    intro d
    induction d with
    | zero =>
      intro i a hd hi
      obtain rfl : i = L.length := by omega
      refine Ev.succ ?_
      simp only [impl_decided.l0, Int.lt_irrefl, if_false, List.drop_length, List.map_nil, decE]
      exact Ev.now _
    | succ d ih =>
      intro i a hd hi
      have hi' : i < L.length := by omega
      have hx : L[i]? = some L[i] := List.getElem?_eq_getElem hi'
      have hb := hy _ (List.getElem_mem hi')
      rw [List.drop_eq_getElem_cons hi', List.map_cons, decE]
      generalize L[i] = y at hx hb ⊢
      have h1 : ((i : Int) < (L.length : Int)) = True := eq_true (by omega)
      have h2 : (0 ≤ (i : Int)) = True := eq_true (by omega)
      have h3 : (0 ≤ y) = True := eq_true (by omega)
      have h4 : (y < (P.length : Int)) = True := eq_true (by omega)
      have h5 := wr1 hi' (show L.length ≤ 9223372036854775807 by omega)
      refine Ev.succ ?_
      simp only [impl_decided.l0, h1, h2, h3, h4, if_true, rd_nat _ _ _ hx, h5]
      by_cases c0 : (rd_T110 P y).f0 = 0
      · simp only [if_pos c0]; exact Ev.now _
      · simp only [if_neg c0]
        by_cases c1 : (rd_T110 P y).f0 = 1
        · simp only [if_pos c1]; exact ih (i + 1) 1 (by omega) (by omega)
        · simp only [if_neg c1]; exact ih (i + 1) a (by omega) (by omega)
  unfold impl_decided.f
  exact Ev.eqv (by rw [List.drop_zero]) (key L.length 0 0 (by omega) (by omega))

-- impl_DecideBy
theorem impl_DecideBy_ev (l : List S112) (s : List S83) (v : Int) (P : List S110) (q : S56) (hl : l.length ≤ 1048576) (hs : s.length ≤ 1048576) (hp : nPol P ≤ 1048576) : Ev (fun k => impl_DecideBy.f k l s v P q.f0 q.f1 q.f2 q.f3 q.f4 q.f5) (decV l s v P q) := by
  unfold impl_DecideBy.f decV
  simp only [impl_IsRequest_eq, Option.bind_some]
  cases c : reqB q.f0 q.f1 q.f2 q.f3 q.f4 q.f5 with
  | false => simp only [Bool.false_eq_true, if_false]; exact Ev.now _
  | true =>
    simp only [if_true]
    refine Ev.bind (impl_IsPolicy_ev ⟨v, P⟩ (by unfold n38; unfold nPol at hp; exact hp)) ?_
    unfold polB
    cases c2 : policyB ⟨v, P⟩ with
    | false => simp only [Bool.false_eq_true, if_false]; exact Ev.now _
    | true =>
      simp only [if_true]
      have hlen : P.length ≤ 1048576 := by unfold nPol at hp; omega
      have hL := thatV_len (rhoB l s q) P 0
      refine Ev.bind (impl_RulesThatHold_ev l s q v P hl hs hp) ?_
      exact Ev.bind (impl_decided_ev v P (thatV (rhoB l s q) P 0) (by omega) fun y hy => by
        have := thatV_in (rhoB l s q) P 0 y hy; omega) (Ev.now _)

-- impl_isTrueSaved
theorem impl_isTrueSaved_ev (p : S45) (y : S58) (h : n45 p ≤ 1048576) : Ev (fun k => impl_isTrueSaved.f k p.f0 p.f1.f0 p.f1.f1 p.f1.f2 p.f1.f3.f0 p.f1.f3.f1 p.f2 p.f3 p.f4 p.f5 y.f0.f0 y.f0.f1 y.f0.f2 y.f0.f3 y.f0.f4 y.f0.f5 y.f1 y.f2) (trueB p y) := by
  have hl : p.f1.f2.length ≤ 1048576 := by unfold n45 n40 at h; omega
  have hs : p.f2.length ≤ 1048576 := by unfold n45 at h; omega
  have hp : nPol p.f1.f3.f1 ≤ 1048576 := by unfold n45 n40 n38 at h; unfold nPol; omega
  unfold impl_isTrueSaved.f trueB
  simp only [impl_IsRequest_eq, Option.bind_some]
  refine Ev.bifT fun c => ?_
  have ht : 0 ≤ y.f0.f5 ∧ y.f0.f5 ≤ 10000 := by
    unfold reqB at c
    simp only [Bool.and_eq_true] at c
    exact timeAt c.2.2.2.2.2
  have w1 : wrap64 (y.f0.f5 + 10) = y.f0.f5 + 10 := wr (by omega) (by omega)
  refine Ev.dnot fun _ => ?_
  simp only [w1, impl_InRange_eq, Option.bind_some]
  refine Ev.bifT fun c0 => ?_
  have c1 := inB_iff.1 c0
  have key : ∀ (n : Nat) (t : Int), (n : Int) = y.f2 + 1 - t → 0 ≤ t → Ev (fun k => impl_isTrueSaved.l0 k p.f0 p.f1.f0 p.f1.f1 p.f1.f2 p.f1.f3.f0 p.f1.f3.f1 p.f2 p.f3 p.f4 p.f5 y.f0.f0 y.f0.f1 y.f0.f2 y.f0.f3 y.f0.f4 y.f0.f5 y.f1 y.f2 t) (staysB p y n t) := by
    intro n
    induction n with
    | zero =>
      intro t e h0
      refine Ev.succ ?_
      simp only [impl_isTrueSaved.l0]
      exact Ev.neg (by omega) (Ev.now _)
    | succ n ih =>
      intro t e h0
      have w2 : wrap64 (t + 1) = t + 1 := wr (by omega) (by omega)
      refine Ev.succ ?_
      simp only [impl_isTrueSaved.l0, impl_AtTime.f, Option.bind_some, w2]
      refine Ev.pos (by omega) (Ev.bind (impl_DecideBy_ev p.f1.f2 p.f2 p.f1.f3.f0 p.f1.f3.f1 (atT y.f0 t) hl hs hp) ?_)
      exact Ev.dand fun _ => ih (t + 1) (by omega) (by omega)
  exact key _ _ (by omega) ht.1

-- impl_IsPoint
theorem impl_IsPoint_ev (p : S45) (h : n45 p ≤ 1048576) : Ev (fun k => impl_IsPoint.f k p.f0 p.f1.f0 p.f1.f1 p.f1.f2 p.f1.f3.f0 p.f1.f3.f1 p.f2 p.f3 p.f4 p.f5) (pointB p) := by
  obtain ⟨h1, h2, h3, h5⟩ := point_le2 p h
  unfold impl_IsPoint.f pointB
  refine Ev.ite (fun c => ?_) (fun c => ?_)
  · rw [if_pos c]
    simp only [impl_NewPoint.f, Option.bind_some]
    exact Ev.bid (impl_EqualPoints_ev p (newPt p.f0) h)
  · rw [if_neg c]
    simp only [impl_IsTime_eq, Option.bind_some]
    refine Ev.bifT fun _ => Ev.band (impl_IsEpoch_ev p.f1 h1) fun _ => Ev.band (impl_IsStore_ev p.f2 h2) fun _ => Ev.band (impl_AreRevoked_ev p.f3 h3) fun _ => Ev.dand fun _ => ?_
    have hI : Ev (fun k => slices_IndexFunc65_31.f k p.f5 p.f0 p.f1.f0 p.f1.f1 p.f1.f2 p.f1.f3.f0 p.f1.f3.f1 p.f2 p.f3 p.f4 p.f5) (idxV (fun x => !trueB p x) p.f5 0) := by
      unfold slices_IndexFunc65_31.f
      refine idx_ev (fun k i => slices_IndexFunc65_31.l0 k p.f5 p.f0 p.f1.f0 p.f1.f1 p.f1.f2 p.f1.f3.f0 p.f1.f3.f1 p.f2 p.f3 p.f4 p.f5 (p.f5.length : Int) i) (fun x => !trueB p x) p.f5 0 p.f5.length (by omega) ?_ ?_
      · refine Ev.succ ?_
        simp only [slices_IndexFunc65_31.l0, Int.lt_irrefl, if_false]
        exact Ev.now _
      · intro j y r _ hx
        rw [Nat.sub_zero] at hx
        have hj := lt_of_get hx
        have e1 : ((j : Int) < (p.f5.length : Int)) = True := eq_true (by omega)
        have e2 : (0 ≤ (j : Int)) = True := eq_true (by omega)
        have hc : Ev (fun k => cl31.f k y.f0.f0 y.f0.f1 y.f0.f2 y.f0.f3 y.f0.f4 y.f0.f5 y.f1 y.f2 p.f0 p.f1.f0 p.f1.f1 p.f1.f2 p.f1.f3.f0 p.f1.f3.f1 p.f2 p.f3 p.f4 p.f5) (!trueB p y) := by
          unfold cl31.f
          exact Ev.bind (impl_isTrueSaved_ev p y h) (Ev.now _)
        constructor
        · intro hq
          refine Ev.succ ?_
          simp only [slices_IndexFunc65_31.l0, e1, e2, if_true, rd_at_T58 hx]
          refine Ev.bind hc ?_
          simp only [hq, if_true]
          exact Ev.now _
        · intro hq he
          refine Ev.succ ?_
          simp only [slices_IndexFunc65_31.l0, e1, e2, if_true, rd_at_T58 hx, wr1 hj (by omega)]
          refine Ev.bind hc ?_
          simp only [hq, Bool.false_eq_true, if_false]
          exact he
    have hC : Ev (fun k => slices_ContainsFunc30_31.f k p.f5 p.f0 p.f1.f0 p.f1.f1 p.f1.f2 p.f1.f3.f0 p.f1.f3.f1 p.f2 p.f3 p.f4 p.f5) (p.f5.any (fun x => !trueB p x)) := by
      unfold slices_ContainsFunc30_31.f
      exact Ev.bind hI (Ev.eqv (idxV_anyI (fun x => !trueB p x) p.f5 0 (by omega)) (Ev.now _))
    refine Ev.bind hC (Ev.eqv ?_ (Ev.now _))
    simp [List.any_eq_not_all_not]

-- laws_eqIncludes
theorem laws_eqIncludes_refl (x : S112) : laws_eqIncludes.f x.f0 x.f1 x.f0 x.f1 = some true := by
  unfold laws_eqIncludes.f
  simp

-- laws_eqIncludesS
theorem laws_eqIncludesS_refl (l : List (S112)) (h : l.length ≤ 1048576) : Ev (fun k => laws_eqIncludesS.f k l l) true := by
  unfold laws_eqIncludesS.f
  refine Ev.pos rfl ?_
  refine ev_walk l (fun k i => laws_eqIncludesS.l0 k l l i) true ?_ ?_
  · refine Ev.succ ?_
    simp only [laws_eqIncludesS.l0, Int.lt_irrefl, if_false]
    exact Ev.now _
  · intro i x hx hr
    have hi := lt_of_get hx
    have h1 : ((i : Int) < (l.length : Int)) = True := eq_true (by omega)
    have h2 : (0 ≤ (i : Int)) = True := eq_true (by omega)
    refine Ev.succ ?_
    simp only [laws_eqIncludesS.l0, h1, h2, if_true, rd_at_T112 hx, wr1 hi (by omega), laws_eqIncludes_refl x, Option.bind_some]
    exact hr

-- laws_eqCondS
theorem laws_eqCondS_reflN (N : Nat) : ∀ l : List S108, l.length + (l.map n108).sum ≤ N → N ≤ 1048576 → Ev (fun k => laws_eqCondS.f k l l) true := by
  induction N using Nat.strongRecOn with
  | _ N ih =>
  intro l h hN
  refine Ev.succ ?_
  simp only [laws_eqCondS.f]
  refine Ev.pos (by first | trivial | rfl) ?_
  refine ev_walk l (fun k i => laws_eqCondS.l0 k l l i) true ?_ ?_
  · refine Ev.succ ?_
    simp only [laws_eqCondS.l0, Int.lt_irrefl, if_false]
    exact Ev.now _
  · intro i x hx hr
    have hi := lt_of_get hx
    have h1 : ((i : Int) < (l.length : Int)) = True := eq_true (by omega)
    have h2 : (0 ≤ (i : Int)) = True := eq_true (by omega)
    have hn := le_sum n108 hx
    rw [n108_f] at hn
    have e := ih (x.f3.length + (x.f3.map n108).sum) (by omega) x.f3 (Nat.le_refl _) (by omega)
    have e' : Ev (fun k => laws_eqCond.f k x.f0 x.f1 x.f2 x.f3 x.f0 x.f1 x.f2 x.f3) true := by
      refine Ev.succ ?_
      simp only [laws_eqCond.f, if_true]
      refine Ev.bind e ?_
      simp only [if_true]
      exact Ev.now _
    refine Ev.succ ?_
    simp only [laws_eqCondS.l0, h1, h2, if_true, rd_at_T108 hx, wr1 hi (by omega)]
    refine Ev.bind e' ?_
    simp only [if_true]
    exact hr
theorem laws_eqCondS_refl (l : List S108) (h : l.length + (l.map n108).sum ≤ 1048576) : Ev (fun k => laws_eqCondS.f k l l) true := laws_eqCondS_reflN _ l (Nat.le_refl _) h
theorem laws_eqCond_refl (x : S108) (h : n108 x ≤ 1048576) : Ev (fun k => laws_eqCond.f k x.f0 x.f1 x.f2 x.f3 x.f0 x.f1 x.f2 x.f3) true := by
  rw [n108_f] at h
  refine Ev.succ ?_
  simp only [laws_eqCond.f, if_true]
  refine Ev.bind (laws_eqCondS_refl x.f3 h) ?_
  simp only [if_true]
  exact Ev.now _

-- laws_eqCond


-- laws_eqRule
theorem laws_eqRule_refl (x : S110) (h : n110 x ≤ 1048576) : Ev (fun k => laws_eqRule.f k x.f0 x.f1 x.f2 x.f3.f0 x.f3.f1 x.f3.f2 x.f3.f3 x.f0 x.f1 x.f2 x.f3.f0 x.f3.f1 x.f3.f2 x.f3.f3) true := by
  unfold n110 at h
  unfold laws_eqRule.f
  simp only [if_true, bne_self_eq_false, Bool.false_eq_true, if_false]
  repeat (first | exact Ev.now _ | (refine Ev.bind (laws_eqCond_refl _ (by omega)) ?_; simp only [if_true, bne_self_eq_false, Bool.false_eq_true, if_false]))

-- laws_eqRuleS
theorem laws_eqRuleS_refl (l : List (S110)) (h : l.length + (l.map n110).sum ≤ 1048576) : Ev (fun k => laws_eqRuleS.f k l l) true := by
  unfold laws_eqRuleS.f
  refine Ev.pos rfl ?_
  refine ev_walk l (fun k i => laws_eqRuleS.l0 k l l i) true ?_ ?_
  · refine Ev.succ ?_
    simp only [laws_eqRuleS.l0, Int.lt_irrefl, if_false]
    exact Ev.now _
  · intro i x hx hr
    have hi := lt_of_get hx
    have h1 : ((i : Int) < (l.length : Int)) = True := eq_true (by omega)
    have h2 : (0 ≤ (i : Int)) = True := eq_true (by omega)
    refine Ev.succ ?_
    simp only [laws_eqRuleS.l0, h1, h2, if_true, rd_at_T110 hx, wr1 hi (by omega)]
    refine Ev.bind (laws_eqRule_refl x (by have := le_sum n110 hx; omega)) ?_
    simp only [if_true]
    exact hr

-- laws_eqPolicy
theorem laws_eqPolicy_refl (x : S38) (h : n38 x ≤ 1048576) : Ev (fun k => laws_eqPolicy.f k x.f0 x.f1 x.f0 x.f1) true := by
  unfold n38 at h
  unfold laws_eqPolicy.f
  simp only [if_true, bne_self_eq_false, Bool.false_eq_true, if_false]
  repeat (first | exact Ev.now _ | (refine Ev.bind (laws_eqRuleS_refl _ (by omega)) ?_; simp only [if_true, bne_self_eq_false, Bool.false_eq_true, if_false]))

-- laws_eqEpoch
theorem laws_eqEpoch_refl (x : S40) (h : n40 x ≤ 1048576) : Ev (fun k => laws_eqEpoch.f k x.f0 x.f1 x.f2 x.f3.f0 x.f3.f1 x.f0 x.f1 x.f2 x.f3.f0 x.f3.f1) true := by
  unfold n40 at h
  unfold laws_eqEpoch.f
  simp only [if_true, bne_self_eq_false, Bool.false_eq_true, if_false]
  repeat (first | exact Ev.now _ | (refine Ev.bind (laws_eqIncludesS_refl _ (by omega)) ?_; simp only [if_true, bne_self_eq_false, Bool.false_eq_true, if_false]) | (refine Ev.bind (laws_eqPolicy_refl _ (by omega)) ?_; simp only [if_true, bne_self_eq_false, Bool.false_eq_true, if_false]))

-- laws_eqFact
theorem laws_eqFact_refl (x : S83) : laws_eqFact.f x.f0 x.f1 x.f2 x.f3 x.f4 x.f5 x.f0 x.f1 x.f2 x.f3 x.f4 x.f5 = some true := by
  unfold laws_eqFact.f
  simp

-- laws_eqFactS
theorem laws_eqFactS_refl (l : List (S83)) (h : l.length ≤ 1048576) : Ev (fun k => laws_eqFactS.f k l l) true := by
  unfold laws_eqFactS.f
  refine Ev.pos rfl ?_
  refine ev_walk l (fun k i => laws_eqFactS.l0 k l l i) true ?_ ?_
  · refine Ev.succ ?_
    simp only [laws_eqFactS.l0, Int.lt_irrefl, if_false]
    exact Ev.now _
  · intro i x hx hr
    have hi := lt_of_get hx
    have h1 : ((i : Int) < (l.length : Int)) = True := eq_true (by omega)
    have h2 : (0 ≤ (i : Int)) = True := eq_true (by omega)
    refine Ev.succ ?_
    simp only [laws_eqFactS.l0, h1, h2, if_true, rd_at_T83 hx, wr1 hi (by omega), laws_eqFact_refl x, Option.bind_some]
    exact hr

-- laws_eqRevoked
theorem laws_eqRevoked_refl (x : S86) : laws_eqRevoked.f x.f0 x.f1 x.f0 x.f1 = some true := by
  unfold laws_eqRevoked.f
  simp

-- laws_eqRevokedS
theorem laws_eqRevokedS_refl (l : List (S86)) (h : l.length ≤ 1048576) : Ev (fun k => laws_eqRevokedS.f k l l) true := by
  unfold laws_eqRevokedS.f
  refine Ev.pos rfl ?_
  refine ev_walk l (fun k i => laws_eqRevokedS.l0 k l l i) true ?_ ?_
  · refine Ev.succ ?_
    simp only [laws_eqRevokedS.l0, Int.lt_irrefl, if_false]
    exact Ev.now _
  · intro i x hx hr
    have hi := lt_of_get hx
    have h1 : ((i : Int) < (l.length : Int)) = True := eq_true (by omega)
    have h2 : (0 ≤ (i : Int)) = True := eq_true (by omega)
    refine Ev.succ ?_
    simp only [laws_eqRevokedS.l0, h1, h2, if_true, rd_at_T86 hx, wr1 hi (by omega), laws_eqRevoked_refl x, Option.bind_some]
    exact hr

-- laws_eqRequest
theorem laws_eqRequest_refl (x : S56) : laws_eqRequest.f x.f0 x.f1 x.f2 x.f3 x.f4 x.f5 x.f0 x.f1 x.f2 x.f3 x.f4 x.f5 = some true := by
  unfold laws_eqRequest.f
  simp

-- laws_eqSaved
theorem laws_eqSaved_refl (x : S58) : laws_eqSaved.f x.f0.f0 x.f0.f1 x.f0.f2 x.f0.f3 x.f0.f4 x.f0.f5 x.f1 x.f2 x.f0.f0 x.f0.f1 x.f0.f2 x.f0.f3 x.f0.f4 x.f0.f5 x.f1 x.f2 = some true := by
  unfold laws_eqSaved.f
  simp [laws_eqRequest_refl]

-- laws_eqSavedS
theorem laws_eqSavedS_refl (l : List (S58)) (h : l.length ≤ 1048576) : Ev (fun k => laws_eqSavedS.f k l l) true := by
  unfold laws_eqSavedS.f
  refine Ev.pos rfl ?_
  refine ev_walk l (fun k i => laws_eqSavedS.l0 k l l i) true ?_ ?_
  · refine Ev.succ ?_
    simp only [laws_eqSavedS.l0, Int.lt_irrefl, if_false]
    exact Ev.now _
  · intro i x hx hr
    have hi := lt_of_get hx
    have h1 : ((i : Int) < (l.length : Int)) = True := eq_true (by omega)
    have h2 : (0 ≤ (i : Int)) = True := eq_true (by omega)
    refine Ev.succ ?_
    simp only [laws_eqSavedS.l0, h1, h2, if_true, rd_at_T58 hx, wr1 hi (by omega), laws_eqSaved_refl x, Option.bind_some]
    exact hr

-- laws_eqPoint
theorem laws_eqPoint_refl (x : S45) (h : n45 x ≤ 1048576) : Ev (fun k => laws_eqPoint.f k x.f0 x.f1.f0 x.f1.f1 x.f1.f2 x.f1.f3.f0 x.f1.f3.f1 x.f2 x.f3 x.f4 x.f5 x.f0 x.f1.f0 x.f1.f1 x.f1.f2 x.f1.f3.f0 x.f1.f3.f1 x.f2 x.f3 x.f4 x.f5) true := by
  unfold n45 at h
  unfold laws_eqPoint.f
  simp only [if_true, bne_self_eq_false, Bool.false_eq_true, if_false]
  repeat (first | exact Ev.now _ | (refine Ev.bind (laws_eqEpoch_refl _ (by omega)) ?_; simp only [if_true, bne_self_eq_false, Bool.false_eq_true, if_false]) | (refine Ev.bind (laws_eqFactS_refl _ (by omega)) ?_; simp only [if_true, bne_self_eq_false, Bool.false_eq_true, if_false]) | (refine Ev.bind (laws_eqRevokedS_refl _ (by omega)) ?_; simp only [if_true, bne_self_eq_false, Bool.false_eq_true, if_false]) | (refine Ev.bind (laws_eqSavedS_refl _ (by omega)) ?_; simp only [if_true, bne_self_eq_false, Bool.false_eq_true, if_false]))

-- skip
-- dirs v3 v v2
-- base impl_areNodes impl_IsCond impl_IsRule
theorem FnExactIsPoint : laws_FnExactIsPoint.Pure := by
  intro x hx
  refine Ev.rounds ?_
  unfold laws_FnExactIsPoint.f
  obtain ⟨r, e, hr1, hr⟩ := laws_szPoint_le x hx 1048576 (by omega) (by omega)
  refine Ev.bind e ?_
  by_cases c : r < 0
  · simp only [if_pos c]; exact Ev.now _
  simp only [if_neg c]
  have hb := hr (by omega)
  have hmx : n45 (cv32 x) ≤ 1048576 := by rw [ncv32]; omega
  repeat (first
    | exact Ev.now _
    | ((first | refine Ev.bind (laws_toPoint_ev x (by omega)) ?_ | refine Ev.bind (spec_IsPoint_ev (cv32 x) hmx) ?_ | refine Ev.bind (impl_IsPoint_ev (cv32 x) hmx) ?_ | refine Ev.bind (laws_eqPoint_refl _ hmx) ?_); try simp only [])
    | simp only [bne_self_eq_false, Bool.false_eq_true, if_false, if_true])

end Go.Proofs.YtikbkgenadkbdaaGreat.Pure
