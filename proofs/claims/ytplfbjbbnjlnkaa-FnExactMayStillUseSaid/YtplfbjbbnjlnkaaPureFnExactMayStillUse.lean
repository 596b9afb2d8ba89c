/- The law FnExactMayStillUse answers true for all arguments, over numbers and lists alone: what each function computes, and that program and reference compute the same. No condition. -/
import Derived.Test.YtplfbjbbnjlnkaaQFnExactMayStillUsex7
import Derived.Test.YtplfbjbbnjlnkaaL
namespace Go.Proofs.Ytplfbjbbnjlnkaa.Pure
open Go.RowKit Go.Proofs.Ytplfbjbbnjlnkaa.QFnExactMayStillUse Go.Proofs.YtplfbjbbnjlnkaaL Go.Proofs.YtplfbjbbnjlnkaaW.PrintWords Go.Proofs.YtplfbjbbnjlnkaaW.PrintLast
set_option linter.unusedVariables false
set_option linter.unusedSimpArgs false

def cv210 (x : S210) : S208 := ⟨x.f0, x.f1⟩
theorem eta241 (x : S241) : (⟨x.f0, x.f1, x.f2, x.f3⟩ : S241) = x := by cases x; rfl
mutual
def n241 : S241 → Nat
  | ⟨x0, x1, x2, x3⟩ => x3.length + nL241 x3
def nL241 : List S241 → Nat
  | [] => 0
  | x :: l => n241 x + nL241 l
end
theorem nL241_eq : ∀ l : List S241, nL241 l = (l.map n241).sum
  | [] => by simp [nL241]
  | x :: l => by simp [nL241, nL241_eq l]
theorem n241_f (x : S241) : n241 x = x.f3.length + (x.f3.map n241).sum := by
  cases x
  simp only [n241, nL241_eq]
mutual
def cv241 : S241 → S219
  | ⟨x0, x1, x2, x3⟩ => ⟨x0, x1, x2, cvL241 x3⟩
def cvL241 : List S241 → List S219
  | [] => []
  | x :: l => cv241 x :: cvL241 l
end
theorem cvL241_eq : ∀ l : List S241, cvL241 l = l.map cv241
  | [] => by simp [cvL241]
  | x :: l => by simp [cvL241, cvL241_eq l]
theorem cv241_f (x : S241) : cv241 x = ⟨x.f0, x.f1, x.f2, x.f3.map cv241⟩ := by
  cases x
  simp only [cv241, cvL241_eq]
def cv243 (x : S243) : S221 := ⟨x.f0, x.f1, x.f2, (cv241 x.f3)⟩
def n243 (x : S243) : Nat := n241 x.f3
def cv163 (x : S163) : S109 := ⟨x.f0, (x.f1.map cv243)⟩
def n163 (x : S163) : Nat := x.f1.length + (x.f1.map n243).sum
def cv165 (x : S165) : S111 := ⟨x.f0, x.f1, (x.f2.map cv210), (cv163 x.f3)⟩
def n165 (x : S165) : Nat := x.f2.length + n163 x.f3
theorem eta219 (x : S219) : (⟨x.f0, x.f1, x.f2, x.f3⟩ : S219) = x := by cases x; rfl
mutual
def n219 : S219 → Nat
  | ⟨x0, x1, x2, x3⟩ => x3.length + nL219 x3
def nL219 : List S219 → Nat
  | [] => 0
  | x :: l => n219 x + nL219 l
end
theorem nL219_eq : ∀ l : List S219, nL219 l = (l.map n219).sum
  | [] => by simp [nL219]
  | x :: l => by simp [nL219, nL219_eq l]
theorem n219_f (x : S219) : n219 x = x.f3.length + (x.f3.map n219).sum := by
  cases x
  simp only [n219, nL219_eq]
def n221 (x : S221) : Nat := n219 x.f3
def n109 (x : S109) : Nat := x.f1.length + (x.f1.map n221).sum
def n111 (x : S111) : Nat := x.f2.length + n109 x.f3
theorem rd_at_T210 {l : List S210} {i : Nat} {x : S210} (h : l[i]? = some x) : rd_T210 l (i : Int) = x := getD_nat l _ i x h
theorem rd_at_T241 {l : List S241} {i : Nat} {x : S241} (h : l[i]? = some x) : rd_T241 l (i : Int) = x := getD_nat l _ i x h
theorem rd_at_T243 {l : List S243} {i : Nat} {x : S243} (h : l[i]? = some x) : rd_T243 l (i : Int) = x := getD_nat l _ i x h
theorem rd_at_T163 {l : List S163} {i : Nat} {x : S163} (h : l[i]? = some x) : rd_T163 l (i : Int) = x := getD_nat l _ i x h
theorem rd_at_T165 {l : List S165} {i : Nat} {x : S165} (h : l[i]? = some x) : rd_T165 l (i : Int) = x := getD_nat l _ i x h
theorem rd_at_T208 {l : List S208} {i : Nat} {x : S208} (h : l[i]? = some x) : rd_T208 l (i : Int) = x := getD_nat l _ i x h
theorem rd_at_T219 {l : List S219} {i : Nat} {x : S219} (h : l[i]? = some x) : rd_T219 l (i : Int) = x := getD_nat l _ i x h
theorem rd_at_T221 {l : List S221} {i : Nat} {x : S221} (h : l[i]? = some x) : rd_T221 l (i : Int) = x := getD_nat l _ i x h
theorem rd_at_T109 {l : List S109} {i : Nat} {x : S109} (h : l[i]? = some x) : rd_T109 l (i : Int) = x := getD_nat l _ i x h
theorem rd_at_T111 {l : List S111} {i : Nat} {x : S111} (h : l[i]? = some x) : rd_T111 l (i : Int) = x := getD_nat l _ i x h
theorem ncvN241 (l : List S241) : (cvL241 l).length = l.length := by rw [cvL241_eq, List.length_map]
mutual
theorem ncv241 : ∀ x : S241, n219 (cv241 x) = n241 x
  | ⟨x0, x1, x2, x3⟩ => by simp only [cv241, n219, n241, ncvL241 x3, ncvN241 x3]
theorem ncvL241 : ∀ l : List S241, nL219 (cvL241 l) = nL241 l
  | [] => by simp [cvL241, nL219, nL241]
  | x :: l => by simp only [cvL241, nL219, nL241, ncv241 x, ncvL241 l]
end
theorem ncv243 (x : S243) : n221 (cv243 x) = n243 x := by
  simp only [cv243, n221, n243, List.length_map, List.map_map, Function.comp_def, ncv241]
theorem ncv163 (x : S163) : n109 (cv163 x) = n163 x := by
  simp only [cv163, n109, n163, List.length_map, List.map_map, Function.comp_def, ncv243]
theorem ncv165 (x : S165) : n111 (cv165 x) = n165 x := by
  simp only [cv165, n111, n165, List.length_map, List.map_map, Function.comp_def, ncv163]

theorem laws_szIncludesS_le (l : List (S210)) (hl : l.length ≤ maxLen) (a : Int) (h0 : 0 ≤ a) (ha : a ≤ 1048576) : ∃ r, laws_szIncludesS.f l a = some r ∧ r ≤ 1048576 ∧ (0 ≤ r → r + (l.length : Nat) ≤ a) := by
  unfold laws_szIncludesS.f
  unfold maxLen at hl
  rw [wr (by omega) (by omega)]
  split
  · exact ⟨_, rfl, by omega, by omega⟩
  · exact ⟨_, rfl, by omega, by omega⟩

theorem gin241 {x : S241} (h : g241 x) : x.f3.length ≤ maxLen ∧ ∀ y ∈ x.f3, g241 y := by
  obtain ⟨k, h⟩ := h
  cases k with
  | zero => exact h.elim
  | succ k =>
    obtain ⟨_, _, _, h1, h2⟩ := (show GF241 _ x from h)
    exact ⟨h1, fun y hy => ⟨k, h2 y hy⟩⟩
theorem laws_szCondS_leN (N : Nat) : ∀ (l : List S241) (hl : l.length ≤ maxLen) (hg : ∀ y ∈ l, g241 y) (a : Int), 0 ≤ a → a ≤ 1048576 → a.toNat ≤ N → ∃ r, Ev (fun k => laws_szCondS.f k l a) r ∧ r ≤ 1048576 ∧ (0 ≤ r → r + (l.length + (l.map n241).sum : Nat) ≤ a) := by
  induction N using Nat.strongRecOn with
  | _ N ih =>
  intro l hl hg a h0 ha hN
  unfold maxLen at hl
  by_cases c : a - (l.length : Int) < 0
  · refine ⟨-1, Ev.succ ?_, by omega, by omega⟩
    simp only [laws_szCondS.f, wr (x := a - (l.length : Int)) (by omega) (by omega), if_pos c]
    exact Ev.now _
  have hend : ∀ a, Ev (fun k => laws_szCondS.l0 k l a (l.length : Int)) a := by
    intro a
    refine Ev.succ ?_
    simp only [laws_szCondS.l0, Int.lt_irrefl, if_false]
    exact Ev.now _
  have hstep : ∀ (i : Nat) (x : S241) (b : Int), l[i]? = some x → 0 ≤ b → b ≤ a - (l.length : Int) → (∃ r, Ev (fun k => laws_szCondS.l0 k l b (i : Int)) r ∧ r < 0) ∨ ∃ a', 0 ≤ a' ∧ a' + n241 x ≤ b ∧ ∀ r, Ev (fun k => laws_szCondS.l0 k l a' ((i + 1 : Nat) : Int)) r → Ev (fun k => laws_szCondS.l0 k l b (i : Int)) r := by
    intro i x b hx hb0 hba
    have hi := lt_of_get hx
    have h1 : ((i : Int) < (l.length : Int)) = True := eq_true (by omega)
    have h2 : (0 ≤ (i : Int)) = True := eq_true (by omega)
    have hgx := gin241 (hg x (List.mem_of_getElem? hx))
    obtain ⟨r, e, br, s⟩ := ih b.toNat (by omega) x.f3 hgx.1 hgx.2 b hb0 (by omega) (Nat.le_refl _)
    have e' : Ev (fun k => laws_szCond.f k x.f0 x.f1 x.f2 x.f3 b) (if r < 0 then -1 else r) := by
      refine Ev.succ ?_
      simp only [laws_szCond.f]
      refine Ev.bind e ?_
      by_cases c2 : r < 0
      · simp only [if_pos c2]; exact Ev.now _
      · simp only [if_neg c2]; exact Ev.now _
    by_cases c2 : r < 0
    · left
      rw [if_pos c2] at e'
      refine ⟨-1, Ev.succ ?_, by omega⟩
      simp only [laws_szCondS.l0, h1, h2, if_true, rd_at_T241 hx]
      refine Ev.bind e' ?_
      exact Ev.pos (by omega) (Ev.now _)
    · right
      rw [if_neg c2] at e'
      have s' := s (by omega)
      rw [← n241_f] at s'
      refine ⟨r, by omega, by omega, fun r' hr => Ev.succ ?_⟩
      simp only [laws_szCondS.l0, h1, h2, if_true, rd_at_T241 hx]
      refine Ev.bind e' ?_
      simp only [if_neg c2, wr1 hi (by omega)]
      exact hr
  obtain ⟨r, h1, h2, h3⟩ := ev_sz n241 l (fun k a i => laws_szCondS.l0 k l a i) (a - (l.length : Int)) hend hstep (a - (l.length : Int)) (by omega) (by omega)
  refine ⟨r, Ev.succ ?_, by omega, fun h => by have := h3 h; omega⟩
  simp only [laws_szCondS.f, wr (x := a - (l.length : Int)) (by omega) (by omega), if_neg c]
  exact h1
theorem laws_szCondS_le (l : List S241) (hl : l.length ≤ maxLen) (hg : ∀ y ∈ l, g241 y) (a : Int) (h0 : 0 ≤ a) (ha : a ≤ 1048576) : ∃ r, Ev (fun k => laws_szCondS.f k l a) r ∧ r ≤ 1048576 ∧ (0 ≤ r → r + (l.length + (l.map n241).sum : Nat) ≤ a) := laws_szCondS_leN _ l hl hg a h0 ha (Nat.le_refl _)
theorem laws_szCond_le (x : S241) (hg : g241 x) (a : Int) (h0 : 0 ≤ a) (ha : a ≤ 1048576) : ∃ r, Ev (fun k => laws_szCond.f k x.f0 x.f1 x.f2 x.f3 a) r ∧ r ≤ 1048576 ∧ (0 ≤ r → r + (n241 x : Nat) ≤ a) := by
  have hgx := gin241 hg
  obtain ⟨r, e, b, s⟩ := laws_szCondS_le x.f3 hgx.1 hgx.2 a h0 ha
  by_cases c : r < 0
  · refine ⟨-1, Ev.succ ?_, by omega, by omega⟩
    simp only [laws_szCond.f]
    refine Ev.bind e ?_
    simp only [if_pos c]; exact Ev.now _
  · refine ⟨r, Ev.succ ?_, b, fun h => by rw [n241_f]; exact s h⟩
    simp only [laws_szCond.f]
    refine Ev.bind e ?_
    simp only [if_neg c]; exact Ev.now _



theorem laws_szRule_le (x : S243) (hg : g243 x) (a : Int) (h0 : 0 ≤ a) (ha : a ≤ 1048576) : ∃ r, Ev (fun k => laws_szRule.f k x.f0 x.f1 x.f2 x.f3.f0 x.f3.f1 x.f3.f2 x.f3.f3 a) r ∧ r ≤ 1048576 ∧ (0 ≤ r → r + (n243 x : Nat) ≤ a) := by
  unfold g243 at hg
  unfold n243 laws_szRule.f
  obtain ⟨r0, e0, b0, s0⟩ := laws_szCond_le x.f3 (by have := hg; simp_all) a (by omega) (by omega)
  by_cases c0 : r0 < 0
  · exact ⟨-1, by refine Ev.bind e0 ?_; simp only [if_pos c0]; exact Ev.now _, by omega, by omega⟩
  have s0' := s0 (by omega)
  exact ⟨r0, by refine Ev.bind e0 ?_; simp only [if_neg c0]; exact Ev.now _, by omega, fun _ => by omega⟩

theorem laws_szRuleS_le (l : List (S243)) (hl : l.length ≤ maxLen) (hg : ∀ y_ ∈ l, g243 y_) (a : Int) (h0 : 0 ≤ a) (ha : a ≤ 1048576) : ∃ r, Ev (fun k => laws_szRuleS.f k l a) r ∧ r ≤ 1048576 ∧ (0 ≤ r → r + (l.length + (l.map n243).sum : Nat) ≤ a) := by
  unfold laws_szRuleS.f
  unfold maxLen at hl
  rw [wr (by omega) (by omega)]
  by_cases c : a - (l.length : Int) < 0
  · simp only [if_pos c]; exact ⟨_, Ev.now _, by omega, by omega⟩
  simp only [if_neg c]
  have hend : ∀ a, Ev (fun k => laws_szRuleS.l0 k l a (l.length : Int)) a := by
    intro a
    refine Ev.succ ?_
    simp only [laws_szRuleS.l0, Int.lt_irrefl, if_false]
    exact Ev.now _
  have hstep : ∀ (i : Nat) (x : S243) (a : Int), l[i]? = some x → 0 ≤ a → a ≤ 1048576 → (∃ r, Ev (fun k => laws_szRuleS.l0 k l a (i : Int)) r ∧ r < 0) ∨ ∃ a', 0 ≤ a' ∧ a' + n243 x ≤ a ∧ ∀ r, Ev (fun k => laws_szRuleS.l0 k l a' ((i + 1 : Nat) : Int)) r → Ev (fun k => laws_szRuleS.l0 k l a (i : Int)) r := by
    intro i x a hx h0 ha
    have hi := lt_of_get hx
    have h1 : ((i : Int) < (l.length : Int)) = True := eq_true (by omega)
    have h2 : (0 ≤ (i : Int)) = True := eq_true (by omega)
    obtain ⟨r, e, b, s⟩ := laws_szRule_le x (hg x (List.mem_of_getElem? hx)) a h0 ha
    by_cases c2 : r < 0
    · left
      refine ⟨-1, Ev.succ ?_, by omega⟩
      simp only [laws_szRuleS.l0, h1, h2, if_true, rd_at_T243 hx]
      refine Ev.bind e ?_
      simp only [if_pos c2]
      exact Ev.now _
    · right
      have s' := s (by omega)
      refine ⟨r, by omega, by omega, fun r' hr => Ev.succ ?_⟩
      simp only [laws_szRuleS.l0, h1, h2, if_true, rd_at_T243 hx]
      refine Ev.bind e ?_
      simp only [if_neg c2, wr1 hi (by omega)]
      exact hr
  obtain ⟨r, h1, h2, h3⟩ := ev_sz n243 l (fun k a i => laws_szRuleS.l0 k l a i) 1048576 hend hstep (a - l.length) (by omega) (by omega)
  exact ⟨r, h1, h2, fun h => by have := h3 h; omega⟩

theorem laws_szPolicy_le (x : S163) (hg : g163 x) (a : Int) (h0 : 0 ≤ a) (ha : a ≤ 1048576) : ∃ r, Ev (fun k => laws_szPolicy.f k x.f0 x.f1 a) r ∧ r ≤ 1048576 ∧ (0 ≤ r → r + (n163 x : Nat) ≤ a) := by
  unfold g163 at hg
  unfold n163 laws_szPolicy.f
  obtain ⟨r0, e0, b0, s0⟩ := laws_szRuleS_le x.f1 (by have := hg; simp_all) (by have := hg; simp_all) a (by omega) (by omega)
  by_cases c0 : r0 < 0
  · exact ⟨-1, by refine Ev.bind e0 ?_; simp only [if_pos c0]; exact Ev.now _, by omega, by omega⟩
  have s0' := s0 (by omega)
  exact ⟨r0, by refine Ev.bind e0 ?_; simp only [if_neg c0]; exact Ev.now _, by omega, fun _ => by omega⟩

theorem laws_szEpoch_le (x : S165) (hg : g165 x) (a : Int) (h0 : 0 ≤ a) (ha : a ≤ 1048576) : ∃ r, Ev (fun k => laws_szEpoch.f k x.f0 x.f1 x.f2 x.f3.f0 x.f3.f1 a) r ∧ r ≤ 1048576 ∧ (0 ≤ r → r + (n165 x : Nat) ≤ a) := by
  unfold g165 at hg
  unfold n165 laws_szEpoch.f
  obtain ⟨r0, e0, b0, s0⟩ := laws_szIncludesS_le x.f2 (by have := hg; simp_all) a (by omega) (by omega)
  by_cases c0 : r0 < 0
  · exact ⟨-1, by simp only [e0, Option.bind_some]; simp only [if_pos c0]; exact Ev.now _, by omega, by omega⟩
  have s0' := s0 (by omega)
  obtain ⟨r1, e1, b1, s1⟩ := laws_szPolicy_le x.f3 (by have := hg; simp_all) r0 (by omega) (by omega)
  by_cases c1 : r1 < 0
  · exact ⟨-1, by simp only [e0, Option.bind_some]; simp only [if_neg c0]; refine Ev.bind e1 ?_; simp only [if_pos c1]; exact Ev.now _, by omega, by omega⟩
  have s1' := s1 (by omega)
  exact ⟨r1, by simp only [e0, Option.bind_some]; simp only [if_neg c0]; refine Ev.bind e1 ?_; simp only [if_neg c1]; exact Ev.now _, by omega, fun _ => by omega⟩

theorem laws_szEpochS_le (l : List (S165)) (hl : l.length ≤ maxLen) (hg : ∀ y_ ∈ l, g165 y_) (a : Int) (h0 : 0 ≤ a) (ha : a ≤ 1048576) : ∃ r, Ev (fun k => laws_szEpochS.f k l a) r ∧ r ≤ 1048576 ∧ (0 ≤ r → r + (l.length + (l.map n165).sum : Nat) ≤ a) := by
  unfold laws_szEpochS.f
  unfold maxLen at hl
  rw [wr (by omega) (by omega)]
  by_cases c : a - (l.length : Int) < 0
  · simp only [if_pos c]; exact ⟨_, Ev.now _, by omega, by omega⟩
  simp only [if_neg c]
  have hend : ∀ a, Ev (fun k => laws_szEpochS.l0 k l a (l.length : Int)) a := by
    intro a
    refine Ev.succ ?_
    simp only [laws_szEpochS.l0, Int.lt_irrefl, if_false]
    exact Ev.now _
  have hstep : ∀ (i : Nat) (x : S165) (a : Int), l[i]? = some x → 0 ≤ a → a ≤ 1048576 → (∃ r, Ev (fun k => laws_szEpochS.l0 k l a (i : Int)) r ∧ r < 0) ∨ ∃ a', 0 ≤ a' ∧ a' + n165 x ≤ a ∧ ∀ r, Ev (fun k => laws_szEpochS.l0 k l a' ((i + 1 : Nat) : Int)) r → Ev (fun k => laws_szEpochS.l0 k l a (i : Int)) r := by
    intro i x a hx h0 ha
    have hi := lt_of_get hx
    have h1 : ((i : Int) < (l.length : Int)) = True := eq_true (by omega)
    have h2 : (0 ≤ (i : Int)) = True := eq_true (by omega)
    obtain ⟨r, e, b, s⟩ := laws_szEpoch_le x (hg x (List.mem_of_getElem? hx)) a h0 ha
    by_cases c2 : r < 0
    · left
      refine ⟨-1, Ev.succ ?_, by omega⟩
      simp only [laws_szEpochS.l0, h1, h2, if_true, rd_at_T165 hx]
      refine Ev.bind e ?_
      simp only [if_pos c2]
      exact Ev.now _
    · right
      have s' := s (by omega)
      refine ⟨r, by omega, by omega, fun r' hr => Ev.succ ?_⟩
      simp only [laws_szEpochS.l0, h1, h2, if_true, rd_at_T165 hx]
      refine Ev.bind e ?_
      simp only [if_neg c2, wr1 hi (by omega)]
      exact hr
  obtain ⟨r, h1, h2, h3⟩ := ev_sz n165 l (fun k a i => laws_szEpochS.l0 k l a i) 1048576 hend hstep (a - l.length) (by omega) (by omega)
  exact ⟨r, h1, h2, fun h => by have := h3 h; omega⟩

theorem spec_l1In_eq (a b c : Int) : spec_l1In.f a b c = some (inB a b c) := by
  unfold spec_l1In.f
  rw [ite_dand]; rfl

theorem spec_IsTime_eq (a : Int) : spec_IsTime.f a = some (timeB a) := by
  unfold spec_IsTime.f
  rw [spec_l1In_eq]; rfl

theorem spec_Min_eq (a b : Int) : spec_Min.f a b = some (if b < a then b else a) := by
  unfold spec_Min.f; split <;> rfl

def endB (a b : Int) : Int := if timeB a = true ∧ timeB b = true then (if 10000 < a + b then 10000 else a + b) else 0
def numStep (t : Int) (s : Int) (x : S111) : Int := if x.f1 ≤ t then x.f0 else s
def numV (l : List S111) (t : Int) : Int := l.foldl (numStep t) 0
def leaseB (n f u : Int) : Bool := inB n 1 999 && (timeB f && (timeB u && (decide (f ≤ u) && decide (u - f ≤ 10))))
def takeLV (l : List S111) (now span : Int) : Int × Int × Int × Bool := if leaseB (numV l now) now (endB now span) = true ∧ ¬ span < 0 then (numV l now, now, endB now span, true) else (0, 0, 0, false)
def renewV (a b c : Int) (l : List S111) (now span : Int) : Int × Int × Int × Bool := if (takeLV l now span).2.2.2 = true ∧ ¬ (takeLV l now span).1 < a then ((takeLV l now span).1, (takeLV l now span).2.1, (takeLV l now span).2.2.1, true) else (a, b, c, false)
theorem timeB_iff {t : Int} : timeB t = true ↔ 0 ≤ t ∧ t ≤ 10000 := inB_iff
theorem spec_EndOf_eq (a b : Int) : spec_EndOf.f a b = some (endB a b) := by
  unfold spec_EndOf.f endB
  simp only [spec_IsTime_eq, spec_Min_eq, Option.bind_some]
  by_cases c : timeB a = true
  · by_cases c2 : timeB b = true
    · have h1 := timeB_iff.1 c
      have h2 := timeB_iff.1 (show timeB b = true from c2)
      simp only [if_pos c, if_pos c2, if_pos (show timeB a = true ∧ timeB b = true from ⟨c, c2⟩), wr (x := a + b) (by omega) (by omega)]
      by_cases c3 : a + b < 10000
      · rw [if_pos c3, if_neg (by omega)]
      · rw [if_neg c3]; by_cases c4 : 10000 < a + b
        · rw [if_pos c4]
        · rw [if_neg c4]; congr 1; omega
    · simp only [if_pos c, if_neg c2, if_neg (show ¬ (timeB a = true ∧ timeB b = true) from fun h => c2 h.2)]
  · simp only [if_neg c, if_neg (show ¬ (timeB a = true ∧ timeB b = true) from fun h => c h.1)]

def findV (l : List S111) (n : Int) : Int := idxV (fun x => x.f0 == n) l 0
theorem findV_in (l : List S111) (n : Int) : findV l n = -1 ∨ (0 ≤ findV l n ∧ findV l n < (l.length : Int)) := by
  rcases idxV_spec (fun x : S111 => x.f0 == n) l with ⟨h, _⟩ | ⟨j, x, h1, h2, _⟩
  · left; exact h
  · right
    have := lt_of_get h2
    unfold findV
    rw [h1]; omega
def stillV (l : List S111) (n t : Int) : Bool := if findV l n < 0 then false else if numV l t = n then true else if findV l n + 1 < (l.length : Int) then decide (t ≤ endB (rd_T111 l (findV l n + 1)).f1 10) else false
theorem spec_FindEpoch_ev (l : List S111) (n : Int) (h : l.length ≤ 1048576) : Ev (fun k => spec_FindEpoch.f k l n) (findV l n) := by
  unfold spec_FindEpoch.f findV
  refine ev_idx l (fun x => x.f0 == n) id (fun k i => spec_FindEpoch.l0 k l n i) ?_ ?_
  · refine Ev.succ ?_
    simp only [spec_FindEpoch.l0, Int.lt_irrefl, if_false]
    exact Ev.now _
  · intro i x hx
    have hi := lt_of_get hx
    have h1 : ((i : Int) < (l.length : Int)) = True := eq_true (by omega)
    have h2 : (0 ≤ (i : Int)) = True := eq_true (by omega)
    constructor
    · intro c r hr
      have c' : ¬ x.f0 = n := by simpa using c
      refine Ev.succ ?_
      simp only [spec_FindEpoch.l0, h1, h2, if_true, rd_at_T111 hx, wr1 hi (by omega), if_neg c']
      exact hr
    · intro c
      have c' : x.f0 = n := by simpa using c
      refine Ev.succ ?_
      simp only [spec_FindEpoch.l0, h1, h2, if_true, rd_at_T111 hx, if_pos c']
      exact Ev.now _

theorem spec_NumberAt_ev (l : List S111) (t : Int) (h : l.length ≤ 1048576) : Ev (fun k => spec_NumberAt.f k l t) (numV l t) := by
  unfold spec_NumberAt.f numV
  refine ev_fold l (numStep t) id (fun _ _ => True) (fun k s i => spec_NumberAt.l0 k l t s i) ?_ ?_ ?_ 0 trivial
  · intro s _
    refine Ev.succ ?_
    simp only [spec_NumberAt.l0, Int.lt_irrefl, if_false]
    exact Ev.now _
  · intro i x s hx hs
    trivial
  · intro i x s r hx hs hr
    have hi := lt_of_get hx
    have h1 : ((i : Int) < (l.length : Int)) = True := eq_true (by omega)
    have h2 : (0 ≤ (i : Int)) = True := eq_true (by omega)
    refine Ev.succ ?_
    simp only [spec_NumberAt.l0, h1, h2, if_true, rd_at_T111 hx, wr1 hi (by omega)]
    unfold numStep at hr
    by_cases c : x.f1 ≤ t
    · simp only [if_pos c] at hr ⊢; exact hr
    · simp only [if_neg c] at hr ⊢; exact hr

theorem spec_MayStillUse_ev (l : List S111) (n t : Int) (h : l.length ≤ 1048576) : Ev (fun k => spec_MayStillUse.f k l n t) (stillV l n t) := by
  unfold spec_MayStillUse.f stillV
  refine Ev.bind (spec_FindEpoch_ev l n h) ?_
  by_cases c : findV l n < 0
  · simp only [if_pos c]; exact Ev.now _
  · simp only [if_neg c]
    have hf := findV_in l n
    refine Ev.bind (spec_NumberAt_ev l t h) ?_
    by_cases c2 : numV l t = n
    · simp only [if_pos c2]; exact Ev.now _
    · have hw : wrap64 (findV l n + 1) = findV l n + 1 := wr (by omega) (by omega)
      simp only [if_neg c2, hw]
      by_cases c3 : findV l n + 1 < (l.length : Int)
      · have h0 : (0 ≤ findV l n + 1) = True := eq_true (by omega)
        simp only [if_pos c3, h0, if_true, spec_EndOf_eq, Option.bind_some]; exact Ev.now _
      · simp only [if_neg c3]; exact Ev.now _

theorem laws_toIncludes_eq (x : S210) : laws_toIncludes.f x.f0 x.f1 = some ((cv210 x).f0, (cv210 x).f1) := by
  unfold laws_toIncludes.f
  first | rfl | (simp only [Option.bind_some]; rfl)

theorem laws_toIncludesS_ev (l : List (S210)) (h : l.length ≤ 1048576) : Ev (fun k => laws_toIncludesS.f k l) (l.map cv210) := by
  unfold laws_toIncludesS.f
  refine Ev.pos (by omega) (Ev.pos (by omega) ?_)
  refine ev_fill l cv210 (fun k out i => laws_toIncludesS.l0 k l out i) ?_ ?_ _ (by simp)
  · intro out ho
    refine Ev.succ ?_
    simp only [laws_toIncludesS.l0, Int.lt_irrefl, if_false]
    exact Ev.now _
  · intro i x out r hx ho hr
    have hi := lt_of_get hx
    have h1 : ((i : Int) < (l.length : Int)) = True := eq_true (by omega)
    have h2 : (0 ≤ (i : Int)) = True := eq_true (by omega)
    have h3 : ((i : Int) < (out.length : Int)) = True := eq_true (by omega)
    refine Ev.succ ?_
    simp only [laws_toIncludesS.l0, h1, h2, h3, if_true, rd_at_T210 hx, wr1 hi (by omega), Int.toNat_natCast, laws_toIncludes_eq x, Option.bind_some]
    exact hr

theorem laws_toCondS_evN (N : Nat) : ∀ l : List S241, l.length + (l.map n241).sum ≤ N → N ≤ 1048576 → Ev (fun k => laws_toCondS.f k l) (l.map cv241) := by
  induction N using Nat.strongRecOn with
  | _ N ih =>
  intro l h hN
  refine Ev.succ ?_
  simp only [laws_toCondS.f]
  refine Ev.pos (by omega) (Ev.pos (by omega) ?_)
  refine ev_fill l cv241 (fun k out i => laws_toCondS.l0 k l out i) ?_ ?_ _ (by simp)
  · intro out ho
    refine Ev.succ ?_
    simp only [laws_toCondS.l0, Int.lt_irrefl, if_false]
    exact Ev.now _
  · intro i x out r hx ho hr
    have hi := lt_of_get hx
    have h1 : ((i : Int) < (l.length : Int)) = True := eq_true (by omega)
    have h2 : (0 ≤ (i : Int)) = True := eq_true (by omega)
    have h3 : ((i : Int) < (out.length : Int)) = True := eq_true (by omega)
    have hn := le_sum n241 hx
    rw [n241_f] at hn
    have e := ih (x.f3.length + (x.f3.map n241).sum) (by omega) x.f3 (Nat.le_refl _) (by omega)
    have e' : Ev (fun k => laws_toCond.f k x.f0 x.f1 x.f2 x.f3) (x.f0, x.f1, x.f2, x.f3.map cv241) := by
      refine Ev.succ ?_
      simp only [laws_toCond.f]
      refine Ev.bind e ?_
      exact Ev.now _
    refine Ev.succ ?_
    simp only [laws_toCondS.l0, h1, h2, if_true, rd_at_T241 hx, wr1 hi (by omega), Int.toNat_natCast]
    refine Ev.bind e' ?_
    simp only [h3, if_true]
    rw [cv241_f] at hr
    exact hr
theorem laws_toCondS_ev (l : List S241) (h : l.length + (l.map n241).sum ≤ 1048576) : Ev (fun k => laws_toCondS.f k l) (l.map cv241) := laws_toCondS_evN _ l (Nat.le_refl _) h
theorem laws_toCond_ev (x : S241) (h : n241 x ≤ 1048576) : Ev (fun k => laws_toCond.f k x.f0 x.f1 x.f2 x.f3) ((cv241 x).f0, (cv241 x).f1, (cv241 x).f2, (cv241 x).f3) := by
  rw [n241_f] at h
  rw [cv241_f]
  refine Ev.succ ?_
  simp only [laws_toCond.f]
  refine Ev.bind (laws_toCondS_ev x.f3 h) ?_
  exact Ev.now _



theorem laws_toRule_ev (x : S243) (h : n243 x ≤ 1048576) : Ev (fun k => laws_toRule.f k x.f0 x.f1 x.f2 x.f3.f0 x.f3.f1 x.f3.f2 x.f3.f3) ((cv243 x).f0, (cv243 x).f1, (cv243 x).f2, (cv243 x).f3.f0, (cv243 x).f3.f1, (cv243 x).f3.f2, (cv243 x).f3.f3) := by
  unfold n243 at h
  unfold laws_toRule.f
  repeat (first | exact Ev.now _ | (refine Ev.bind (laws_toCond_ev _ (by omega)) ?_; try simp only []))

theorem laws_toRuleS_ev (l : List (S243)) (h : l.length + (l.map n243).sum ≤ 1048576) : Ev (fun k => laws_toRuleS.f k l) (l.map cv243) := by
  unfold laws_toRuleS.f
  refine Ev.pos (by omega) (Ev.pos (by omega) ?_)
  refine ev_fill l cv243 (fun k out i => laws_toRuleS.l0 k l out i) ?_ ?_ _ (by simp)
  · intro out ho
    refine Ev.succ ?_
    simp only [laws_toRuleS.l0, Int.lt_irrefl, if_false]
    exact Ev.now _
  · intro i x out r hx ho hr
    have hi := lt_of_get hx
    have h1 : ((i : Int) < (l.length : Int)) = True := eq_true (by omega)
    have h2 : (0 ≤ (i : Int)) = True := eq_true (by omega)
    have h3 : ((i : Int) < (out.length : Int)) = True := eq_true (by omega)
    refine Ev.succ ?_
    simp only [laws_toRuleS.l0, h1, h2, h3, if_true, rd_at_T243 hx, wr1 hi (by omega), Int.toNat_natCast]
    refine Ev.bind (laws_toRule_ev x (by have := le_sum n243 hx; omega)) ?_
    simp only [h3, if_true]
    (try simp only [eta241, eta219])
    exact hr

theorem laws_toPolicy_ev (x : S163) (h : n163 x ≤ 1048576) : Ev (fun k => laws_toPolicy.f k x.f0 x.f1) ((cv163 x).f0, (cv163 x).f1) := by
  unfold n163 at h
  unfold laws_toPolicy.f
  repeat (first | exact Ev.now _ | (refine Ev.bind (laws_toRuleS_ev _ (by omega)) ?_; try simp only []))

theorem laws_toEpoch_ev (x : S165) (h : n165 x ≤ 1048576) : Ev (fun k => laws_toEpoch.f k x.f0 x.f1 x.f2 x.f3.f0 x.f3.f1) ((cv165 x).f0, (cv165 x).f1, (cv165 x).f2, (cv165 x).f3.f0, (cv165 x).f3.f1) := by
  unfold n165 at h
  unfold laws_toEpoch.f
  repeat (first | exact Ev.now _ | (refine Ev.bind (laws_toIncludesS_ev _ (by omega)) ?_; try simp only []) | (refine Ev.bind (laws_toPolicy_ev _ (by omega)) ?_; try simp only []))

theorem laws_toEpochS_ev (l : List (S165)) (h : l.length + (l.map n165).sum ≤ 1048576) : Ev (fun k => laws_toEpochS.f k l) (l.map cv165) := by
  unfold laws_toEpochS.f
  refine Ev.pos (by omega) (Ev.pos (by omega) ?_)
  refine ev_fill l cv165 (fun k out i => laws_toEpochS.l0 k l out i) ?_ ?_ _ (by simp)
  · intro out ho
    refine Ev.succ ?_
    simp only [laws_toEpochS.l0, Int.lt_irrefl, if_false]
    exact Ev.now _
  · intro i x out r hx ho hr
    have hi := lt_of_get hx
    have h1 : ((i : Int) < (l.length : Int)) = True := eq_true (by omega)
    have h2 : (0 ≤ (i : Int)) = True := eq_true (by omega)
    have h3 : ((i : Int) < (out.length : Int)) = True := eq_true (by omega)
    refine Ev.succ ?_
    simp only [laws_toEpochS.l0, h1, h2, h3, if_true, rd_at_T165 hx, wr1 hi (by omega), Int.toNat_natCast]
    refine Ev.bind (laws_toEpoch_ev x (by have := le_sum n165 hx; omega)) ?_
    simp only [h3, if_true]
    (try simp only [eta241, eta219])
    exact hr

theorem impl_NumberAt_ev (l : List S111) (t : Int) (h : l.length ≤ 1048576) : Ev (fun k => impl_NumberAt.f k l t) (numV l t) := by
  unfold impl_NumberAt.f numV
  refine ev_fold l (numStep t) id (fun _ _ => True) (fun k s i => impl_NumberAt.l0 k t s l (l.length : Int) i) ?_ ?_ ?_ 0 trivial
  · intro s _
    refine Ev.succ ?_
    simp only [impl_NumberAt.l0, Int.lt_irrefl, if_false]
    exact Ev.now _
  · intro i x s hx hs
    trivial
  · intro i x s r hx hs hr
    have hi := lt_of_get hx
    have h1 : ((i : Int) < (l.length : Int)) = True := eq_true (by omega)
    have h2 : (0 ≤ (i : Int)) = True := eq_true (by omega)
    refine Ev.succ ?_
    simp only [impl_NumberAt.l0, h1, h2, if_true, rd_at_T111 hx, wr1 hi (by omega)]
    unfold numStep at hr
    by_cases c : x.f1 ≤ t
    · simp only [if_pos c] at hr ⊢; exact hr
    · simp only [if_neg c] at hr ⊢; exact hr

theorem impl_FindEpoch_eq (l : List S111) (n : Int) : impl_FindEpoch.f l n = some (findV l n) := by
  unfold impl_FindEpoch.f findV
  exact idxO_total (fun x : S111 => x.f0 == n) l 0

theorem impl_InRange_eq (a b c : Int) : impl_InRange.f a b c = some (inB a b c) := by
  unfold impl_InRange.f
  rw [ite_dand]; rfl

theorem impl_IsTime_eq (a : Int) : impl_IsTime.f a = some (timeB a) := by
  unfold impl_IsTime.f
  rw [impl_InRange_eq]; rfl

theorem impl_EndOf_eq (a b : Int) : impl_EndOf.f a b = some (endB a b) := by
  unfold impl_EndOf.f endB
  simp only [impl_IsTime_eq, impl_InRange_eq, Option.bind_some]
  by_cases c : timeB a = true
  · by_cases c2 : inB b 0 10000 = true
    · have h1 := timeB_iff.1 c
      have h2 := timeB_iff.1 (show timeB b = true from c2)
      simp only [if_pos c, if_pos c2, if_pos (show timeB a = true ∧ timeB b = true from ⟨c, c2⟩), wr (x := a + b) (by omega) (by omega)]
      rfl
    · simp only [if_pos c, if_neg c2, if_neg (show ¬ (timeB a = true ∧ timeB b = true) from fun h => c2 h.2)]
  · simp only [if_neg c, if_neg (show ¬ (timeB a = true ∧ timeB b = true) from fun h => c h.1)]

theorem impl_MayStillUse_ev (l : List S111) (n t : Int) (h : l.length ≤ 1048576) : Ev (fun k => impl_MayStillUse.f k l n t) (stillV l n t) := by
  unfold impl_MayStillUse.f stillV
  simp only [impl_FindEpoch_eq, Option.bind_some]
  by_cases c : findV l n < 0
  · simp only [if_pos c]; exact Ev.now _
  · simp only [if_neg c]
    have hf := findV_in l n
    refine Ev.bind (impl_NumberAt_ev l t h) ?_
    by_cases c2 : numV l t = n
    · simp only [if_pos c2]; exact Ev.now _
    · have hw : wrap64 (findV l n + 1) = findV l n + 1 := wr (by omega) (by omega)
      simp only [if_neg c2, hw]
      by_cases c3 : findV l n + 1 < (l.length : Int)
      · have h0 : (0 ≤ findV l n + 1) = True := eq_true (by omega)
        simp only [if_pos c3, h0, if_true, impl_EndOf_eq, Option.bind_some]; exact Ev.now _
      · simp only [if_neg c3]; exact Ev.now _

theorem laws_eqIncludes_refl (x : S208) : laws_eqIncludes.f x.f0 x.f1 x.f0 x.f1 = some true := by
  unfold laws_eqIncludes.f
  simp

theorem laws_eqIncludesS_refl (l : List (S208)) (h : l.length ≤ 1048576) : Ev (fun k => laws_eqIncludesS.f k l l) true := by
  unfold laws_eqIncludesS.f
  refine Ev.pos rfl ?_
  refine ev_walk l (fun k i => laws_eqIncludesS.l0 k l l i) true ?_ ?_
  · refine Ev.succ ?_
    simp only [laws_eqIncludesS.l0, Int.lt_irrefl, if_false]
    exact Ev.now _
  · intro i x hx hr
    have hi := lt_of_get hx
    have h1 : ((i : Int) < (l.length : Int)) = True := eq_true (by omega)
    have h2 : (0 ≤ (i : Int)) = True := eq_true (by omega)
    refine Ev.succ ?_
    simp only [laws_eqIncludesS.l0, h1, h2, if_true, rd_at_T208 hx, wr1 hi (by omega), laws_eqIncludes_refl x, Option.bind_some]
    exact hr

theorem laws_eqCondS_reflN (N : Nat) : ∀ l : List S219, l.length + (l.map n219).sum ≤ N → N ≤ 1048576 → Ev (fun k => laws_eqCondS.f k l l) true := by
  induction N using Nat.strongRecOn with
  | _ N ih =>
  intro l h hN
  refine Ev.succ ?_
  simp only [laws_eqCondS.f]
  refine Ev.pos (by first | trivial | rfl) ?_
  refine ev_walk l (fun k i => laws_eqCondS.l0 k l l i) true ?_ ?_
  · refine Ev.succ ?_
    simp only [laws_eqCondS.l0, Int.lt_irrefl, if_false]
    exact Ev.now _
  · intro i x hx hr
    have hi := lt_of_get hx
    have h1 : ((i : Int) < (l.length : Int)) = True := eq_true (by omega)
    have h2 : (0 ≤ (i : Int)) = True := eq_true (by omega)
    have hn := le_sum n219 hx
    rw [n219_f] at hn
    have e := ih (x.f3.length + (x.f3.map n219).sum) (by omega) x.f3 (Nat.le_refl _) (by omega)
    have e' : Ev (fun k => laws_eqCond.f k x.f0 x.f1 x.f2 x.f3 x.f0 x.f1 x.f2 x.f3) true := by
      refine Ev.succ ?_
      simp only [laws_eqCond.f, if_true]
      refine Ev.bind e ?_
      simp only [if_true]
      exact Ev.now _
    refine Ev.succ ?_
    simp only [laws_eqCondS.l0, h1, h2, if_true, rd_at_T219 hx, wr1 hi (by omega)]
    refine Ev.bind e' ?_
    simp only [if_true]
    exact hr
theorem laws_eqCondS_refl (l : List S219) (h : l.length + (l.map n219).sum ≤ 1048576) : Ev (fun k => laws_eqCondS.f k l l) true := laws_eqCondS_reflN _ l (Nat.le_refl _) h
theorem laws_eqCond_refl (x : S219) (h : n219 x ≤ 1048576) : Ev (fun k => laws_eqCond.f k x.f0 x.f1 x.f2 x.f3 x.f0 x.f1 x.f2 x.f3) true := by
  rw [n219_f] at h
  refine Ev.succ ?_
  simp only [laws_eqCond.f, if_true]
  refine Ev.bind (laws_eqCondS_refl x.f3 h) ?_
  simp only [if_true]
  exact Ev.now _



theorem laws_eqRule_refl (x : S221) (h : n221 x ≤ 1048576) : Ev (fun k => laws_eqRule.f k x.f0 x.f1 x.f2 x.f3.f0 x.f3.f1 x.f3.f2 x.f3.f3 x.f0 x.f1 x.f2 x.f3.f0 x.f3.f1 x.f3.f2 x.f3.f3) true := by
  unfold n221 at h
  unfold laws_eqRule.f
  simp only [if_true, bne_self_eq_false, Bool.false_eq_true, if_false]
  repeat (first | exact Ev.now _ | (refine Ev.bind (laws_eqCond_refl _ (by omega)) ?_; simp only [if_true, bne_self_eq_false, Bool.false_eq_true, if_false]))

theorem laws_eqRuleS_refl (l : List (S221)) (h : l.length + (l.map n221).sum ≤ 1048576) : Ev (fun k => laws_eqRuleS.f k l l) true := by
  unfold laws_eqRuleS.f
  refine Ev.pos rfl ?_
  refine ev_walk l (fun k i => laws_eqRuleS.l0 k l l i) true ?_ ?_
  · refine Ev.succ ?_
    simp only [laws_eqRuleS.l0, Int.lt_irrefl, if_false]
    exact Ev.now _
  · intro i x hx hr
    have hi := lt_of_get hx
    have h1 : ((i : Int) < (l.length : Int)) = True := eq_true (by omega)
    have h2 : (0 ≤ (i : Int)) = True := eq_true (by omega)
    refine Ev.succ ?_
    simp only [laws_eqRuleS.l0, h1, h2, if_true, rd_at_T221 hx, wr1 hi (by omega)]
    refine Ev.bind (laws_eqRule_refl x (by have := le_sum n221 hx; omega)) ?_
    simp only [if_true]
    exact hr

theorem laws_eqPolicy_refl (x : S109) (h : n109 x ≤ 1048576) : Ev (fun k => laws_eqPolicy.f k x.f0 x.f1 x.f0 x.f1) true := by
  unfold n109 at h
  unfold laws_eqPolicy.f
  simp only [if_true, bne_self_eq_false, Bool.false_eq_true, if_false]
  repeat (first | exact Ev.now _ | (refine Ev.bind (laws_eqRuleS_refl _ (by omega)) ?_; simp only [if_true, bne_self_eq_false, Bool.false_eq_true, if_false]))

theorem laws_eqEpoch_refl (x : S111) (h : n111 x ≤ 1048576) : Ev (fun k => laws_eqEpoch.f k x.f0 x.f1 x.f2 x.f3.f0 x.f3.f1 x.f0 x.f1 x.f2 x.f3.f0 x.f3.f1) true := by
  unfold n111 at h
  unfold laws_eqEpoch.f
  simp only [if_true, bne_self_eq_false, Bool.false_eq_true, if_false]
  repeat (first | exact Ev.now _ | (refine Ev.bind (laws_eqIncludesS_refl _ (by omega)) ?_; simp only [if_true, bne_self_eq_false, Bool.false_eq_true, if_false]) | (refine Ev.bind (laws_eqPolicy_refl _ (by omega)) ?_; simp only [if_true, bne_self_eq_false, Bool.false_eq_true, if_false]))

theorem laws_eqEpochS_refl (l : List (S111)) (h : l.length + (l.map n111).sum ≤ 1048576) : Ev (fun k => laws_eqEpochS.f k l l) true := by
  unfold laws_eqEpochS.f
  refine Ev.pos rfl ?_
  refine ev_walk l (fun k i => laws_eqEpochS.l0 k l l i) true ?_ ?_
  · refine Ev.succ ?_
    simp only [laws_eqEpochS.l0, Int.lt_irrefl, if_false]
    exact Ev.now _
  · intro i x hx hr
    have hi := lt_of_get hx
    have h1 : ((i : Int) < (l.length : Int)) = True := eq_true (by omega)
    have h2 : (0 ≤ (i : Int)) = True := eq_true (by omega)
    refine Ev.succ ?_
    simp only [laws_eqEpochS.l0, h1, h2, if_true, rd_at_T111 hx, wr1 hi (by omega)]
    refine Ev.bind (laws_eqEpoch_refl x (by have := le_sum n111 hx; omega)) ?_
    simp only [if_true]
    exact hr

theorem FnExactMayStillUse : laws_FnExactMayStillUse.Pure := by
  intro l n t h1 h2 _ _
  refine Ev.rounds ?_
  unfold laws_FnExactMayStillUse.f
  obtain ⟨r, e, hr1, hr⟩ := laws_szEpochS_le l h1 h2 1048576 (by omega) (by omega)
  refine Ev.bind e ?_
  by_cases c : r < 0
  · simp only [if_pos c]; exact Ev.now _
  simp only [if_neg c]
  have hb := hr (by omega)
  have hs : ((l.map cv165).map n111).sum = (l.map n165).sum := by simp only [List.map_map, Function.comp_def, ncv165]
  have hm : (l.map cv165).length + ((l.map cv165).map n111).sum ≤ 1048576 := by rw [List.length_map, hs]; omega
  repeat (first
    | exact Ev.now _
    | ((first | refine Ev.bind (laws_toEpochS_ev l (by omega)) ?_ | refine Ev.bind (spec_MayStillUse_ev _ n t (by omega)) ?_ | refine Ev.bind (impl_MayStillUse_ev _ n t (by omega)) ?_ | refine Ev.bind (laws_eqEpochS_refl _ hm) ?_); try simp only [if_true, if_false, bne_self_eq_false, Bool.false_eq_true])
    | simp only [if_true, if_false, bne_self_eq_false, Bool.false_eq_true])

end Go.Proofs.Ytplfbjbbnjlnkaa.Pure
