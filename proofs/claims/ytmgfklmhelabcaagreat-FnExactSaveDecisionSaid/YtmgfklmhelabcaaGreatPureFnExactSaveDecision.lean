/- The law FnExactSaveDecision answers true for all arguments, over numbers and lists alone: what each function computes, and that program and reference compute the same. No condition. -/
import Derived.Test.YtmgfklmhelabcaaGreatQFnExactSaveDecisionx17
import Derived.Test.YtmgfklmhelabcaaGreatL
namespace Go.Proofs.YtmgfklmhelabcaaGreat.Pure
open Go.RowKit Go.Proofs.YtmgfklmhelabcaaGreat.QFnExactSaveDecision Go.Proofs.YtmgfklmhelabcaaGreatL Go.Proofs.YtmgfklmhelabcaaGreatW.PrintWords Go.Proofs.YtmgfklmhelabcaaGreatW.PrintLast
set_option linter.unusedVariables false
set_option linter.unusedSimpArgs false

def cv156 (x : S156) : S154 := ⟨x.f0, x.f1⟩
def cv158 (x : S158) : S136 := ⟨x.f0, x.f1, x.f2, x.f3, x.f4, x.f5⟩
theorem eta188 (x : S188) : (⟨x.f0, x.f1, x.f2, x.f3⟩ : S188) = x := by cases x; rfl
mutual
def n188 : S188 → Nat
  | ⟨x0, x1, x2, x3⟩ => x3.length + nL188 x3
def nL188 : List S188 → Nat
  | [] => 0
  | x :: l => n188 x + nL188 l
end
theorem nL188_eq : ∀ l : List S188, nL188 l = (l.map n188).sum
  | [] => by simp [nL188]
  | x :: l => by simp [nL188, nL188_eq l]
theorem n188_f (x : S188) : n188 x = x.f3.length + (x.f3.map n188).sum := by
  cases x
  simp only [n188, nL188_eq]
mutual
def cv188 : S188 → S172
  | ⟨x0, x1, x2, x3⟩ => ⟨x0, x1, x2, cvL188 x3⟩
def cvL188 : List S188 → List S172
  | [] => []
  | x :: l => cv188 x :: cvL188 l
end
theorem cvL188_eq : ∀ l : List S188, cvL188 l = l.map cv188
  | [] => by simp [cvL188]
  | x :: l => by simp [cvL188, cvL188_eq l]
theorem cv188_f (x : S188) : cv188 x = ⟨x.f0, x.f1, x.f2, x.f3.map cv188⟩ := by
  cases x
  simp only [cv188, cvL188_eq]
def cv190 (x : S190) : S174 := ⟨x.f0, x.f1, x.f2, (cv188 x.f3)⟩
def n190 (x : S190) : Nat := n188 x.f3
def cv26 (x : S26) : S39 := ⟨x.f0, (x.f1.map cv190)⟩
def n26 (x : S26) : Nat := x.f1.length + (x.f1.map n190).sum
theorem eta172 (x : S172) : (⟨x.f0, x.f1, x.f2, x.f3⟩ : S172) = x := by cases x; rfl
mutual
def n172 : S172 → Nat
  | ⟨x0, x1, x2, x3⟩ => x3.length + nL172 x3
def nL172 : List S172 → Nat
  | [] => 0
  | x :: l => n172 x + nL172 l
end
theorem nL172_eq : ∀ l : List S172, nL172 l = (l.map n172).sum
  | [] => by simp [nL172]
  | x :: l => by simp [nL172, nL172_eq l]
theorem n172_f (x : S172) : n172 x = x.f3.length + (x.f3.map n172).sum := by
  cases x
  simp only [n172, nL172_eq]
def n174 (x : S174) : Nat := n172 x.f3
def n39 (x : S39) : Nat := x.f1.length + (x.f1.map n174).sum
def cv28 (x : S28) : S41 := ⟨x.f0, x.f1, x.f2, x.f3, x.f4, x.f5⟩
theorem rd_at_T156 {l : List S156} {i : Nat} {x : S156} (h : l[i]? = some x) : rd_T156 l (i : Int) = x := getD_nat l _ i x h
theorem rd_at_T158 {l : List S158} {i : Nat} {x : S158} (h : l[i]? = some x) : rd_T158 l (i : Int) = x := getD_nat l _ i x h
theorem rd_at_T188 {l : List S188} {i : Nat} {x : S188} (h : l[i]? = some x) : rd_T188 l (i : Int) = x := getD_nat l _ i x h
theorem rd_at_T190 {l : List S190} {i : Nat} {x : S190} (h : l[i]? = some x) : rd_T190 l (i : Int) = x := getD_nat l _ i x h
theorem rd_at_T26 {l : List S26} {i : Nat} {x : S26} (h : l[i]? = some x) : rd_T26 l (i : Int) = x := getD_nat l _ i x h
theorem rd_at_T154 {l : List S154} {i : Nat} {x : S154} (h : l[i]? = some x) : rd_T154 l (i : Int) = x := getD_nat l _ i x h
theorem rd_at_T136 {l : List S136} {i : Nat} {x : S136} (h : l[i]? = some x) : rd_T136 l (i : Int) = x := getD_nat l _ i x h
theorem rd_at_T172 {l : List S172} {i : Nat} {x : S172} (h : l[i]? = some x) : rd_T172 l (i : Int) = x := getD_nat l _ i x h
theorem rd_at_T174 {l : List S174} {i : Nat} {x : S174} (h : l[i]? = some x) : rd_T174 l (i : Int) = x := getD_nat l _ i x h
theorem rd_at_T39 {l : List S39} {i : Nat} {x : S39} (h : l[i]? = some x) : rd_T39 l (i : Int) = x := getD_nat l _ i x h
theorem rd_at_T41 {l : List S41} {i : Nat} {x : S41} (h : l[i]? = some x) : rd_T41 l (i : Int) = x := getD_nat l _ i x h
theorem rd_at_T48 {l : List S48} {i : Nat} {x : S48} (h : l[i]? = some x) : rd_T48 l (i : Int) = x := getD_nat l _ i x h
theorem rd_at_T28 {l : List S28} {i : Nat} {x : S28} (h : l[i]? = some x) : rd_T28 l (i : Int) = x := getD_nat l _ i x h
def eqT154 (x y : S154) : Bool := (x.f0 == y.f0) && ((x.f1 == y.f1))
def eqT136 (x y : S136) : Bool := (x.f0 == y.f0) && ((x.f1 == y.f1) && ((x.f2 == y.f2) && ((x.f3 == y.f3) && ((x.f4 == y.f4) && ((x.f5 == y.f5))))))
def eqT41 (x y : S41) : Bool := (x.f0 == y.f0) && ((x.f1 == y.f1) && ((x.f2 == y.f2) && ((x.f3 == y.f3) && ((x.f4 == y.f4) && ((x.f5 == y.f5))))))
def eqT48 (x y : S48) : Bool := (x.f0.f0 == y.f0.f0) && ((x.f0.f1 == y.f0.f1) && ((x.f0.f2 == y.f0.f2) && ((x.f0.f3 == y.f0.f3) && ((x.f0.f4 == y.f0.f4) && ((x.f0.f5 == y.f0.f5) && ((x.f1 == y.f1) && ((x.f2 == y.f2))))))))
theorem ncvN188 (l : List S188) : (cvL188 l).length = l.length := by rw [cvL188_eq, List.length_map]
mutual
theorem ncv188 : ∀ x : S188, n172 (cv188 x) = n188 x
  | ⟨x0, x1, x2, x3⟩ => by simp only [cv188, n172, n188, ncvL188 x3, ncvN188 x3]
theorem ncvL188 : ∀ l : List S188, nL172 (cvL188 l) = nL188 l
  | [] => by simp [cvL188, nL172, nL188]
  | x :: l => by simp only [cvL188, nL172, nL188, ncv188 x, ncvL188 l]
end
theorem ncv190 (x : S190) : n174 (cv190 x) = n190 x := by
  simp only [cv190, n174, n190, List.length_map, List.map_map, Function.comp_def, ncv188]
theorem ncv26 (x : S26) : n39 (cv26 x) = n26 x := by
  simp only [cv26, n39, n26, List.length_map, List.map_map, Function.comp_def, ncv190]

theorem laws_szIncludesS_le (l : List (S156)) (hl : l.length ≤ maxLen) (a : Int) (h0 : 0 ≤ a) (ha : a ≤ 1048576) : ∃ r, laws_szIncludesS.f l a = some r ∧ r ≤ 1048576 ∧ (0 ≤ r → r + (l.length : Nat) ≤ a) := by
  unfold laws_szIncludesS.f
  unfold maxLen at hl
  rw [wr (by omega) (by omega)]
  split
  · exact ⟨_, rfl, by omega, by omega⟩
  · exact ⟨_, rfl, by omega, by omega⟩

theorem laws_szFactS_le (l : List (S158)) (hl : l.length ≤ maxLen) (a : Int) (h0 : 0 ≤ a) (ha : a ≤ 1048576) : ∃ r, laws_szFactS.f l a = some r ∧ r ≤ 1048576 ∧ (0 ≤ r → r + (l.length : Nat) ≤ a) := by
  unfold laws_szFactS.f
  unfold maxLen at hl
  rw [wr (by omega) (by omega)]
  split
  · exact ⟨_, rfl, by omega, by omega⟩
  · exact ⟨_, rfl, by omega, by omega⟩

theorem gin188 {x : S188} (h : g188 x) : x.f3.length ≤ maxLen ∧ ∀ y ∈ x.f3, g188 y := by
  obtain ⟨k, h⟩ := h
  cases k with
  | zero => exact h.elim
  | succ k =>
    obtain ⟨_, _, _, h1, h2⟩ := (show GF188 _ x from h)
    exact ⟨h1, fun y hy => ⟨k, h2 y hy⟩⟩
theorem laws_szCondS_leN (N : Nat) : ∀ (l : List S188) (hl : l.length ≤ maxLen) (hg : ∀ y ∈ l, g188 y) (a : Int), 0 ≤ a → a ≤ 1048576 → a.toNat ≤ N → ∃ r, Ev (fun k => laws_szCondS.f k l a) r ∧ r ≤ 1048576 ∧ (0 ≤ r → r + (l.length + (l.map n188).sum : Nat) ≤ a) := by
  induction N using Nat.strongRecOn with
  | _ N ih =>
  intro l hl hg a h0 ha hN
  unfold maxLen at hl
  by_cases c : a - (l.length : Int) < 0
  · refine ⟨-1, Ev.succ ?_, by omega, by omega⟩
    simp only [laws_szCondS.f, wr (x := a - (l.length : Int)) (by omega) (by omega), if_pos c]
    exact Ev.now _
  have hend : ∀ a, Ev (fun k => laws_szCondS.l0 k l a (l.length : Int)) a := by
    intro a
    refine Ev.succ ?_
    simp only [laws_szCondS.l0, Int.lt_irrefl, if_false]
    exact Ev.now _
  have hstep : ∀ (i : Nat) (x : S188) (b : Int), l[i]? = some x → 0 ≤ b → b ≤ a - (l.length : Int) → (∃ r, Ev (fun k => laws_szCondS.l0 k l b (i : Int)) r ∧ r < 0) ∨ ∃ a', 0 ≤ a' ∧ a' + n188 x ≤ b ∧ ∀ r, Ev (fun k => laws_szCondS.l0 k l a' ((i + 1 : Nat) : Int)) r → Ev (fun k => laws_szCondS.l0 k l b (i : Int)) r := by
    intro i x b hx hb0 hba
    have hi := lt_of_get hx
    have h1 : ((i : Int) < (l.length : Int)) = True := eq_true (by omega)
    have h2 : (0 ≤ (i : Int)) = True := eq_true (by omega)
    have hgx := gin188 (hg x (List.mem_of_getElem? hx))
    obtain ⟨r, e, br, s⟩ := ih b.toNat (by omega) x.f3 hgx.1 hgx.2 b hb0 (by omega) (Nat.le_refl _)
    have e' : Ev (fun k => laws_szCond.f k x.f0 x.f1 x.f2 x.f3 b) (if r < 0 then -1 else r) := by
      refine Ev.succ ?_
      simp only [laws_szCond.f]
      refine Ev.bind e ?_
      by_cases c2 : r < 0
      · simp only [if_pos c2]; exact Ev.now _
      · simp only [if_neg c2]; exact Ev.now _
    by_cases c2 : r < 0
    · left
      rw [if_pos c2] at e'
      refine ⟨-1, Ev.succ ?_, by omega⟩
      simp only [laws_szCondS.l0, h1, h2, if_true, rd_at_T188 hx]
      refine Ev.bind e' ?_
      exact Ev.pos (by omega) (Ev.now _)
    · right
      rw [if_neg c2] at e'
      have s' := s (by omega)
      rw [← n188_f] at s'
      refine ⟨r, by omega, by omega, fun r' hr => Ev.succ ?_⟩
      simp only [laws_szCondS.l0, h1, h2, if_true, rd_at_T188 hx]
      refine Ev.bind e' ?_
      simp only [if_neg c2, wr1 hi (by omega)]
      exact hr
  obtain ⟨r, h1, h2, h3⟩ := ev_sz n188 l (fun k a i => laws_szCondS.l0 k l a i) (a - (l.length : Int)) hend hstep (a - (l.length : Int)) (by omega) (by omega)
  refine ⟨r, Ev.succ ?_, by omega, fun h => by have := h3 h; omega⟩
  simp only [laws_szCondS.f, wr (x := a - (l.length : Int)) (by omega) (by omega), if_neg c]
  exact h1
theorem laws_szCondS_le (l : List S188) (hl : l.length ≤ maxLen) (hg : ∀ y ∈ l, g188 y) (a : Int) (h0 : 0 ≤ a) (ha : a ≤ 1048576) : ∃ r, Ev (fun k => laws_szCondS.f k l a) r ∧ r ≤ 1048576 ∧ (0 ≤ r → r + (l.length + (l.map n188).sum : Nat) ≤ a) := laws_szCondS_leN _ l hl hg a h0 ha (Nat.le_refl _)
theorem laws_szCond_le (x : S188) (hg : g188 x) (a : Int) (h0 : 0 ≤ a) (ha : a ≤ 1048576) : ∃ r, Ev (fun k => laws_szCond.f k x.f0 x.f1 x.f2 x.f3 a) r ∧ r ≤ 1048576 ∧ (0 ≤ r → r + (n188 x : Nat) ≤ a) := by
  have hgx := gin188 hg
  obtain ⟨r, e, b, s⟩ := laws_szCondS_le x.f3 hgx.1 hgx.2 a h0 ha
  by_cases c : r < 0
  · refine ⟨-1, Ev.succ ?_, by omega, by omega⟩
    simp only [laws_szCond.f]
    refine Ev.bind e ?_
    simp only [if_pos c]; exact Ev.now _
  · refine ⟨r, Ev.succ ?_, b, fun h => by rw [n188_f]; exact s h⟩
    simp only [laws_szCond.f]
    refine Ev.bind e ?_
    simp only [if_neg c]; exact Ev.now _



theorem laws_szRule_le (x : S190) (hg : g190 x) (a : Int) (h0 : 0 ≤ a) (ha : a ≤ 1048576) : ∃ r, Ev (fun k => laws_szRule.f k x.f0 x.f1 x.f2 x.f3.f0 x.f3.f1 x.f3.f2 x.f3.f3 a) r ∧ r ≤ 1048576 ∧ (0 ≤ r → r + (n190 x : Nat) ≤ a) := by
  unfold g190 at hg
  unfold n190 laws_szRule.f
  obtain ⟨r0, e0, b0, s0⟩ := laws_szCond_le x.f3 (by have := hg; simp_all) a (by omega) (by omega)
  by_cases c0 : r0 < 0
  · exact ⟨-1, by refine Ev.bind e0 ?_; simp only [if_pos c0]; exact Ev.now _, by omega, by omega⟩
  have s0' := s0 (by omega)
  exact ⟨r0, by refine Ev.bind e0 ?_; simp only [if_neg c0]; exact Ev.now _, by omega, fun _ => by omega⟩

theorem laws_szRuleS_le (l : List (S190)) (hl : l.length ≤ maxLen) (hg : ∀ y_ ∈ l, g190 y_) (a : Int) (h0 : 0 ≤ a) (ha : a ≤ 1048576) : ∃ r, Ev (fun k => laws_szRuleS.f k l a) r ∧ r ≤ 1048576 ∧ (0 ≤ r → r + (l.length + (l.map n190).sum : Nat) ≤ a) := by
  unfold laws_szRuleS.f
  unfold maxLen at hl
  rw [wr (by omega) (by omega)]
  by_cases c : a - (l.length : Int) < 0
  · simp only [if_pos c]; exact ⟨_, Ev.now _, by omega, by omega⟩
  simp only [if_neg c]
  have hend : ∀ a, Ev (fun k => laws_szRuleS.l0 k l a (l.length : Int)) a := by
    intro a
    refine Ev.succ ?_
    simp only [laws_szRuleS.l0, Int.lt_irrefl, if_false]
    exact Ev.now _
  have hstep : ∀ (i : Nat) (x : S190) (a : Int), l[i]? = some x → 0 ≤ a → a ≤ 1048576 → (∃ r, Ev (fun k => laws_szRuleS.l0 k l a (i : Int)) r ∧ r < 0) ∨ ∃ a', 0 ≤ a' ∧ a' + n190 x ≤ a ∧ ∀ r, Ev (fun k => laws_szRuleS.l0 k l a' ((i + 1 : Nat) : Int)) r → Ev (fun k => laws_szRuleS.l0 k l a (i : Int)) r := by
    intro i x a hx h0 ha
    have hi := lt_of_get hx
    have h1 : ((i : Int) < (l.length : Int)) = True := eq_true (by omega)
    have h2 : (0 ≤ (i : Int)) = True := eq_true (by omega)
    obtain ⟨r, e, b, s⟩ := laws_szRule_le x (hg x (List.mem_of_getElem? hx)) a h0 ha
    by_cases c2 : r < 0
    · left
      refine ⟨-1, Ev.succ ?_, by omega⟩
      simp only [laws_szRuleS.l0, h1, h2, if_true, rd_at_T190 hx]
      refine Ev.bind e ?_
      simp only [if_pos c2]
      exact Ev.now _
    · right
      have s' := s (by omega)
      refine ⟨r, by omega, by omega, fun r' hr => Ev.succ ?_⟩
      simp only [laws_szRuleS.l0, h1, h2, if_true, rd_at_T190 hx]
      refine Ev.bind e ?_
      simp only [if_neg c2, wr1 hi (by omega)]
      exact hr
  obtain ⟨r, h1, h2, h3⟩ := ev_sz n190 l (fun k a i => laws_szRuleS.l0 k l a i) 1048576 hend hstep (a - l.length) (by omega) (by omega)
  exact ⟨r, h1, h2, fun h => by have := h3 h; omega⟩

theorem laws_szPolicy_le (x : S26) (hg : g26 x) (a : Int) (h0 : 0 ≤ a) (ha : a ≤ 1048576) : ∃ r, Ev (fun k => laws_szPolicy.f k x.f0 x.f1 a) r ∧ r ≤ 1048576 ∧ (0 ≤ r → r + (n26 x : Nat) ≤ a) := by
  unfold g26 at hg
  unfold n26 laws_szPolicy.f
  obtain ⟨r0, e0, b0, s0⟩ := laws_szRuleS_le x.f1 (by have := hg; simp_all) (by have := hg; simp_all) a (by omega) (by omega)
  by_cases c0 : r0 < 0
  · exact ⟨-1, by refine Ev.bind e0 ?_; simp only [if_pos c0]; exact Ev.now _, by omega, by omega⟩
  have s0' := s0 (by omega)
  exact ⟨r0, by refine Ev.bind e0 ?_; simp only [if_neg c0]; exact Ev.now _, by omega, fun _ => by omega⟩

theorem laws_toIncludes_eq (x : S156) : laws_toIncludes.f x.f0 x.f1 = some ((cv156 x).f0, (cv156 x).f1) := by
  unfold laws_toIncludes.f
  first | rfl | (simp only [Option.bind_some]; rfl)

theorem laws_toIncludesS_ev (l : List (S156)) (h : l.length ≤ 1048576) : Ev (fun k => laws_toIncludesS.f k l) (l.map cv156) := by
  unfold laws_toIncludesS.f
  refine Ev.pos (by omega) (Ev.pos (by omega) ?_)
  refine ev_fill l cv156 (fun k out i => laws_toIncludesS.l0 k l out i) ?_ ?_ _ (by simp)
  · intro out ho
    refine Ev.succ ?_
    simp only [laws_toIncludesS.l0, Int.lt_irrefl, if_false]
    exact Ev.now _
  · intro i x out r hx ho hr
    have hi := lt_of_get hx
    have h1 : ((i : Int) < (l.length : Int)) = True := eq_true (by omega)
    have h2 : (0 ≤ (i : Int)) = True := eq_true (by omega)
    have h3 : ((i : Int) < (out.length : Int)) = True := eq_true (by omega)
    refine Ev.succ ?_
    simp only [laws_toIncludesS.l0, h1, h2, h3, if_true, rd_at_T156 hx, wr1 hi (by omega), Int.toNat_natCast, laws_toIncludes_eq x, Option.bind_some]
    exact hr

theorem laws_toFact_eq (x : S158) : laws_toFact.f x.f0 x.f1 x.f2 x.f3 x.f4 x.f5 = some ((cv158 x).f0, (cv158 x).f1, (cv158 x).f2, (cv158 x).f3, (cv158 x).f4, (cv158 x).f5) := by
  unfold laws_toFact.f
  first | rfl | (simp only [Option.bind_some]; rfl)

theorem laws_toFactS_ev (l : List (S158)) (h : l.length ≤ 1048576) : Ev (fun k => laws_toFactS.f k l) (l.map cv158) := by
  unfold laws_toFactS.f
  refine Ev.pos (by omega) (Ev.pos (by omega) ?_)
  refine ev_fill l cv158 (fun k out i => laws_toFactS.l0 k l out i) ?_ ?_ _ (by simp)
  · intro out ho
    refine Ev.succ ?_
    simp only [laws_toFactS.l0, Int.lt_irrefl, if_false]
    exact Ev.now _
  · intro i x out r hx ho hr
    have hi := lt_of_get hx
    have h1 : ((i : Int) < (l.length : Int)) = True := eq_true (by omega)
    have h2 : (0 ≤ (i : Int)) = True := eq_true (by omega)
    have h3 : ((i : Int) < (out.length : Int)) = True := eq_true (by omega)
    refine Ev.succ ?_
    simp only [laws_toFactS.l0, h1, h2, h3, if_true, rd_at_T158 hx, wr1 hi (by omega), Int.toNat_natCast, laws_toFact_eq x, Option.bind_some]
    exact hr

theorem laws_toCondS_evN (N : Nat) : ∀ l : List S188, l.length + (l.map n188).sum ≤ N → N ≤ 1048576 → Ev (fun k => laws_toCondS.f k l) (l.map cv188) := by
  induction N using Nat.strongRecOn with
  | _ N ih =>
  intro l h hN
  refine Ev.succ ?_
  simp only [laws_toCondS.f]
  refine Ev.pos (by omega) (Ev.pos (by omega) ?_)
  refine ev_fill l cv188 (fun k out i => laws_toCondS.l0 k l out i) ?_ ?_ _ (by simp)
  · intro out ho
    refine Ev.succ ?_
    simp only [laws_toCondS.l0, Int.lt_irrefl, if_false]
    exact Ev.now _
  · intro i x out r hx ho hr
    have hi := lt_of_get hx
    have h1 : ((i : Int) < (l.length : Int)) = True := eq_true (by omega)
    have h2 : (0 ≤ (i : Int)) = True := eq_true (by omega)
    have h3 : ((i : Int) < (out.length : Int)) = True := eq_true (by omega)
    have hn := le_sum n188 hx
    rw [n188_f] at hn
    have e := ih (x.f3.length + (x.f3.map n188).sum) (by omega) x.f3 (Nat.le_refl _) (by omega)
    have e' : Ev (fun k => laws_toCond.f k x.f0 x.f1 x.f2 x.f3) (x.f0, x.f1, x.f2, x.f3.map cv188) := by
      refine Ev.succ ?_
      simp only [laws_toCond.f]
      refine Ev.bind e ?_
      exact Ev.now _
    refine Ev.succ ?_
    simp only [laws_toCondS.l0, h1, h2, if_true, rd_at_T188 hx, wr1 hi (by omega), Int.toNat_natCast]
    refine Ev.bind e' ?_
    simp only [h3, if_true]
    rw [cv188_f] at hr
    exact hr
theorem laws_toCondS_ev (l : List S188) (h : l.length + (l.map n188).sum ≤ 1048576) : Ev (fun k => laws_toCondS.f k l) (l.map cv188) := laws_toCondS_evN _ l (Nat.le_refl _) h
theorem laws_toCond_ev (x : S188) (h : n188 x ≤ 1048576) : Ev (fun k => laws_toCond.f k x.f0 x.f1 x.f2 x.f3) ((cv188 x).f0, (cv188 x).f1, (cv188 x).f2, (cv188 x).f3) := by
  rw [n188_f] at h
  rw [cv188_f]
  refine Ev.succ ?_
  simp only [laws_toCond.f]
  refine Ev.bind (laws_toCondS_ev x.f3 h) ?_
  exact Ev.now _



theorem laws_toRule_ev (x : S190) (h : n190 x ≤ 1048576) : Ev (fun k => laws_toRule.f k x.f0 x.f1 x.f2 x.f3.f0 x.f3.f1 x.f3.f2 x.f3.f3) ((cv190 x).f0, (cv190 x).f1, (cv190 x).f2, (cv190 x).f3.f0, (cv190 x).f3.f1, (cv190 x).f3.f2, (cv190 x).f3.f3) := by
  unfold n190 at h
  unfold laws_toRule.f
  repeat (first | exact Ev.now _ | (refine Ev.bind (laws_toCond_ev _ (by omega)) ?_; try simp only []))

theorem laws_toRuleS_ev (l : List (S190)) (h : l.length + (l.map n190).sum ≤ 1048576) : Ev (fun k => laws_toRuleS.f k l) (l.map cv190) := by
  unfold laws_toRuleS.f
  refine Ev.pos (by omega) (Ev.pos (by omega) ?_)
  refine ev_fill l cv190 (fun k out i => laws_toRuleS.l0 k l out i) ?_ ?_ _ (by simp)
  · intro out ho
    refine Ev.succ ?_
    simp only [laws_toRuleS.l0, Int.lt_irrefl, if_false]
    exact Ev.now _
  · intro i x out r hx ho hr
    have hi := lt_of_get hx
    have h1 : ((i : Int) < (l.length : Int)) = True := eq_true (by omega)
    have h2 : (0 ≤ (i : Int)) = True := eq_true (by omega)
    have h3 : ((i : Int) < (out.length : Int)) = True := eq_true (by omega)
    refine Ev.succ ?_
    simp only [laws_toRuleS.l0, h1, h2, h3, if_true, rd_at_T190 hx, wr1 hi (by omega), Int.toNat_natCast]
    refine Ev.bind (laws_toRule_ev x (by have := le_sum n190 hx; omega)) ?_
    simp only [h3, if_true]
    (try simp only [eta188, eta172])
    exact hr

theorem laws_toPolicy_ev (x : S26) (h : n26 x ≤ 1048576) : Ev (fun k => laws_toPolicy.f k x.f0 x.f1) ((cv26 x).f0, (cv26 x).f1) := by
  unfold n26 at h
  unfold laws_toPolicy.f
  repeat (first | exact Ev.now _ | (refine Ev.bind (laws_toRuleS_ev _ (by omega)) ?_; try simp only []))

theorem laws_toRequest_eq (x : S28) : laws_toRequest.f x.f0 x.f1 x.f2 x.f3 x.f4 x.f5 = some ((cv28 x).f0, (cv28 x).f1, (cv28 x).f2, (cv28 x).f3, (cv28 x).f4, (cv28 x).f5) := by
  unfold laws_toRequest.f
  first | rfl | (simp only [Option.bind_some]; rfl)

theorem laws_eqIncludes_refl (x : S154) : laws_eqIncludes.f x.f0 x.f1 x.f0 x.f1 = some true := by
  unfold laws_eqIncludes.f
  simp

theorem laws_eqIncludesS_refl (l : List (S154)) (h : l.length ≤ 1048576) : Ev (fun k => laws_eqIncludesS.f k l l) true := by
  unfold laws_eqIncludesS.f
  refine Ev.pos rfl ?_
  refine ev_walk l (fun k i => laws_eqIncludesS.l0 k l l i) true ?_ ?_
  · refine Ev.succ ?_
    simp only [laws_eqIncludesS.l0, Int.lt_irrefl, if_false]
    exact Ev.now _
  · intro i x hx hr
    have hi := lt_of_get hx
    have h1 : ((i : Int) < (l.length : Int)) = True := eq_true (by omega)
    have h2 : (0 ≤ (i : Int)) = True := eq_true (by omega)
    refine Ev.succ ?_
    simp only [laws_eqIncludesS.l0, h1, h2, if_true, rd_at_T154 hx, wr1 hi (by omega), laws_eqIncludes_refl x, Option.bind_some]
    exact hr

theorem laws_eqFact_refl (x : S136) : laws_eqFact.f x.f0 x.f1 x.f2 x.f3 x.f4 x.f5 x.f0 x.f1 x.f2 x.f3 x.f4 x.f5 = some true := by
  unfold laws_eqFact.f
  simp

theorem laws_eqFactS_refl (l : List (S136)) (h : l.length ≤ 1048576) : Ev (fun k => laws_eqFactS.f k l l) true := by
  unfold laws_eqFactS.f
  refine Ev.pos rfl ?_
  refine ev_walk l (fun k i => laws_eqFactS.l0 k l l i) true ?_ ?_
  · refine Ev.succ ?_
    simp only [laws_eqFactS.l0, Int.lt_irrefl, if_false]
    exact Ev.now _
  · intro i x hx hr
    have hi := lt_of_get hx
    have h1 : ((i : Int) < (l.length : Int)) = True := eq_true (by omega)
    have h2 : (0 ≤ (i : Int)) = True := eq_true (by omega)
    refine Ev.succ ?_
    simp only [laws_eqFactS.l0, h1, h2, if_true, rd_at_T136 hx, wr1 hi (by omega), laws_eqFact_refl x, Option.bind_some]
    exact hr

theorem laws_eqCondS_reflN (N : Nat) : ∀ l : List S172, l.length + (l.map n172).sum ≤ N → N ≤ 1048576 → Ev (fun k => laws_eqCondS.f k l l) true := by
  induction N using Nat.strongRecOn with
  | _ N ih =>
  intro l h hN
  refine Ev.succ ?_
  simp only [laws_eqCondS.f]
  refine Ev.pos (by first | trivial | rfl) ?_
  refine ev_walk l (fun k i => laws_eqCondS.l0 k l l i) true ?_ ?_
  · refine Ev.succ ?_
    simp only [laws_eqCondS.l0, Int.lt_irrefl, if_false]
    exact Ev.now _
  · intro i x hx hr
    have hi := lt_of_get hx
    have h1 : ((i : Int) < (l.length : Int)) = True := eq_true (by omega)
    have h2 : (0 ≤ (i : Int)) = True := eq_true (by omega)
    have hn := le_sum n172 hx
    rw [n172_f] at hn
    have e := ih (x.f3.length + (x.f3.map n172).sum) (by omega) x.f3 (Nat.le_refl _) (by omega)
    have e' : Ev (fun k => laws_eqCond.f k x.f0 x.f1 x.f2 x.f3 x.f0 x.f1 x.f2 x.f3) true := by
      refine Ev.succ ?_
      simp only [laws_eqCond.f, if_true]
      refine Ev.bind e ?_
      simp only [if_true]
      exact Ev.now _
    refine Ev.succ ?_
    simp only [laws_eqCondS.l0, h1, h2, if_true, rd_at_T172 hx, wr1 hi (by omega)]
    refine Ev.bind e' ?_
    simp only [if_true]
    exact hr
theorem laws_eqCondS_refl (l : List S172) (h : l.length + (l.map n172).sum ≤ 1048576) : Ev (fun k => laws_eqCondS.f k l l) true := laws_eqCondS_reflN _ l (Nat.le_refl _) h
theorem laws_eqCond_refl (x : S172) (h : n172 x ≤ 1048576) : Ev (fun k => laws_eqCond.f k x.f0 x.f1 x.f2 x.f3 x.f0 x.f1 x.f2 x.f3) true := by
  rw [n172_f] at h
  refine Ev.succ ?_
  simp only [laws_eqCond.f, if_true]
  refine Ev.bind (laws_eqCondS_refl x.f3 h) ?_
  simp only [if_true]
  exact Ev.now _



theorem laws_eqRule_refl (x : S174) (h : n174 x ≤ 1048576) : Ev (fun k => laws_eqRule.f k x.f0 x.f1 x.f2 x.f3.f0 x.f3.f1 x.f3.f2 x.f3.f3 x.f0 x.f1 x.f2 x.f3.f0 x.f3.f1 x.f3.f2 x.f3.f3) true := by
  unfold n174 at h
  unfold laws_eqRule.f
  simp only [if_true, bne_self_eq_false, Bool.false_eq_true, if_false]
  repeat (first | exact Ev.now _ | (refine Ev.bind (laws_eqCond_refl _ (by omega)) ?_; simp only [if_true, bne_self_eq_false, Bool.false_eq_true, if_false]))

theorem laws_eqRuleS_refl (l : List (S174)) (h : l.length + (l.map n174).sum ≤ 1048576) : Ev (fun k => laws_eqRuleS.f k l l) true := by
  unfold laws_eqRuleS.f
  refine Ev.pos rfl ?_
  refine ev_walk l (fun k i => laws_eqRuleS.l0 k l l i) true ?_ ?_
  · refine Ev.succ ?_
    simp only [laws_eqRuleS.l0, Int.lt_irrefl, if_false]
    exact Ev.now _
  · intro i x hx hr
    have hi := lt_of_get hx
    have h1 : ((i : Int) < (l.length : Int)) = True := eq_true (by omega)
    have h2 : (0 ≤ (i : Int)) = True := eq_true (by omega)
    refine Ev.succ ?_
    simp only [laws_eqRuleS.l0, h1, h2, if_true, rd_at_T174 hx, wr1 hi (by omega)]
    refine Ev.bind (laws_eqRule_refl x (by have := le_sum n174 hx; omega)) ?_
    simp only [if_true]
    exact hr

theorem laws_eqPolicy_refl (x : S39) (h : n39 x ≤ 1048576) : Ev (fun k => laws_eqPolicy.f k x.f0 x.f1 x.f0 x.f1) true := by
  unfold n39 at h
  unfold laws_eqPolicy.f
  simp only [if_true, bne_self_eq_false, Bool.false_eq_true, if_false]
  repeat (first | exact Ev.now _ | (refine Ev.bind (laws_eqRuleS_refl _ (by omega)) ?_; simp only [if_true, bne_self_eq_false, Bool.false_eq_true, if_false]))

theorem spec_l1In_eq (a b c : Int) : spec_l1In.f a b c = some (inB a b c) := by
  unfold spec_l1In.f
  rw [ite_dand]; rfl

theorem spec_IsTime_eq (a : Int) : spec_IsTime.f a = some (timeB a) := by
  unfold spec_IsTime.f
  rw [spec_l1In_eq]; rfl

theorem spec_IsName_eq (a : Int) : spec_IsName.f a = some (nameB a) := by
  unfold spec_IsName.f
  rw [spec_l1In_eq]; rfl

theorem spec_HasKind_eq (a b : Int) : spec_HasKind.f a b = some (kindB a b) := by
  unfold spec_HasKind.f kindB
  rw [spec_IsName_eq, Option.bind_some]
  cases h : nameB a with
  | true => simp only [if_true, name_div h, Bool.true_and]
  | false => rfl

def reqB (a b c d e t : Int) : Bool := kindB a 1 && (kindB b 2 && (kindB c 3 && (kindB e 4 && (inB d 0 5 && timeB t))))
theorem spec_IsRequest_eq (a b c d e t : Int) : spec_IsRequest.f a b c d e t = some (reqB a b c d e t) := by
  unfold spec_IsRequest.f reqB
  simp only [spec_HasKind_eq, spec_IsTime_eq, spec_l1In_eq, Option.bind_some]
  cases kindB a 1 <;> cases kindB b 2 <;> cases kindB c 3 <;> cases kindB e 4 <;> cases inB d 0 5 <;> simp

theorem spec_l15Left_evN (N : Nat) : ∀ (x : S172) (a : Int), n172 x ≤ N → N ≤ 1048576 → 0 ≤ a → a ≤ 1048576 → ∃ r, Ev (fun k => spec_l15Left.f k x.f0 x.f1 x.f2 x.f3 a) r ∧ -1 ≤ r ∧ (1 + (n172 x : Int) ≤ a → r = a - 1 - (n172 x : Int)) ∧ (a < 1 + (n172 x : Int) → r < 0) := by
  induction N using Nat.strongRecOn with
  | _ N ih =>
  intro x a hx hN ha0 ha1
  rw [n172_f] at hx ⊢
  have key : ∀ (d i : Nat) (s : Int), x.f3.length - i = d → i ≤ x.f3.length → -1 ≤ s → s ≤ 1048576 → ∃ r, Ev (fun k => spec_l15Left.l0 k s (i : Int) x.f0 x.f1 x.f2 x.f3) r ∧ -1 ≤ r ∧ ((((x.f3.drop i).length + ((x.f3.drop i).map n172).sum : Nat) : Int) ≤ s → r = s - (((x.f3.drop i).length + ((x.f3.drop i).map n172).sum : Nat) : Int)) ∧ (s < (((x.f3.drop i).length + ((x.f3.drop i).map n172).sum : Nat) : Int) → r < 0) := by
    intro d
    induction d with
    | zero =>
      intro i s hd hi h0 hs
      obtain rfl : i = x.f3.length := by omega
      rw [List.drop_length, List.length_nil, List.map_nil, List.sum_nil]
      refine ⟨s, Ev.succ ?_, h0, fun _ => by omega, fun h => by omega⟩
      simp only [spec_l15Left.l0, Int.lt_irrefl, if_false]
      exact Ev.now _
    | succ d ih2 =>
      intro i s hd hi h0 hs
      have hi' : i < x.f3.length := by omega
      have hy : x.f3[i]? = some x.f3[i] := List.getElem?_eq_getElem hi'
      have hn := le_sum n172 hy
      rw [List.drop_eq_getElem_cons hi']
      simp only [List.length_cons, List.map_cons, List.sum_cons]
      generalize x.f3[i] = y at hy hn ⊢
      have h1 : ((i : Int) < (x.f3.length : Int)) = True := eq_true (by omega)
      have h2 : (0 ≤ (i : Int)) = True := eq_true (by omega)
      by_cases c : s ≥ 0
      · obtain ⟨r1, e1, r10, r11, r12⟩ := ih (n172 y) (by omega) y s (Nat.le_refl _) (by omega) (by omega) hs
        obtain ⟨r, e, r0, r2, r3⟩ := ih2 (i + 1) r1 (by omega) (by omega) r10 (by
          by_cases q : 1 + (n172 y : Int) ≤ s
          · have := r11 q; omega
          · have := r12 (by omega); omega)
        refine ⟨r, Ev.succ ?_, r0, ?_, ?_⟩
        · simp only [spec_l15Left.l0, h1, h2, if_true, if_pos c, rd_at_T172 hy, wr1 hi' (by omega)]
          exact Ev.bind e1 e
        · intro h
          have q := r11 (by omega)
          have := r2 (by omega)
          omega
        · intro h
          by_cases q : 1 + (n172 y : Int) ≤ s
          · have := r11 q; exact r3 (by omega)
          · have := r12 (by omega); exact r3 (by omega)
      · refine ⟨s, Ev.succ ?_, h0, fun h => by omega, fun _ => by omega⟩
        simp only [spec_l15Left.l0, h1, if_true, if_neg c]
        exact Ev.now _
  obtain ⟨r, e, r0, r1, r2⟩ := key x.f3.length 0 (a - 1) (by omega) (by omega) (by omega) (by omega)
  rw [List.drop_zero] at r1 r2
  refine ⟨r, Ev.succ ?_, r0, fun h => ?_, fun h => ?_⟩
  · simp only [spec_l15Left.f, wr (show (-9223372036854775808 : Int) ≤ a - 1 by omega) (by omega)]
    exact e
  · have := r1 (by omega); omega
  · exact r2 (by omega)

-- told elsewhere

theorem impl_InRange_eq (a b c : Int) : impl_InRange.f a b c = some (inB a b c) := by
  unfold impl_InRange.f
  rw [ite_dand]; rfl
theorem node_eq (a b c : Int) (l : List S172) : impl_isNode.f a b c l = spec_l15Node.f a b c l := by
  unfold impl_isNode.f spec_l15Node.f impl_ArityOf.f spec_ArityOf.f
  simp only [impl_InRange_eq, spec_l1In_eq, spec_IsTime_eq, Option.bind_some]
  generalize (l.length : Int) = n
  by_cases h1 : a = 1
  · subst h1; simp [inB, timeB]; (repeat' split) <;> first | rfl | omega | (simp_all; done) | (simp_all; omega) | (rw [Option.some.injEq, Bool.eq_iff_iff]; simp_all; done) | (rw [Option.some.injEq, Bool.eq_iff_iff]; simp_all; omega)
  by_cases h2 : a = 2
  · subst h2; simp [inB, timeB]; (repeat' split) <;> first | rfl | omega | (simp_all; done) | (simp_all; omega) | (rw [Option.some.injEq, Bool.eq_iff_iff]; simp_all; done) | (rw [Option.some.injEq, Bool.eq_iff_iff]; simp_all; omega)
  by_cases h3 : a = 3
  · subst h3; simp [inB, timeB]; (repeat' split) <;> first | rfl | omega | (simp_all; done) | (simp_all; omega) | (rw [Option.some.injEq, Bool.eq_iff_iff]; simp_all; done) | (rw [Option.some.injEq, Bool.eq_iff_iff]; simp_all; omega)
  by_cases h4 : a = 4
  · subst h4; simp [inB, timeB]; (repeat' split) <;> first | rfl | omega | (simp_all; done) | (simp_all; omega) | (rw [Option.some.injEq, Bool.eq_iff_iff]; simp_all; done) | (rw [Option.some.injEq, Bool.eq_iff_iff]; simp_all; omega)
  by_cases h5 : a = 5
  · subst h5; simp [inB, timeB]; (repeat' split) <;> first | rfl | omega | (simp_all; done) | (simp_all; omega) | (rw [Option.some.injEq, Bool.eq_iff_iff]; simp_all; done) | (rw [Option.some.injEq, Bool.eq_iff_iff]; simp_all; omega)
  by_cases h6 : a = 6
  · subst h6; simp [inB, timeB]; (repeat' split) <;> first | rfl | omega | (simp_all; done) | (simp_all; omega) | (rw [Option.some.injEq, Bool.eq_iff_iff]; simp_all; done) | (rw [Option.some.injEq, Bool.eq_iff_iff]; simp_all; omega)
  by_cases h7 : a = 7
  · subst h7; simp [inB, timeB]; (repeat' split) <;> first | rfl | omega | (simp_all; done) | (simp_all; omega) | (rw [Option.some.injEq, Bool.eq_iff_iff]; simp_all; done) | (rw [Option.some.injEq, Bool.eq_iff_iff]; simp_all; omega)
  by_cases h8 : a = 8
  · subst h8; simp [inB, timeB]; (repeat' split) <;> first | rfl | omega | (simp_all; done) | (simp_all; omega) | (rw [Option.some.injEq, Bool.eq_iff_iff]; simp_all; done) | (rw [Option.some.injEq, Bool.eq_iff_iff]; simp_all; omega)
  by_cases h9 : a = 9
  · subst h9; simp [inB, timeB]; (repeat' split) <;> first | rfl | omega | (simp_all; done) | (simp_all; omega) | (rw [Option.some.injEq, Bool.eq_iff_iff]; simp_all; done) | (rw [Option.some.injEq, Bool.eq_iff_iff]; simp_all; omega)
  simp [h1, h2, h3, h4, h5, h6, h7, h8, h9, inB, timeB]; (repeat' split) <;> (try simp only [Option.bind_some]) <;> (repeat' split) <;> first | rfl | omega | (simp_all; done) | (simp_all; omega) | (rw [Option.some.injEq, Bool.eq_iff_iff]; simp_all; done) | (rw [Option.some.injEq, Bool.eq_iff_iff]; simp_all; omega)
theorem node_some (a b c : Int) (l : List S172) : ∃ t, spec_l15Node.f a b c l = some t := by
  have ha : ∃ m, spec_ArityOf.f a = some m := by
    unfold spec_ArityOf.f
    (repeat' split) <;> exact ⟨_, rfl⟩
  obtain ⟨m, hm⟩ := ha
  unfold spec_l15Node.f
  simp only [spec_l1In_eq, spec_IsTime_eq, hm, Option.bind_some]
  (repeat' split) <;> exact ⟨_, rfl⟩
theorem idxV_anyI {α : Type} (q : α → Bool) : ∀ (l : List α) (i : Int), 0 ≤ i → decide (idxV q l i ≥ 0) = l.any q
  | [], i, _ => by simp [idxV]
  | x :: l, i, h => by
    unfold idxV
    rw [List.any_cons]
    cases c : q x with
    | true => simp only [if_true, Bool.true_or]; exact decide_eq_true h
    | false => simp only [Bool.false_eq_true, if_false, Bool.false_or]; exact idxV_anyI q l (i + 1) (by omega)
mutual
def vldC : S172 → Bool
  | ⟨a, b, c, l⟩ => (spec_l15Node.f a b c l).getD false && vldL l
def vldL : List S172 → Bool
  | [] => true
  | x :: l => vldC x && vldL l
end
theorem vldL_eq : ∀ l : List S172, vldL l = l.all vldC
  | [] => by simp [vldL]
  | x :: l => by simp [vldL, vldL_eq l]
theorem vldC_f (x : S172) : vldC x = ((spec_l15Node.f x.f0 x.f1 x.f2 x.f3).getD false && x.f3.all vldC) := by
  cases x
  simp only [vldC, vldL_eq]
def bothV (x : S172) (b : Bool) : Prop := Ev (fun k => spec_l15Valid.f k x.f0 x.f1 x.f2 x.f3) b ∧ Ev (fun k => impl_areNodes.f k x.f0 x.f1 x.f2 x.f3) b
theorem valid_evN (N : Nat) : ∀ x : S172, n172 x ≤ N → N ≤ 1048576 → bothV x (vldC x) := by
  induction N using Nat.strongRecOn with
  | _ N ih =>
  intro x hx hN
  rw [n172_f] at hx
  obtain ⟨t, ht⟩ := node_some x.f0 x.f1 x.f2 x.f3
  have hti := (node_eq x.f0 x.f1 x.f2 x.f3).trans ht
  rw [vldC_f, ht, Option.getD_some]
  cases t with
  | false => exact ⟨Ev.succ (by simp only [spec_l15Valid.f, ht, Option.bind_some, Bool.false_eq_true, if_false, Bool.false_and]; exact Ev.now _), Ev.succ (by simp only [impl_areNodes.f, hti, Option.bind_some, Bool.false_eq_true, if_false, Bool.false_and]; exact Ev.now _)⟩
  | true =>
  have hp : ∀ y ∈ x.f3, bothV y (vldC y) := fun y hy => by
    obtain ⟨i, hi, rfl⟩ := List.getElem_of_mem hy
    have hn := le_sum n172 (List.getElem?_eq_getElem hi)
    exact ih (n172 x.f3[i]) (by omega) _ (Nat.le_refl _) (by omega)
  rw [Bool.true_and]
  refine ⟨Ev.succ ?_, Ev.succ ?_⟩
  · simp only [spec_l15Valid.f, ht, Option.bind_some, if_true]
    have key : ∀ d i : Nat, x.f3.length - i = d → i ≤ x.f3.length → Ev (fun k => spec_l15Valid.l0 k (i : Int) x.f0 x.f1 x.f2 x.f3) ((x.f3.drop i).all vldC) := by
      intro d
      induction d with
      | zero =>
        intro i hd hi
        obtain rfl : i = x.f3.length := by omega
        refine Ev.succ ?_
        simp only [spec_l15Valid.l0, Int.lt_irrefl, if_false, List.drop_length, List.all_nil]
        exact Ev.now _
      | succ d ih2 =>
        intro i hd hi
        have hi' : i < x.f3.length := by omega
        have hy : x.f3[i]? = some x.f3[i] := List.getElem?_eq_getElem hi'
        have hb := (hp x.f3[i] (List.getElem_mem hi')).1
        rw [List.drop_eq_getElem_cons hi', List.all_cons]
        generalize x.f3[i] = y at hy hb ⊢
        have h1 : ((i : Int) < (x.f3.length : Int)) = True := eq_true (by omega)
        have h2 : (0 ≤ (i : Int)) = True := eq_true (by omega)
        refine Ev.succ ?_
        simp only [spec_l15Valid.l0, h1, h2, if_true, rd_at_T172 hy, wr1 hi' (by omega)]
        refine Ev.bind hb ?_
        cases vldC y with
        | true => simp only [if_true, Bool.true_and]; exact ih2 (i + 1) (by omega) (by omega)
        | false => simp only [Bool.false_eq_true, if_false, Bool.false_and]; exact Ev.now _
    exact Ev.eqv (by rw [List.drop_zero]) (key x.f3.length 0 (by omega) (by omega))
  · simp only [impl_areNodes.f, hti, Option.bind_some, if_true]
    refine Ev.bind (ev_idxO (fun k (y : S172) => (impl_areNodes.f k y.f0 y.f1 y.f2 y.f3).bind fun b => some (!b)) (fun y => !vldC y) x.f3 0 (fun y hy => Ev.bind (hp y hy).2 (Ev.now _))) ?_
    refine Ev.eqv ?_ (Ev.now _)
    rw [idxV_anyI (fun y => !vldC y) x.f3 0 (by omega)]
    simp [List.any_eq_not_all_not]
/-- A condition is in order: not too many nodes, each of them right. -/
def condB (x : S172) : Bool := decide (1 + (n172 x : Int) ≤ 15) && vldC x
theorem spec_IsCond_ev (x : S172) (h : n172 x ≤ 1048576) : Ev (fun k => spec_IsCond.f k x.f0 x.f1 x.f2 x.f3) (condB x) := by
  have hv := (valid_evN _ x (Nat.le_refl _) h).1
  obtain ⟨r, hr, _, r1, r2⟩ := spec_l15Left_evN _ x 15 (Nat.le_refl _) h (by omega) (by omega)
  unfold spec_IsCond.f condB
  by_cases c : 1 + (n172 x : Int) ≤ 15
  · have q := r1 c
    refine Ev.bind hr ?_
    simp only [if_pos (show r ≥ 0 by omega), decide_eq_true c, Bool.true_and]
    exact Ev.bind hv (Ev.now _)
  · have q := r2 (by omega)
    refine Ev.bind hr ?_
    simp only [if_neg (show ¬ r ≥ 0 by omega), decide_eq_false c, Bool.false_and]
    exact Ev.now _

def ruleB (r : S174) : Bool := inB r.f0 0 1 && (inB r.f1 (-1) 5 && ((r.f2 == -1 || kindB r.f2 4) && condB r.f3))
def policyB (p : S39) : Bool := inB p.f0 0 999 && (decide ((p.f1.length : Int) ≤ 8) && p.f1.all ruleB)
theorem rule_n (r : S174) : n172 r.f3 ≤ n174 r := by unfold n174; omega
theorem spec_IsRule_ev (r : S174) (h : n174 r ≤ 1048576) : Ev (fun k => spec_IsRule.f k r.f0 r.f1 r.f2 r.f3.f0 r.f3.f1 r.f3.f2 r.f3.f3) (ruleB r) := by
  have hc := spec_IsCond_ev r.f3 (by have := rule_n r; omega)
  unfold spec_IsRule.f ruleB
  simp only [spec_l1In_eq, spec_HasKind_eq, Option.bind_some]
  refine Ev.bifT fun _ => Ev.bifT fun _ => ?_
  by_cases c : r.f2 = -1
  · simp only [if_pos c, beq_iff_eq.2 c, Bool.true_or, Bool.true_and]
    exact Ev.bind hc (Ev.now _)
  · simp only [if_neg c, beq_eq_false_iff_ne.2 c, Bool.false_or]
    exact Ev.bifT fun _ => Ev.bind hc (Ev.now _)

theorem spec_IsPolicy_ev (p : S39) (h : n39 p ≤ 1048576) : Ev (fun k => spec_IsPolicy.f k p.f0 p.f1) (policyB p) := by
  unfold n39 at h
  unfold spec_IsPolicy.f policyB
  have key : ∀ d i : Nat, p.f1.length - i = d → i ≤ p.f1.length → Ev (fun k => spec_IsPolicy.l0 k (i : Int) p.f0 p.f1) ((p.f1.drop i).all ruleB && (inB p.f0 0 999 && decide ((p.f1.length : Int) ≤ 8))) := by
    intro d
    induction d with
    | zero =>
      intro i hd hi
      obtain rfl : i = p.f1.length := by omega
      refine Ev.succ ?_
      simp only [spec_IsPolicy.l0, Int.lt_irrefl, if_false, List.drop_length, List.all_nil, Bool.true_and, spec_l1In_eq, Option.bind_some]
      exact Ev.bifT fun _ => Ev.now _
    | succ d ih =>
      intro i hd hi
      have hi' : i < p.f1.length := by omega
      have hx : p.f1[i]? = some p.f1[i] := List.getElem?_eq_getElem hi'
      have hr := ih (i + 1) (by omega) (by omega)
      have hn := le_sum n174 hx
      rw [List.drop_eq_getElem_cons hi', List.all_cons, Bool.and_assoc]
      generalize p.f1[i] = x at hx hn ⊢
      have h1 : ((i : Int) < (p.f1.length : Int)) = True := eq_true (by omega)
      have h2 : (0 ≤ (i : Int)) = True := eq_true (by omega)
      refine Ev.succ ?_
      simp only [spec_IsPolicy.l0, h1, h2, if_true, rd_at_T174 hx, wr1 hi' (show p.f1.length ≤ 9223372036854775807 by omega)]
      exact Ev.band (spec_IsRule_ev x (by omega)) fun _ => hr
  refine Ev.eqv ?_ (key p.f1.length 0 (by omega) (by omega))
  rw [List.drop_zero]
  cases p.f1.all ruleB <;> cases inB p.f0 0 999 <;> simp

def forB (x : S174) (a o : Int) : Bool := (decide (x.f1 = -1) || decide (x.f1 = a)) && (decide (x.f2 = -1) || decide (x.f2 = o))
theorem spec_IsFor_eq (x : S174) (a o : Int) : spec_IsFor.f x.f0 x.f1 x.f2 x.f3.f0 x.f3.f1 x.f3.f2 x.f3.f3 a o = some (forB x a o) := by
  unfold spec_IsFor.f forB
  by_cases c1 : x.f1 = -1
  · rw [if_pos c1]
    by_cases c2 : x.f2 = -1
    · rw [if_pos c2]; simp [c1, c2]
    · rw [if_neg c2]; simp [c1, c2, Bool.beq_eq_decide_eq]
  · rw [if_neg c1]
    by_cases c3 : x.f1 = a
    · rw [if_pos c3]
      by_cases c2 : x.f2 = -1
      · rw [if_pos c2]; simp [c3, c2]
      · rw [if_neg c2]; simp [c3, c2, Bool.beq_eq_decide_eq]
    · rw [if_neg c3]; simp [c1, c3]

def hasI (l : List Int) (a : Int) : Bool := l.any (fun x => decide (a = x))
def underB (a b : List Int) : Bool := !(a.any fun x => !hasI b x)
theorem spec_l13Has_ev (l : List Int) (a : Int) (h : l.length ≤ 1048576) : Ev (fun k => spec_l13Has.f k l a) (hasI l a) := by
  unfold spec_l13Has.f hasI
  rw [← idxV_any]
  refine ev_idx l (fun x => decide (a = x)) (fun r => decide (r ≥ 0)) (fun k i => spec_l13Has.l0 k l a i) ?_ ?_
  · refine Ev.succ ?_
    simp only [spec_l13Has.l0, Int.lt_irrefl, if_false]
    exact Ev.now _
  · intro i x hx
    have hi := lt_of_get hx
    have h1 : ((i : Int) < (l.length : Int)) = True := eq_true (by omega)
    have h2 : (0 ≤ (i : Int)) = True := eq_true (by omega)
    constructor
    · intro c r hr
      have c' : ¬ x = a := fun e => of_decide_eq_false c e.symm
      refine Ev.succ ?_
      simp only [spec_l13Has.l0, h1, h2, if_true, rd_nat l i x hx, wr1 hi (by omega), if_neg c']
      exact hr
    · intro c
      have c' : x = a := (of_decide_eq_true c).symm
      refine Ev.succ ?_
      simp only [spec_l13Has.l0, h1, h2, if_true, rd_nat l i x hx, if_pos c', show decide ((i : Int) ≥ 0) = true from decide_eq_true (by omega)]
      exact Ev.now _

/-- An edge between roles. -/
def edgeP (l : List S154) (a b : Int) : Prop := ∃ x ∈ l, x.f0 = a ∧ x.f1 = b ∧ roleB a = true ∧ roleB b = true
inductive Rch (l : List S154) (a : Int) : Int → Prop
  | refl : Rch l a a
  | step {b c : Int} : Rch l a b → edgeP l b c → Rch l a c
theorem Rch.trans {l : List S154} {a b c : Int} (h1 : Rch l a b) (h2 : Rch l b c) : Rch l a c := by
  induction h2 with
  | refl => exact h1
  | step _ e ih => exact .step ih e
/-- By one edge or more. -/
def RchP (l : List S154) (a c : Int) : Prop := ∃ b, edgeP l a b ∧ Rch l b c
theorem RchP.step {l : List S154} {a b c : Int} (h : RchP l a b) (e : edgeP l b c) : RchP l a c := by
  obtain ⟨d, h1, h2⟩ := h
  exact ⟨d, h1, .step h2 e⟩
theorem Rch_iff {l : List S154} {a c : Int} : Rch l a c ↔ a = c ∨ RchP l a c := by
  constructor
  · intro h
    induction h with
    | refl => exact .inl rfl
    | step h e ih =>
      rcases ih with rfl | ih
      · exact .inr ⟨_, e, .refl⟩
      · exact .inr (ih.step e)
  · rintro (rfl | ⟨b, e, h⟩)
    · exact .refl
    · exact Rch.trans (.step .refl e) h
def markX (m : List Bool) (x : S154) : List Bool := if roleB x.f0 && roleB x.f1 && mkR m x.f0 then m.set x.f1.toNat true else m
def roundX (l : List S154) (m : List Bool) : List Bool := l.foldl markX m
def itX (l : List S154) : Nat → List Bool → List Bool
  | 0, m => m
  | n + 1, m => itX l n (roundX l m)
theorem roleB_iff {n : Int} : roleB n = true ↔ 0 ≤ n ∧ n ≤ 5 := by simp [roleB]
theorem mk_set {m : List Bool} (hm : m.length = 6) {r : Int} (hr : roleB r = true) (q : Int) (hq : roleB q = true) : mkR (m.set r.toNat true) q = (decide (q = r) || mkR m q) := by
  rw [roleB_iff] at hr hq
  unfold mkR
  rw [List.getD_eq_getElem?_getD, List.getD_eq_getElem?_getD]
  by_cases h : q = r
  · subst h
    rw [List.getElem?_set_self (by omega)]
    simp
  · rw [List.getElem?_set_ne (by omega)]
    simp [h]
theorem markX_len {m : List Bool} (x : S154) : (markX m x).length = m.length := by
  unfold markX; split <;> simp
theorem roundX_len (l : List S154) : ∀ m : List Bool, (roundX l m).length = m.length := by
  unfold roundX
  induction l with
  | nil => intro m; rfl
  | cons x l ih => intro m; rw [List.foldl_cons, ih, markX_len]
theorem mk_markX {m : List Bool} (hm : m.length = 6) (x : S154) (q : Int) (hq : roleB q = true) : mkR (markX m x) q = (mkR m q || (decide (q = x.f1) && (roleB x.f0 && roleB x.f1 && mkR m x.f0))) := by
  unfold markX
  split
  · rename_i h
    rw [h]
    simp only [Bool.and_eq_true] at h
    rw [mk_set hm h.1.2 q hq, Bool.and_true, Bool.or_comm]
  · rename_i h
    rw [Bool.not_eq_true] at h
    rw [h]; simp
theorem mk_mono_markX {m : List Bool} (hm : m.length = 6) (x : S154) {q : Int} (hq : roleB q = true) (h : mkR m q = true) : mkR (markX m x) q = true := by
  rw [mk_markX hm x q hq, h]; rfl
theorem mk_mono_round (l : List S154) : ∀ {m : List Bool}, m.length = 6 → ∀ {q : Int}, roleB q = true → mkR m q = true → mkR (roundX l m) q = true := by
  unfold roundX
  induction l with
  | nil => intro m hm q hq h; exact h
  | cons x l ih => intro m hm q hq h; exact ih (m := markX m x) (by rw [markX_len]; exact hm) hq (mk_mono_markX hm x hq h)
/-- A round marks what an edge leads to. -/
theorem round_edge (l : List S154) : ∀ {m : List Bool}, m.length = 6 → ∀ {a b : Int}, edgeP l a b → mkR m a = true → mkR (roundX l m) b = true := by
  induction l with
  | nil => rintro m hm a b ⟨x, hx, _⟩; cases hx
  | cons x l ih =>
    rintro m hm a b ⟨y, hy, rfl, rfl, ha, hb⟩ h
    have hl : (markX m x).length = 6 := by rw [markX_len]; exact hm
    change mkR (roundX l (markX m x)) y.f1 = true
    rcases List.mem_cons.1 hy with rfl | hy
    · refine mk_mono_round l hl hb ?_
      rw [mk_markX hm y _ hb, ha, hb, h]; simp
    · exact ih hl ⟨y, hy, rfl, rfl, ha, hb⟩ (mk_mono_markX hm x ha h)
/-- A round marks nothing else. -/
theorem round_sound (l0 : List S154) (P : Int → Prop) (hP : ∀ a b, P a → edgeP l0 a b → P b) (l : List S154) (hl : ∀ x ∈ l, x ∈ l0) : ∀ {m : List Bool}, m.length = 6 → (∀ q, roleB q = true → mkR m q = true → P q) → ∀ q, roleB q = true → mkR (roundX l m) q = true → P q := by
  induction l with
  | nil => intro m hm h q hq hk; exact h q hq hk
  | cons x l ih =>
    intro m hm h
    refine ih (fun y hy => hl y (List.mem_cons_of_mem _ hy)) (m := markX m x) (by rw [markX_len]; exact hm) ?_
    intro q hq hk
    rw [mk_markX hm x q hq, Bool.or_eq_true] at hk
    rcases hk with hk | hk
    · exact h q hq hk
    · simp only [Bool.and_eq_true, decide_eq_true_eq] at hk
      obtain ⟨rfl, ⟨h1, h2⟩, h3⟩ := hk
      exact hP x.f0 x.f1 (h _ h1 h3) ⟨x, hl x List.mem_cons_self, rfl, rfl, h1, h2⟩
def cntB (m : List Bool) : Nat := m.countP id
theorem cnt_set : ∀ (m : List Bool) (i : Nat), cntB m ≤ cntB (m.set i true) ∧ (m[i]? = some false → cntB m < cntB (m.set i true)) := by
  intro m
  induction m with
  | nil => intro i; simp
  | cons b m ih =>
    intro i
    cases i with
    | zero => cases b <;> simp [cntB]
    | succ i =>
      have := ih i
      simp only [List.set_cons_succ, List.getElem?_cons_succ, cntB, List.countP_cons] at this ⊢
      exact ⟨by omega, fun h => by have := this.2 h; omega⟩
theorem cnt_markX (m : List Bool) (hm : m.length = 6) (x : S154) : cntB m ≤ cntB (markX m x) ∧ (markX m x = m ∨ cntB m < cntB (markX m x)) := by
  unfold markX
  split
  · rename_i h
    simp only [Bool.and_eq_true, roleB_iff] at h
    have hlt : x.f1.toNat < m.length := by omega
    refine ⟨(cnt_set m _).1, ?_⟩
    cases hb : m[x.f1.toNat] with
    | true =>
      left
      apply List.ext_getElem?
      intro j
      by_cases e : x.f1.toNat = j
      · subst e; rw [List.getElem?_set_self hlt, List.getElem?_eq_getElem hlt, hb]
      · rw [List.getElem?_set_ne e]
    | false => exact .inr ((cnt_set m _).2 (by rw [List.getElem?_eq_getElem hlt, hb]))
  · exact ⟨Nat.le_refl _, .inl rfl⟩
theorem cnt_round (l : List S154) : ∀ (m : List Bool), m.length = 6 → cntB m ≤ cntB (roundX l m) ∧ (roundX l m = m ∨ cntB m < cntB (roundX l m)) := by
  induction l with
  | nil => intro m hm; exact ⟨Nat.le_refl _, .inl rfl⟩
  | cons x l ih =>
    intro m hm
    obtain ⟨h1, h2⟩ := cnt_markX m hm x
    obtain ⟨h3, h4⟩ := ih (markX m x) (by rw [markX_len]; exact hm)
    change cntB m ≤ cntB (roundX l (markX m x)) ∧ (roundX l (markX m x) = m ∨ cntB m < cntB (roundX l (markX m x)))
    refine ⟨by omega, ?_⟩
    rcases h2 with h2 | h2
    · rw [h2] at h4 ⊢; exact h4
    · right; omega
theorem cnt_le (m : List Bool) : cntB m ≤ m.length := List.countP_le_length
theorem itX_len (l : List S154) : ∀ (n : Nat) (m : List Bool), (itX l n m).length = m.length := by
  intro n
  induction n with
  | zero => intro m; rfl
  | succ n ih => intro m; change (itX l n (roundX l m)).length = _; rw [ih, roundX_len]
theorem itX_fix (l : List S154) : ∀ (n : Nat) (m : List Bool), roundX l m = m → itX l n m = m := by
  intro n
  induction n with
  | zero => intro m _; rfl
  | succ n ih => intro m h; change itX l n (roundX l m) = m; rw [h]; exact ih m h
/-- After so many rounds as there are unmarked ones, and one, nothing changes. -/
theorem itX_closed (l : List S154) : ∀ (n : Nat) (m : List Bool), m.length = 6 → 6 ≤ cntB m + n → roundX l (itX l n m) = itX l n m := by
  intro n
  induction n with
  | zero =>
    intro m hm h
    rcases (cnt_round l m hm).2 with h2 | h2
    · exact h2
    · have := cnt_le (roundX l m); rw [roundX_len] at this; omega
  | succ n ih =>
    intro m hm h
    change roundX l (itX l n (roundX l m)) = itX l n (roundX l m)
    rcases (cnt_round l m hm).2 with h2 | h2
    · rw [h2, itX_fix l n m h2]; exact h2
    · exact ih _ (by rw [roundX_len]; exact hm) (by omega)
theorem itX_sound (l : List S154) (P : Int → Prop) (hP : ∀ a b, P a → edgeP l a b → P b) : ∀ (n : Nat) (m : List Bool), m.length = 6 → (∀ q, roleB q = true → mkR m q = true → P q) → ∀ q, roleB q = true → mkR (itX l n m) q = true → P q := by
  intro n
  induction n with
  | zero => intro m _ h; exact h
  | succ n ih => intro m hm h; exact ih _ (by rw [roundX_len]; exact hm) (round_sound l P hP l (fun _ h => h) hm h)
theorem itX_mono (l : List S154) : ∀ (n : Nat) (m : List Bool), m.length = 6 → ∀ q, roleB q = true → mkR m q = true → mkR (itX l n m) q = true := by
  intro n
  induction n with
  | zero => intro m _ q _ h; exact h
  | succ n ih => intro m hm q hq h; exact ih _ (by rw [roundX_len]; exact hm) q hq (mk_mono_round l hm hq h)
def closX (l : List S154) (role : Int) : List Bool := itX l 6 ((List.replicate 6 false).set role.toNat true)
theorem mk_start {role : Int} (hr : roleB role = true) (q : Int) (hq : roleB q = true) : mkR ((List.replicate 6 false).set role.toNat true) q = decide (q = role) := by
  rw [mk_set (by simp) hr q hq]
  have : mkR (List.replicate 6 false) q = false := by
    unfold mkR
    rw [List.getD_eq_getElem?_getD, List.getElem?_replicate]
    split <;> rfl
  rw [this, Bool.or_false]
theorem closX_iff (l : List S154) {role : Int} (hr : roleB role = true) {q : Int} (hq : roleB q = true) : mkR (closX l role) q = true ↔ Rch l role q := by
  have hl : ((List.replicate 6 false).set role.toNat true).length = 6 := by simp
  constructor
  · exact itX_sound l (Rch l role) (fun a b h e => .step h e) 6 _ hl (fun q hq h => by
      rw [mk_start hr q hq, decide_eq_true_eq] at h; subst h; exact .refl) q hq
  · intro h
    have hc : roundX l (closX l role) = closX l role := itX_closed l 6 _ hl (by omega)
    have h6 : (closX l role).length = 6 := by unfold closX; rw [itX_len]; exact hl
    have key : roleB q = true ∧ mkR (closX l role) q = true := by
      clear hq
      induction h with
      | refl => exact ⟨hr, itX_mono l 6 _ hl _ hr (by rw [mk_start hr _ hr]; simp)⟩
      | step h e ih =>
        have := round_edge l h6 e ih.2
        rw [hc] at this
        obtain ⟨x, _, _, _, _, hb⟩ := e
        exact ⟨hb, this⟩
    exact key.2

theorem visX_len (a : Int) (s : List Bool × List Int) (x : S154) : (visX a s x).1.length = s.1.length := by
  unfold visX; split <;> simp
theorem popX_len (l : List S154) (a : Int) : ∀ s : List Bool × List Int, (popX l a s).1.length = s.1.length := by
  unfold popX
  induction l with
  | nil => intro s; rfl
  | cons x l ih => intro s; rw [List.foldl_cons, ih, visX_len]
theorem cnt_set_lt {m : List Bool} {r : Int} (hm : m.length = 6) (hr : roleB r = true) (h : mkR m r = false) : cntB (m.set r.toNat true) = cntB m + 1 := by
  rw [roleB_iff] at hr
  have hlt : r.toNat < m.length := by omega
  have hb : m[r.toNat] = false := by
    unfold mkR at h; rw [List.getD_eq_getElem?_getD, List.getElem?_eq_getElem hlt] at h; exact h
  have key : ∀ (m : List Bool) (i : Nat), m[i]? = some false → cntB (m.set i true) = cntB m + 1 := by
    intro m
    induction m with
    | nil => intro i h; simp at h
    | cons b m ih =>
      intro i h
      cases i with
      | zero => simp at h; subst h; simp [cntB]
      | succ i =>
        have := ih i (by simpa using h)
        simp only [List.set_cons_succ, cntB, List.countP_cons] at this ⊢
        omega
  exact key m _ (by rw [List.getElem?_eq_getElem hlt, hb])
/-- What one visit does: what is marked stays, all is told. -/
structure VisOk (l0 : List S154) (a : Int) (s t : List Bool × List Int) : Prop where
  len : t.1.length = 6
  sum : t.2.length + (6 - cntB t.1) = s.2.length + (6 - cntB s.1)
  le : cntB s.1 ≤ cntB t.1
  mono : ∀ q, roleB q = true → mkR s.1 q = true → mkR t.1 q = true
  old : ∀ q, q ∈ s.2 → q ∈ t.2
  new : ∀ q, roleB q = true → mkR t.1 q = true → mkR s.1 q = true ∨ (q ∈ t.2 ∧ edgeP l0 a q)
  newq : ∀ q, q ∈ t.2 → q ∈ s.2 ∨ edgeP l0 a q
theorem VisOk.rfl' {l0 : List S154} {a : Int} {s : List Bool × List Int} (h : s.1.length = 6) : VisOk l0 a s s := ⟨h, rfl, Nat.le_refl _, fun _ _ h => h, fun _ h => h, fun _ _ h => .inl h, fun _ h => .inl h⟩
theorem vis_ok (l0 : List S154) (a : Int) (ha : roleB a = true) (s : List Bool × List Int) (h : s.1.length = 6) (x : S154) (hx : x ∈ l0) : VisOk l0 a s (visX a s x) := by
  unfold visX
  split
  · rename_i hc
    obtain ⟨h1, h2, h3⟩ := hc
    have e : edgeP l0 a x.f1 := ⟨x, hx, h1, rfl, ha, h2⟩
    have hcn := cnt_set_lt h h2 h3
    have hle := cnt_le (s.1.set x.f1.toNat true)
    rw [List.length_set] at hle
    refine ⟨by simp [h], ?_, by rw [hcn]; omega, fun q hq hm => ?_, fun q hq => List.mem_append_left _ hq, fun q hq hm => ?_, fun q hq => ?_⟩
    · simp only [List.length_append, List.length_singleton, hcn]; omega
    · show mkR (s.1.set _ true) q = true
      rw [mk_set h h2 q hq, hm, Bool.or_true]
    · rw [show (s.1.set x.f1.toNat true, s.2 ++ [x.f1]).1 = s.1.set x.f1.toNat true from rfl, mk_set h h2 q hq, Bool.or_eq_true, decide_eq_true_eq] at hm
      rcases hm with rfl | hm
      · exact .inr ⟨by simp, e⟩
      · exact .inl hm
    · rcases List.mem_append.1 hq with hq | hq
      · exact .inl hq
      · rw [List.mem_singleton.1 hq]; exact .inr e
  · exact VisOk.rfl' h
theorem VisOk.trans {l0 : List S154} {a : Int} {s t u : List Bool × List Int} (h1 : VisOk l0 a s t) (h2 : VisOk l0 a t u) : VisOk l0 a s u :=
  ⟨h2.len, h2.sum.trans h1.sum, Nat.le_trans h1.le h2.le, fun q hq h => h2.mono q hq (h1.mono q hq h), fun q h => h2.old q (h1.old q h),
    fun q hq h => by
      rcases h2.new q hq h with h | h
      · rcases h1.new q hq h with h | ⟨h, e⟩
        · exact .inl h
        · exact .inr ⟨h2.old q h, e⟩
      · exact .inr h,
    fun q h => by
      rcases h2.newq q h with h | h
      · exact h1.newq q h
      · exact .inr h⟩
theorem pop_ok (l0 : List S154) (a : Int) (ha : roleB a = true) (l : List S154) (hl : ∀ x ∈ l, x ∈ l0) : ∀ (s : List Bool × List Int), s.1.length = 6 → VisOk l0 a s (popX l a s) ∧ ∀ x ∈ l, x.f0 = a → roleB x.f1 = true → mkR (popX l a s).1 x.f1 = true := by
  unfold popX
  induction l with
  | nil => intro s h; exact ⟨VisOk.rfl' h, by intro x hx; cases hx⟩
  | cons x l ih =>
    intro s h
    have h1 := vis_ok l0 a ha s h x (hl x List.mem_cons_self)
    obtain ⟨h2, h3⟩ := ih (fun y hy => hl y (List.mem_cons_of_mem _ hy)) (visX a s x) h1.len
    refine ⟨h1.trans h2, fun y hy e1 e2 => ?_⟩
    rw [List.foldl_cons]
    rcases List.mem_cons.1 hy with rfl | hy
    · refine h2.mono _ e2 ?_
      unfold visX
      split
      · rw [show (s.1.set y.f1.toNat true, s.2 ++ [y.f1]).1 = s.1.set y.f1.toNat true from rfl, mk_set h e2 _ e2]; simp
      · rename_i hc
        cases hmk : mkR s.1 y.f1 with
        | true => rfl
        | false => exact absurd ⟨e1, e2, hmk⟩ hc
    · exact h3 y hy e1 e2
theorem bfsX_nil (l : List S154) (role : Int) (k : Nat) (m : List Bool) (hk : 0 < k) (hm : m.length = 6) (hs : ∀ q, roleB q = true → mkR m q = true → RchP l role q) (hc : ∀ a, (a = role ∨ roleB a = true ∧ mkR m a = true) → a ∈ ([] : List Int) ∨ ∀ b, edgeP l a b → mkR m b = true) :
    ∃ r, bfsX l k [] m = some r ∧ r.length = 6 ∧ ∀ q, roleB q = true → (mkR r q = true ↔ RchP l role q) := by
  obtain ⟨k, rfl⟩ : ∃ j, k = j + 1 := ⟨k - 1, by omega⟩
  refine ⟨m, rfl, hm, fun q hq => ⟨hs q hq, ?_⟩⟩
  rintro ⟨b, e, h⟩
  have h0 : mkR m b = true := (hc role (.inl rfl)).elim (fun h => absurd h (by simp)) (fun h => h b e)
  have key : mkR m q = true := by
    clear hq
    induction h with
    | refl => exact h0
    | step h e2 ih =>
      obtain ⟨x, _, _, _, hb, _⟩ := id e2
      exact (hc _ (.inr ⟨hb, ih⟩)).elim (fun h => absurd h (by simp)) (fun h => h _ e2)
  exact key
/-- What the search says of a role: all that it comes to by one pair or more. -/
theorem bfsX_spec (l : List S154) (role : Int) (hr : roleB role = true) : ∀ (d k : Nat) (todo : List Int) (m : List Bool), m.length = 6 → todo.length + (6 - cntB m) ≤ d → d < k →
    (∀ q ∈ todo, roleB q = true ∧ Rch l role q) → (∀ q, roleB q = true → mkR m q = true → RchP l role q) → (∀ a, (a = role ∨ roleB a = true ∧ mkR m a = true) → a ∈ todo ∨ ∀ b, edgeP l a b → mkR m b = true) →
    ∃ r, bfsX l k todo m = some r ∧ r.length = 6 ∧ ∀ q, roleB q = true → (mkR r q = true ↔ RchP l role q) := by
  intro d
  induction d with
  | zero =>
    intro k todo m hm hd hk ht hs hc
    cases todo with
    | cons a rest => simp at hd
    | nil => exact bfsX_nil l role k m (by omega) hm hs hc
  | succ d ih =>
    intro k todo m hm hd hk ht hs hc
    cases todo with
    | nil => exact bfsX_nil l role k m (by omega) hm hs hc
    | cons a rest =>
      obtain ⟨k, rfl⟩ : ∃ j, k = j + 1 := ⟨k - 1, by omega⟩
      obtain ⟨ha, hra⟩ := ht a List.mem_cons_self
      obtain ⟨ok, hall⟩ := pop_ok l a ha l (fun _ h => h) (m, rest) hm
      refine ih k _ _ ok.len (by have := ok.sum; simp only [List.length_cons] at hd this ⊢; omega) (by omega) (fun q hq => ?_) (fun q hq hmq => ?_) (fun b hb => ?_)
      · rcases ok.newq q hq with h | h
        · exact ht q (List.mem_cons_of_mem _ h)
        · obtain ⟨x, _, _, _, _, hb⟩ := id h
          exact ⟨hb, .step hra h⟩
      · rcases ok.new q hq hmq with h | ⟨_, h⟩
        · exact hs q hq h
        · rcases Rch_iff.1 hra with rfl | h2
          · exact ⟨q, h, .refl⟩
          · exact h2.step h
      · have hmono : ∀ c, mkR m c = true → roleB c = true → mkR (popX l a (m, rest)).1 c = true := fun c h hcr => ok.mono c hcr h
        have edgeR : ∀ {c e : Int}, edgeP l c e → roleB e = true := fun ⟨_, _, _, _, _, h⟩ => h
        by_cases hba : b = a
        · subst hba
          right
          rintro c ⟨x, hx, e1, e2, _, hcr⟩
          subst e2
          exact hall x hx e1 hcr
        · have hold : b = role ∨ roleB b = true ∧ mkR m b = true ∨ b ∈ (popX l a (m, rest)).2 := by
            rcases hb with rfl | ⟨h1, h2⟩
            · exact .inl rfl
            · rcases ok.new b h1 h2 with h | ⟨h, _⟩
              · exact .inr (.inl ⟨h1, h⟩)
              · exact .inr (.inr h)
          rcases hold with h | h | h
          · rcases hc b (.inl h) with h3 | h3
            · rcases List.mem_cons.1 h3 with h3 | h3
              · exact absurd h3 hba
              · exact .inl (ok.old b h3)
            · exact .inr fun c e => hmono c (h3 c e) (edgeR e)
          · rcases hc b (.inr h) with h3 | h3
            · rcases List.mem_cons.1 h3 with h3 | h3
              · exact absurd h3 hba
              · exact .inl (ok.old b h3)
            · exact .inr fun c e => hmono c (h3 c e) (edgeR e)
          · exact .inl h
theorem below_spec (l : List S154) (role : Int) (hr : roleB role = true) (k : Nat) (hk : 8 ≤ k) : ∃ r, bfsX l k [role] (List.replicate 6 false) = some r ∧ r.length = 6 ∧ ∀ q, roleB q = true → (mkR r q = true ↔ RchP l role q) := by
  have h0 : ∀ q, mkR (List.replicate 6 false) q = false := by
    intro q
    unfold mkR
    rw [List.getD_eq_getElem?_getD, List.getElem?_replicate]
    split <;> rfl
  refine bfsX_spec l role hr 7 k [role] _ (by simp) (by simp; omega) (by omega) (fun q hq => ?_) (fun q _ h => ?_) (fun a ha => ?_)
  · rw [List.mem_singleton.1 hq]; exact ⟨hr, .refl⟩
  · rw [h0] at h; cases h
  · rcases ha with rfl | ⟨_, h⟩
    · exact .inl (by simp)
    · rw [h0] at h; cases h
/-- The roles under a role. -/
def outV (m : List Bool) : List Int := [0, 1, 2, 3, 4, 5].filter (fun r => mkR m r)
def rolesV (l : List S154) (role : Int) : List Int := if inB role 0 5 = true then outV (closX l role) else []
def pairP (l : List S154) (x : S154) : Bool := roleB x.f0 && (roleB x.f1 && !hasI (rolesV l x.f1) x.f0)
def pairsB (l : List S154) : Bool := l.all (pairP l) && decide ((l.length : Int) ≤ 10)
theorem roleB_in (n : Int) : inB n 0 5 = roleB n := rfl
theorem has_out (m : List Bool) (r : Int) (hr : roleB r = true) : hasI (outV m) r = mkR m r := by
  have h := roleB_iff.1 hr
  unfold hasI outV
  rw [Bool.eq_iff_iff, List.any_eq_true]
  constructor
  · rintro ⟨x, hx, he⟩
    rw [of_decide_eq_true he]
    exact (List.mem_filter.1 hx).2
  · intro hm
    exact ⟨r, List.mem_filter.2 ⟨by rcases (by omega : r = 0 ∨ r = 1 ∨ r = 2 ∨ r = 3 ∨ r = 4 ∨ r = 5) with rfl | rfl | rfl | rfl | rfl | rfl <;> simp, hm⟩, decide_eq_true rfl⟩
theorem has_roles (l : List S154) (a b : Int) (ha : roleB a = true) (hb : roleB b = true) : hasI (rolesV l b) a = mkR (closX l b) a := by
  unfold rolesV
  rw [roleB_in, if_pos hb, has_out _ _ ha]
/-- No role leads to itself: told by any of its pairs alike. -/
theorem pairs_alike (l : List S154) (p : S154 → Bool) (hp : ∀ x, p x = true ↔ roleB x.f0 = true ∧ roleB x.f1 = true ∧ ¬ RchP l x.f0 x.f0) : l.all p = l.all (pairP l) := by
  have hq : ∀ x, pairP l x = true ↔ roleB x.f0 = true ∧ roleB x.f1 = true ∧ ¬ Rch l x.f1 x.f0 := by
    intro x
    unfold pairP
    simp only [Bool.and_eq_true, Bool.not_eq_true']
    constructor
    · rintro ⟨h1, h2, h3⟩
      refine ⟨h1, h2, fun h => ?_⟩
      rw [has_roles l _ _ h1 h2, (closX_iff l h2 h1).2 h] at h3
      cases h3
    · rintro ⟨h1, h2, h3⟩
      refine ⟨h1, h2, ?_⟩
      rw [has_roles l _ _ h1 h2]
      cases hm : mkR (closX l x.f1) x.f0 with
      | false => rfl
      | true => exact absurd ((closX_iff l h2 h1).1 hm) h3
  rw [Bool.eq_iff_iff, List.all_eq_true, List.all_eq_true]
  constructor
  · intro h x hx
    obtain ⟨h1, h2, h3⟩ := (hp x).1 (h x hx)
    exact (hq x).2 ⟨h1, h2, fun hr => h3 ⟨x.f1, ⟨x, hx, rfl, rfl, h1, h2⟩, hr⟩⟩
  · intro h x hx
    obtain ⟨h1, h2, _⟩ := (hq x).1 (h x hx)
    refine (hp x).2 ⟨h1, h2, ?_⟩
    rintro ⟨b, ⟨y, hy, e1, rfl, _, _⟩, hr⟩
    have := (hq y).1 (h y hy)
    rw [e1] at this
    exact this.2.2 hr
theorem roles_l2 (m : List Bool) (hm : m.length = 6) : ∀ (d : Nat) (r : Nat) (out : List Int), r + d = 6 → out.length ≤ r → Ev (fun k => spec_RolesUnder.l2 k out m (r : Int)) (out ++ (([0, 1, 2, 3, 4, 5] : List Int).drop r).filter (fun r => mkR m r)) := by
  intro d
  induction d with
  | zero =>
    intro r out hr _
    obtain rfl : r = 6 := by omega
    refine Ev.succ ?_
    simp only [spec_RolesUnder.l2]
    refine Ev.neg (by omega) ?_
    simp only [List.drop_succ_cons, List.drop_nil, List.filter_nil, List.append_nil]
    exact Ev.now _
  | succ d ih =>
    intro r out hr ho
    have hd : (([0, 1, 2, 3, 4, 5] : List Int).drop r) = (r : Int) :: (([0, 1, 2, 3, 4, 5] : List Int).drop (r + 1)) := by
      rcases (by omega : r = 0 ∨ r = 1 ∨ r = 2 ∨ r = 3 ∨ r = 4 ∨ r = 5) with rfl | rfl | rfl | rfl | rfl | rfl <;> rfl
    have e : wrap64 ((r : Int) + 1) = ((r + 1 : Nat) : Int) := wr1 (n := 6) (by omega) (by omega)
    have e2 : rdOf false m (r : Int) = mkR m (r : Int) := rfl
    rw [hd, List.filter_cons]
    refine Ev.succ ?_
    simp only [spec_RolesUnder.l2, e, e2]
    refine Ev.pos (by omega) (Ev.pos (by omega) (Ev.pos (by omega) ?_))
    cases mkR m (r : Int) with
    | false => simp only [Bool.false_eq_true, if_false]; exact ih (r + 1) out (by omega) (by omega)
    | true =>
      simp only [if_true]
      refine Ev.pos (by omega) ?_
      have := ih (r + 1) (out ++ [(r : Int)]) (by omega) (by simp; omega)
      rw [List.append_assoc] at this
      exact this
theorem roles_l0 (l : List S154) (h : l.length ≤ 1048576) : ∀ (d n : Nat) (m : List Bool), n + d = 6 → m.length = 6 → Ev (fun k => spec_RolesUnder.l0 k l [] m (n : Int)) (outV (itX l d m)) := by
  intro d
  induction d with
  | zero =>
    intro n m hn hm
    obtain rfl : n = 6 := by omega
    refine Ev.succ ?_
    simp only [spec_RolesUnder.l0]
    refine Ev.neg (by omega) ?_
    exact roles_l2 m hm 6 0 [] rfl (by simp)
  | succ d ih =>
    intro n m hn hm
    have e : wrap64 ((n : Int) + 1) = ((n + 1 : Nat) : Int) := wr1 (n := 6) (by omega) (by omega)
    refine Ev.succ ?_
    simp only [spec_RolesUnder.l0]
    refine Ev.pos (by omega) ?_
    change Ev _ ((fun s => outV (itX l d s)) (l.foldl markX m))
    refine ev_fold l markX (fun s => outV (itX l d s)) (fun _ s => s.length = 6) (fun k s i => spec_RolesUnder.l1 k l [] s (n : Int) i) ?_ ?_ ?_ m hm
    · intro s hs
      refine Ev.succ ?_
      simp only [spec_RolesUnder.l1, Int.lt_irrefl, if_false, e]
      exact ih (n + 1) s (by omega) hs
    · intro i x s _ hs; rw [markX_len]; exact hs
    · intro i x s r hx hs hr
      have hi := lt_of_get hx
      have h1 : ((i : Int) < (l.length : Int)) = True := eq_true (by omega)
      have h2 : (0 ≤ (i : Int)) = True := eq_true (by omega)
      have e3 := wr1 hi (show l.length ≤ 9223372036854775807 by omega)
      have hj : ∀ b : Bool, (b = true → roleB x.f1 = true) → Ev (fun k => spec_RolesUnder.l1 k l [] (if b = true then s.set x.f1.toNat true else s) (n : Int) ((i + 1 : Nat) : Int)) r → Ev (fun k => spec_RolesUnder.j2 k l [] s (n : Int) (i : Int) b) r := by
        intro b hb hr
        refine Ev.succ ?_
        simp only [spec_RolesUnder.j2, h1, h2, if_true, rd_at_T154 hx, e3]
        cases b with
        | false => exact hr
        | true =>
          have h4 := roleB_iff.1 (hb rfl)
          simp only [if_true] at hr ⊢
          exact Ev.pos (by omega) (Ev.pos (by omega) hr)
      refine Ev.succ ?_
      simp only [spec_RolesUnder.l1, h1, h2, if_true, rd_at_T154 hx, spec_l1In_eq, Option.bind_some, roleB_in]
      unfold markX at hr
      cases h5 : roleB x.f0 with
      | false =>
        simp only [Bool.false_eq_true, if_false]
        simp only [h5, Bool.false_and, Bool.false_eq_true, if_false] at hr
        exact hj false (fun h => by cases h) hr
      | true =>
        cases h6 : roleB x.f1 with
        | false =>
          simp only [Bool.false_eq_true, if_false, if_true]
          simp only [h5, h6, Bool.false_and, Bool.and_false, Bool.false_eq_true, if_false] at hr
          exact hj false (fun h => by cases h) hr
        | true =>
          have h7 := roleB_iff.1 h5
          simp only [if_true]
          simp only [h5, h6, Bool.true_and] at hr
          refine Ev.pos (by omega) (Ev.pos (by omega) ?_)
          exact hj (mkR s x.f0) (fun _ => h6) hr
theorem spec_RolesUnder_ev (l : List S154) (role : Int) (h : l.length ≤ 1048576) : Ev (fun k => spec_RolesUnder.f k l role) (rolesV l role) := by
  unfold spec_RolesUnder.f rolesV
  simp only [Option.bind_some, spec_l1In_eq]
  cases hr : inB role 0 5 with
  | false => simp only [Bool.false_eq_true, if_false]; exact Ev.now _
  | true =>
    have h2 := inB_iff.1 hr
    simp only [if_true]
    refine Ev.pos (by omega) (Ev.pos (by omega) (Ev.pos (by simp only [List.length_replicate]; omega) ?_))
    exact roles_l0 l h 6 0 _ rfl (by simp)

def ageV (a b : Int) : Int := if timeB a = true ∧ timeB b = true ∧ a ≤ b then b - a else -1
def freshV (a b m : Int) : Bool := if ageV a b = -1 then false else decide (ageV a b ≤ m)
theorem timeAt {t : Int} (h : timeB t = true) : 0 ≤ t ∧ t ≤ 10000 := inB_iff.1 h
theorem ageV_cases (a b : Int) : ageV a b = -1 ∨ 0 ≤ ageV a b := by
  unfold ageV
  split
  · right; omega
  · left; rfl
theorem spec_AgeOf_eq (a b : Int) : spec_AgeOf.f a b = some (ageV a b) := by
  unfold spec_AgeOf.f ageV
  simp only [spec_IsTime_eq, Option.bind_some]
  by_cases c1 : timeB a = true
  · by_cases c2 : timeB b = true
    · have h1 := timeAt c1
      have h2 := timeAt c2
      by_cases c3 : a > b
      · simp only [if_pos c1, if_pos c2, if_pos c3, if_neg (show ¬ (timeB a = true ∧ timeB b = true ∧ a ≤ b) from fun h => by omega)]
      · simp only [if_pos c1, if_pos c2, if_neg c3, if_pos (show timeB a = true ∧ timeB b = true ∧ a ≤ b from ⟨c1, c2, by omega⟩), wr (x := b - a) (by omega) (by omega)]
    · simp only [if_pos c1, if_neg c2, if_neg (show ¬ (timeB a = true ∧ timeB b = true ∧ a ≤ b) from fun h => c2 h.2.1)]
  · simp only [if_neg c1, if_neg (show ¬ (timeB a = true ∧ timeB b = true ∧ a ≤ b) from fun h => c1 h.1)]

theorem spec_IsFresh_eq (a b m : Int) : spec_IsFresh.f a b m = some (freshV a b m) := by
  unfold spec_IsFresh.f freshV
  simp only [spec_AgeOf_eq, Option.bind_some]
  rcases ageV_cases a b with h | h
  · rw [if_neg (by omega), if_pos h]
  · rw [if_pos (by omega), if_neg (by omega)]

/-- Each element is in order (p), and with the one ahead of it (q). -/
def adjT {α : Type} (p : α → Bool) (q : α → α → Bool) : α → List α → Bool
  | _, [] => true
  | y, x :: t => p x && (q y x && adjT p q x t)
def adjB {α : Type} (p : α → Bool) (q : α → α → Bool) : List α → Bool
  | [] => true
  | x :: t => p x && adjT p q x t
theorem ev_adj {α : Type} (l : List α) (p : α → Bool) (q : α → α → Bool) (fin : Bool) (L : Nat → Int → Option Bool) (hend : Ev (fun k => L k (l.length : Int)) fin)
    (hs0 : ∀ x r, l[0]? = some x → Ev (fun k => L k ((0 + 1 : Nat) : Int)) r → Ev (fun k => L k 0) (p x && r))
    (hs : ∀ (i : Nat) y x r, l[i]? = some y → l[i + 1]? = some x → Ev (fun k => L k ((i + 1 + 1 : Nat) : Int)) r → Ev (fun k => L k ((i + 1 : Nat) : Int)) (p x && (q y x && r))) : Ev (fun k => L k 0) (adjB p q l && fin) := by
  have key : ∀ (d i : Nat) (y : α), l[i]? = some y → l.length - (i + 1) = d → Ev (fun k => L k ((i + 1 : Nat) : Int)) (adjT p q y (l.drop (i + 1)) && fin) := by
    intro d
    induction d with
    | zero =>
      intro i y hy hd
      have hi := lt_of_get hy
      have e : i + 1 = l.length := by omega
      rw [e, List.drop_length]
      exact hend
    | succ d ih =>
      intro i y hy hd
      have hi : i + 1 < l.length := by omega
      have hx : l[i + 1]? = some l[i + 1] := List.getElem?_eq_getElem hi
      have h := hs i y l[i + 1] _ hy hx (ih (i + 1) l[i + 1] hx (by omega))
      rw [List.drop_eq_getElem_cons hi]
      simp only [adjT, Bool.and_assoc]
      exact h
  cases l with
  | nil => exact hend
  | cons x t =>
    have h := hs0 x _ rfl (key _ 0 x rfl rfl)
    simp only [adjB, Bool.and_assoc]
    exact h
theorem wrp {i n : Nat} (h : i + 1 < n) (hn : n ≤ 9223372036854775807) : wrap64 (((i + 1 : Nat) : Int) - 1) = (i : Int) := by rw [wr (by omega) (by omega)]; omega
def claimB (x : S136) : Bool := if x.f0 = 1 then kindB x.f1 1 && inB x.f2 0 5 else if x.f0 = 2 then kindB x.f1 1 && kindB x.f2 2 else if x.f0 = 3 then kindB x.f1 2 && inB x.f2 0 3 else if x.f0 = 4 then kindB x.f1 3 && inB x.f2 0 3 else false
def factB (x : S136) : Bool := claimB x && (inB x.f3 0 9 && (timeB x.f4 && (timeB x.f5 && decide (x.f4 ≤ x.f5))))
/-- A fact stands ahead of another. -/
def factQ (y x : S136) : Bool := if y.f0 = x.f0 then if y.f1 = x.f1 then if y.f2 = x.f2 then decide (y.f3 < x.f3) else decide (y.f2 < x.f2) else decide (y.f1 < x.f1) else decide (y.f0 < x.f0)
def storeB (l : List S136) : Bool := adjB factB factQ l && decide ((l.length : Int) ≤ 30)
theorem spec_IsFact_eq (x : S136) : spec_IsFact.f x.f0 x.f1 x.f2 x.f3 x.f4 x.f5 = some (factB x) := by
  unfold spec_IsFact.f factB claimB
  simp only [spec_HasKind_eq, spec_l1In_eq, spec_IsTime_eq, Option.bind_some, ite_and]
  (repeat' split) <;> first | rfl | simp only [Bool.and_assoc, Bool.false_and]

def withinB (a b t : Int) : Bool := timeB a && (timeB b && (timeB t && (decide (a ≤ t) && decide (t ≤ b))))
def holdsB (x : S136) (now age : Int) : Bool := factB x && (withinB x.f4 x.f5 now && freshV x.f4 now age)
theorem fresh_age {a t : Int} (ha : timeB a = true) (ht : timeB t = true) (h : a ≤ t) (m : Int) : freshV a t m = decide (ageV a t ≤ m) := by
  unfold freshV
  have e : ageV a t = t - a := by unfold ageV; rw [if_pos ⟨ha, ht, h⟩]
  rw [e, if_neg (by omega)]
theorem within_iff {a b t : Int} (h : withinB a b t = true) : timeB a = true ∧ timeB b = true ∧ timeB t = true ∧ a ≤ t ∧ t ≤ b := by
  simpa [withinB, and_assoc] using h
theorem spec_IsWithin_eq (a b t : Int) : spec_IsWithin.f a b t = some (withinB a b t) := by
  unfold spec_IsWithin.f withinB
  simp only [spec_IsTime_eq, Option.bind_some]
  cases timeB a <;> cases timeB b <;> cases timeB t <;> simp
  by_cases c : a ≤ t <;> simp [c]

theorem spec_HoldsAt_eq (x : S136) (t a : Int) : spec_HoldsAt.f x.f0 x.f1 x.f2 x.f3 x.f4 x.f5 t a = some (holdsB x t a) := by
  unfold spec_HoldsAt.f holdsB
  simp only [spec_IsFact_eq, spec_IsWithin_eq, spec_IsFresh_eq, Option.bind_some]
  cases factB x <;> cases withinB x.f4 x.f5 t <;> simp

def bestP (a b t g : Int) (x : S136) : Bool := decide (x.f0 = a) && (decide (x.f1 = b) && holdsB x t g)
def bestV (a b t g : Int) : List S136 → Int → Int
  | [], m => m
  | x :: l, m => bestV a b t g l (if bestP a b t g x = true then (if m < x.f2 then x.f2 else m) else m)
/-- What a person's facts of the kind role give. -/
def givesP (p t g : Int) (x : S136) : Bool := decide (x.f0 = 1) && (decide (x.f1 = p) && holdsB x t g)
def hasRB (l : List S154) (s : List S136) (p r t g : Int) : Bool := s.any fun x => givesP p t g x && hasI (rolesV l x.f2) r
theorem rolesV_len (l : List S154) (r : Int) : (rolesV l r).length ≤ 6 := by
  unfold rolesV
  split
  · unfold outV
    exact Nat.le_trans (List.length_filter_le _ _) (by simp)
  · simp
theorem rolesV_role (l : List S154) (r : Int) : ∀ q ∈ rolesV l r, roleB q = true := by
  intro q hq
  unfold rolesV at hq
  split at hq
  · unfold outV at hq
    have := (List.mem_filter.1 hq).1
    rw [roleB_iff]
    simp at this
    omega
  · simp at hq
theorem any_hasI (l : List Int) (r : Int) : hasI l r = true ↔ r ∈ l := by
  unfold hasI
  rw [List.any_eq_true]
  constructor
  · rintro ⟨x, hx, e⟩; rw [decide_eq_true_eq] at e; rw [e]; exact hx
  · intro h; exact ⟨r, h, by simp⟩
theorem rolesOf_l2 (m : List Bool) (hm : m.length = 6) : ∀ (d : Nat) (r : Nat) (out : List Int), r + d = 6 → out.length ≤ r → Ev (fun k => spec_RolesOf.l2 k m out (r : Int)) (out ++ (([0, 1, 2, 3, 4, 5] : List Int).drop r).filter (fun r => mkR m r)) := by
  intro d
  induction d with
  | zero =>
    intro r out hr _
    obtain rfl : r = 6 := by omega
    refine Ev.succ ?_
    simp only [spec_RolesOf.l2]
    refine Ev.neg (by omega) ?_
    simp only [List.drop_succ_cons, List.drop_nil, List.filter_nil, List.append_nil]
    exact Ev.now _
  | succ d ih =>
    intro r out hr ho
    have hd : (([0, 1, 2, 3, 4, 5] : List Int).drop r) = (r : Int) :: (([0, 1, 2, 3, 4, 5] : List Int).drop (r + 1)) := by
      rcases (by omega : r = 0 ∨ r = 1 ∨ r = 2 ∨ r = 3 ∨ r = 4 ∨ r = 5) with rfl | rfl | rfl | rfl | rfl | rfl <;> rfl
    have e : wrap64 ((r : Int) + 1) = ((r + 1 : Nat) : Int) := wr1 (n := 6) (by omega) (by omega)
    have e2 : rdOf false m (r : Int) = mkR m (r : Int) := rfl
    rw [hd, List.filter_cons]
    refine Ev.succ ?_
    simp only [spec_RolesOf.l2, e, e2]
    refine Ev.pos (by omega) (Ev.pos (by omega) (Ev.pos (by omega) ?_))
    cases mkR m (r : Int) with
    | false => simp only [Bool.false_eq_true, if_false]; exact ih (r + 1) out (by omega) (by omega)
    | true =>
      simp only [if_true]
      refine Ev.pos (by omega) ?_
      have := ih (r + 1) (out ++ [(r : Int)]) (by omega) (by simp; omega)
      rw [List.append_assoc] at this
      exact this
def setAll (m : List Bool) (u : List Int) : List Bool := u.foldl (fun m r => m.set r.toNat true) m
theorem setAll_len (u : List Int) : ∀ m : List Bool, (setAll m u).length = m.length := by
  induction u with
  | nil => intro m; rfl
  | cons r u ih => intro m; unfold setAll at *; rw [List.foldl_cons, ih, List.length_set]
theorem setAll_mk (u : List Int) : ∀ (m : List Bool), m.length = 6 → (∀ q ∈ u, roleB q = true) → ∀ q, roleB q = true → mkR (setAll m u) q = (mkR m q || hasI u q) := by
  induction u with
  | nil => intro m _ _ q _; simp [setAll, hasI]
  | cons r u ih =>
    intro m hm hu q hq
    have h1 := ih (m.set r.toNat true) (by rw [List.length_set]; exact hm) (fun y hy => hu y (List.mem_cons_of_mem _ hy)) q hq
    unfold setAll at h1 ⊢
    rw [List.foldl_cons, h1, mk_set hm (hu r List.mem_cons_self) q hq]
    unfold hasI
    rw [List.any_cons]
    cases mkR m q <;> cases decide (q = r) <;> simp
/-- The marks behind all facts. -/
def marksV (l : List S154) (p t g : Int) : List S136 → List Bool → List Bool
  | [], m => m
  | x :: s, m => marksV l p t g s (if givesP p t g x = true then setAll m (rolesV l x.f2) else m)
theorem marksV_len (l : List S154) (p t g : Int) : ∀ (s : List S136) (m : List Bool), (marksV l p t g s m).length = m.length
  | [], _ => rfl
  | x :: s, m => by
    rw [marksV, marksV_len l p t g s]
    split
    · exact setAll_len _ _
    · rfl
theorem marksV_mk (l : List S154) (p t g : Int) (q : Int) (hq : roleB q = true) : ∀ (s : List S136) (m : List Bool), m.length = 6 → mkR (marksV l p t g s m) q = (mkR m q || hasRB l s p q t g)
  | [], m, _ => by simp [marksV, hasRB]
  | x :: s, m, hm => by
    rw [marksV, marksV_mk l p t g q hq s _ (by split <;> simp [setAll_len, hm])]
    unfold hasRB
    rw [List.any_cons]
    cases givesP p t g x with
    | false => simp
    | true =>
      simp only [if_true, Bool.true_and]
      rw [setAll_mk _ m hm (rolesV_role l x.f2) q hq, Bool.or_assoc]
theorem hasRB_role (l : List S154) (s : List S136) (p r t g : Int) (h : roleB r = false) : hasRB l s p r t g = false := by
  unfold hasRB
  rw [List.any_eq_false]
  intro x _
  have : hasI (rolesV l x.f2) r = false := by
    rw [Bool.eq_false_iff]
    intro hc
    have := rolesV_role l x.f2 r ((any_hasI _ _).1 hc)
    rw [h] at this; cases this
  simp [this]
theorem spec_RolesOf_ev (l : List S154) (s : List S136) (p t g : Int) (hl : l.length ≤ 1048576) (h : s.length ≤ 1048576) : ∃ v, Ev (fun k => spec_RolesOf.f k l s p t g) v ∧ v.length ≤ 6 ∧ ∀ r, hasI v r = hasRB l s p r t g := by
  have under : ∀ (u : List Int) (hu : ∀ q ∈ u, roleB q = true) (hn : u.length ≤ 6) (i : Nat) (r : List Int) (d j : Nat) (m : List Bool), m.length = 6 → u.length - j = d → j ≤ u.length → Ev (fun k => spec_RolesOf.l0 k l s p t g (setAll m (u.drop j)) (wrap64 ((i : Int) + 1))) r → Ev (fun k => spec_RolesOf.l1 k l s p t g m (i : Int) u (j : Int)) r := by
    intro u hu hn i r d
    induction d with
    | zero =>
      intro j m hm hd hj hr
      obtain rfl : j = u.length := by omega
      rw [List.drop_length] at hr
      refine Ev.succ ?_
      simp only [spec_RolesOf.l1, Int.lt_irrefl, if_false]
      exact hr
    | succ d ih =>
      intro j m hm hd hj hr
      have hj' : j < u.length := by omega
      obtain ⟨y, hy⟩ := getAt (l := u) (i := j) hj'
      have hb := roleB_iff.1 (hu y (List.mem_of_getElem? hy))
      have ry := rd_nat _ _ _ hy
      have hd2 : u.drop j = y :: u.drop (j + 1) := by
        rw [List.drop_eq_getElem_cons hj']
        rw [List.getElem?_eq_getElem hj'] at hy
        rw [Option.some.inj hy]
      have hr2 := ih (j + 1) (m.set y.toNat true) (by rw [List.length_set]; exact hm) (by omega) (by omega) (by rw [hd2] at hr; exact hr)
      have k1 : ((j : Int) < (u.length : Int)) = True := eq_true (by omega)
      have k2 : (0 ≤ (j : Int)) = True := eq_true (by omega)
      have k3 : (0 ≤ y) = True := eq_true (by omega)
      have k4 : (y < (m.length : Int)) = True := eq_true (by omega)
      have w := wr1 hj' (show u.length ≤ 9223372036854775807 by omega)
      refine Ev.succ ?_
      simp only [spec_RolesOf.l1, k1, k2, k3, k4, if_true, ry, w]
      exact hr2
  have key : ∀ (d i : Nat) (m : List Bool), m.length = 6 → s.length - i = d → i ≤ s.length → Ev (fun k => spec_RolesOf.l0 k l s p t g m (i : Int)) (outV (marksV l p t g (s.drop i) m)) := by
    intro d
    induction d with
    | zero =>
      intro i m hm hd hi
      obtain rfl : i = s.length := by omega
      refine Ev.succ ?_
      simp only [spec_RolesOf.l0, Int.lt_irrefl, if_false, List.drop_length, marksV]
      exact rolesOf_l2 m hm 6 0 [] rfl (by simp)
    | succ d ih =>
      intro i m hm hd hi
      have hi' : i < s.length := by omega
      have hx : s[i]? = some s[i] := List.getElem?_eq_getElem hi'
      rw [List.drop_eq_getElem_cons hi', marksV]
      generalize s[i] = x at hx ⊢
      have h1 : ((i : Int) < (s.length : Int)) = True := eq_true (by omega)
      have h2 : (0 ≤ (i : Int)) = True := eq_true (by omega)
      have hl6 := rolesV_len l x.f2
      have hno := ih (i + 1) m hm (by omega) (by omega)
      have hyes := ih (i + 1) (setAll m (rolesV l x.f2)) (by rw [setAll_len]; exact hm) (by omega) (by omega)
      have h3 := wr1 hi' (show s.length ≤ 9223372036854775807 by omega)
      have jno : givesP p t g x = false → Ev (fun k => spec_RolesOf.j1 k l s p t g m (i : Int) true) (outV (marksV l p t g (s.drop (i + 1)) (if givesP p t g x = true then setAll m (rolesV l x.f2) else m))) := by
        intro e
        refine Ev.succ ?_
        simp only [spec_RolesOf.j1, e, Bool.false_eq_true, if_false, if_true, h3]
        exact hno
      refine Ev.succ ?_
      simp only [spec_RolesOf.l0, h1, h2, if_true, rd_at_T136 hx, spec_HoldsAt_eq, Option.bind_some]
      by_cases c0 : x.f0 = 1
      · by_cases c1 : x.f1 = p
        · cases c2 : holdsB x t g with
          | false => simp only [if_pos c0, if_pos c1, Bool.not_false]; exact jno (by simp [givesP, c2])
          | true =>
            have e : givesP p t g x = true := by simp [givesP, c0, c1, c2]
            simp only [if_pos c0, if_pos c1, Bool.not_true]
            refine Ev.succ ?_
            simp only [spec_RolesOf.j1, e, Bool.false_eq_true, if_false, if_true, h1, h2, rd_at_T136 hx]
            refine Ev.bind (spec_RolesUnder_ev l x.f2 hl) ?_
            exact under _ (rolesV_role l x.f2) hl6 i _ _ 0 m hm rfl (by omega) (by rw [List.drop_zero, h3]; exact hyes)
        · simp only [if_pos c0, if_neg c1]; exact jno (by simp [givesP, c1])
      · simp only [if_neg c0]; exact jno (by simp [givesP, c0])
  have hk := key s.length 0 (List.replicate 6 false) (by simp) (by omega) (by omega)
  rw [List.drop_zero] at hk
  have hml : (marksV l p t g s (List.replicate 6 false)).length = 6 := by rw [marksV_len]; simp
  refine ⟨outV (marksV l p t g s (List.replicate 6 false)), ?_, ?_, fun r => ?_⟩
  · unfold spec_RolesOf.f
    exact Ev.pos (by omega) hk
  · exact Nat.le_trans (List.length_filter_le _ _) (by simp)
  · cases c : roleB r with
    | true =>
      rw [has_out _ r c, marksV_mk l p t g r c s _ (by simp)]
      have : mkR (List.replicate 6 false) r = false := by
        have := roleB_iff.1 c
        rcases (by omega : r = 0 ∨ r = 1 ∨ r = 2 ∨ r = 3 ∨ r = 4 ∨ r = 5) with rfl | rfl | rfl | rfl | rfl | rfl <;> rfl
      rw [this, Bool.false_or]
    | false =>
      rw [hasRB_role l s p r t g c, Bool.eq_false_iff]
      intro hc
      have h1 := (any_hasI _ _).1 hc
      unfold outV at h1
      have h2 := (List.mem_filter.1 h1).1
      rw [Bool.eq_false_iff] at c
      apply c
      rw [roleB_iff]
      simp at h2
      omega

theorem spec_HasRole_ev (l : List S154) (s : List S136) (p r t g : Int) (hl : l.length ≤ 1048576) (h : s.length ≤ 1048576) : Ev (fun k => spec_HasRole.f k l s p r t g) (hasRB l s p r t g) := by
  obtain ⟨v, hE, hv, hh⟩ := spec_RolesOf_ev l s p t g hl h
  unfold spec_HasRole.f
  refine Ev.bind hE ?_
  rw [← hh r]
  exact Ev.bid (spec_l13Has_ev v r (by omega))

def findP (a b c t g : Int) (x : S136) : Bool := decide (x.f0 = a) && (decide (x.f1 = b) && (decide (x.f2 = c) && holdsB x t g))
theorem spec_FindFact_ev (l : List S136) (a b c t g : Int) (h : l.length ≤ 1048576) : Ev (fun k => spec_FindFact.f k l a b c t g) (idxV (findP a b c t g) l 0) := by
  unfold spec_FindFact.f
  refine ev_idx l (findP a b c t g) id (fun k i => spec_FindFact.l0 k l a b c t g i) ?_ ?_
  · refine Ev.succ ?_
    simp only [spec_FindFact.l0, Int.lt_irrefl, if_false]
    exact Ev.now _
  · intro i x hx
    have hi := lt_of_get hx
    have h1 : ((i : Int) < (l.length : Int)) = True := eq_true (by omega)
    have h2 : (0 ≤ (i : Int)) = True := eq_true (by omega)
    have h3 := wr1 hi (show l.length ≤ 9223372036854775807 by omega)
    refine ⟨fun hp r hr => ?_, fun hp => ?_⟩
    · refine Ev.succ ?_
      simp only [spec_FindFact.l0, h1, h2, if_true, rd_at_T136 hx, h3, spec_HoldsAt_eq, Option.bind_some]
      unfold findP at hp
      by_cases c0 : x.f0 = a
      · by_cases c1 : x.f1 = b
        · by_cases c2 : x.f2 = c
          · have hq : holdsB x t g = false := by simpa [c0, c1, c2] using hp
            simp only [if_pos c0, if_pos c1, if_pos c2, hq, Bool.false_eq_true, if_false]; exact hr
          · simp only [if_pos c0, if_pos c1, if_neg c2]; exact hr
        · simp only [if_pos c0, if_neg c1]; exact hr
      · simp only [if_neg c0]; exact hr
    · refine Ev.succ ?_
      simp only [findP, Bool.and_eq_true, decide_eq_true_eq] at hp
      simp only [spec_FindFact.l0, h1, h2, if_true, rd_at_T136 hx, spec_HoldsAt_eq, Option.bind_some, if_pos hp.1, if_pos hp.2.1, if_pos hp.2.2.1, hp.2.2.2]
      exact Ev.now _

theorem spec_Max_eq (a b : Int) : spec_Max.f a b = some (if b > a then b else a) := by
  unfold spec_Max.f; split <;> rfl

theorem spec_BestValue_ev (l : List S136) (a b t g : Int) (h : l.length ≤ 1048576) : Ev (fun k => spec_BestValue.f k l a b t g) (bestV a b t g l (-1)) := by
  have key : ∀ (d i : Nat) (m : Int), l.length - i = d → i ≤ l.length → Ev (fun k => spec_BestValue.l0 k l a b t g m (i : Int)) (bestV a b t g (l.drop i) m) := by
    intro d
    induction d with
    | zero =>
      intro i m hd hi
      obtain rfl : i = l.length := by omega
      refine Ev.succ ?_
      simp only [spec_BestValue.l0, Int.lt_irrefl, if_false, List.drop_length, bestV]
      exact Ev.now _
    | succ d ih =>
      intro i m hd hi
      have hi' : i < l.length := by omega
      have hx : l[i]? = some l[i] := List.getElem?_eq_getElem hi'
      rw [List.drop_eq_getElem_cons hi', bestV]
      generalize l[i] = x at hx ⊢
      have h1 : ((i : Int) < (l.length : Int)) = True := eq_true (by omega)
      have h2 : (0 ≤ (i : Int)) = True := eq_true (by omega)
      have hr := fun m => ih (i + 1) m (by omega) (by omega)
      have h3 := wr1 hi' (show l.length ≤ 9223372036854775807 by omega)
      refine Ev.succ ?_
      simp only [spec_BestValue.l0, h1, h2, if_true, rd_at_T136 hx, h3, spec_HoldsAt_eq, spec_Max_eq, Option.bind_some]
      by_cases c0 : x.f0 = a
      · by_cases c1 : x.f1 = b
        · cases c2 : holdsB x t g with
          | false =>
            have e : bestP a b t g x = false := by simp [bestP, c2]
            simp only [if_pos c0, if_pos c1, e, Bool.false_eq_true, if_false]; exact hr m
          | true =>
            have e : bestP a b t g x = true := by simp [bestP, c0, c1, c2]
            simp only [if_pos c0, if_pos c1, e, if_true]; exact hr _
        · have e : bestP a b t g x = false := by simp [bestP, c1]
          simp only [if_pos c0, if_neg c1, e, Bool.false_eq_true, if_false]; exact hr m
      · have e : bestP a b t g x = false := by simp [bestP, c0]
        simp only [if_neg c0, e, Bool.false_eq_true, if_false]; exact hr m
  unfold spec_BestValue.f
  exact Ev.eqv (by rw [List.drop_zero]) (key l.length 0 (-1) (by omega) (by omega))

def leafB (l : List S154) (s : List S136) (q : S41) (o a g : Int) : Bool := if o = 1 then true else if o = 2 then hasRB l s q.f0 a q.f5 g else if o = 3 then decide (idxV (findP 2 q.f0 q.f1 q.f5 g) s 0 ≥ 0) else if o = 4 then decide (bestV 3 q.f1 q.f5 g s (-1) ≥ a) else if o = 5 then decide (bestV 4 q.f2 q.f5 g s (-1) ≥ a) else if o = 6 then decide (q.f5 ≤ a) else false
theorem idxV_ge {α : Type} (p : α → Bool) : ∀ (l : List α) (i : Int), 0 ≤ i → (idxV p l i = -1 ∨ 0 ≤ idxV p l i)
  | [], _, _ => .inl rfl
  | x :: xs, i, h => by
    rw [idxV]
    split
    · exact .inr h
    · exact idxV_ge p xs (i + 1) (by omega)
theorem idxV_ne {α : Type} (p : α → Bool) (l : List α) : (idxV p l 0 != -1) = decide (idxV p l 0 ≥ 0) := by
  rcases idxV_ge p l 0 (by omega) with h | h
  · rw [h]; rfl
  · rw [decide_eq_true h]; simp; omega
theorem spec_LeafHolds_ev (l : List S154) (s : List S136) (q : S41) (o a g : Int) (u : List S172) (hl : l.length ≤ 1048576) (h : s.length ≤ 1048576) : Ev (fun k => spec_LeafHolds.f k l s o a g u q.f0 q.f1 q.f2 q.f3 q.f4 q.f5) (leafB l s q o a g) := by
  unfold spec_LeafHolds.f leafB
  by_cases c1 : o = 1
  · simp only [if_pos c1]; exact Ev.now _
  by_cases c2 : o = 2
  · simp only [if_neg c1, if_pos c2]; exact Ev.bid (spec_HasRole_ev l s q.f0 a q.f5 g hl h)
  by_cases c3 : o = 3
  · simp only [if_neg c1, if_neg c2, if_pos c3]
    · refine Ev.bind (spec_FindFact_ev s 2 q.f0 q.f1 q.f5 g h) ?_
      exact Ev.now _
  by_cases c4 : o = 4
  · simp only [if_neg c1, if_neg c2, if_neg c3, if_pos c4]
    exact Ev.bind (spec_BestValue_ev s 3 q.f1 q.f5 g h) (Ev.now _)
  by_cases c5 : o = 5
  · simp only [if_neg c1, if_neg c2, if_neg c3, if_neg c4, if_pos c5]
    exact Ev.bind (spec_BestValue_ev s 4 q.f2 q.f5 g h) (Ev.now _)
  by_cases c6 : o = 6
  · simp only [if_neg c1, if_neg c2, if_neg c3, if_neg c4, if_neg c5, if_pos c6]; exact Ev.now _
  · simp only [if_neg c1, if_neg c2, if_neg c3, if_neg c4, if_neg c5, if_neg c6]; exact Ev.now _



theorem impl_IsName_eq (a : Int) : impl_IsName.f a = some (nameB a) := by
  unfold impl_IsName.f
  rw [impl_InRange_eq]; rfl

theorem impl_KindOf_eq (a : Int) : impl_KindOf.f a = some (if nameB a = true then a / 10 else 0) := by
  unfold impl_KindOf.f
  rw [impl_IsName_eq, Option.bind_some]
  cases h : nameB a with
  | true => simp only [if_true, name_div h]
  | false => rfl

theorem impl_HasKind_eq (a b : Int) : impl_HasKind.f a b = some (kindB a b) := by
  unfold impl_HasKind.f kindB
  rw [impl_IsName_eq, impl_KindOf_eq, Option.bind_some]
  cases h : nameB a with
  | true => simp only [if_true, Option.bind_some, Bool.true_and]
  | false => rfl

theorem impl_IsTime_eq (a : Int) : impl_IsTime.f a = some (timeB a) := by
  unfold impl_IsTime.f
  rw [impl_InRange_eq]; rfl

theorem impl_IsRequest_eq (a b c d e t : Int) : impl_IsRequest.f a b c d e t = some (reqB a b c d e t) := by
  unfold impl_IsRequest.f reqB
  simp only [impl_HasKind_eq, impl_IsTime_eq, impl_InRange_eq, Option.bind_some]
  cases kindB a 1 <;> cases kindB b 2 <;> cases kindB c 3 <;> cases kindB e 4 <;> cases inB d 0 5 <;> simp

theorem impl_SizeOf_evN (N : Nat) : ∀ x : S172, n172 x ≤ N → N ≤ 1048576 → Ev (fun k => impl_SizeOf.f k x.f0 x.f1 x.f2 x.f3) (1 + (n172 x : Int)) := by
  induction N using Nat.strongRecOn with
  | _ N ih =>
  intro x hx hN
  rw [n172_f] at hx ⊢
  have key : ∀ (d i : Nat) (s : Int), x.f3.length - i = d → i ≤ x.f3.length → 0 ≤ s → s + (((x.f3.drop i).length + ((x.f3.drop i).map n172).sum : Nat) : Int) ≤ 2000000 → Ev (fun k => impl_SizeOf.l0 k s x.f3 (x.f3.length : Int) (i : Int)) (s + (((x.f3.drop i).length + ((x.f3.drop i).map n172).sum : Nat) : Int)) := by
    intro d
    induction d with
    | zero =>
      intro i s hd hi h0 hs
      obtain rfl : i = x.f3.length := by omega
      refine Ev.succ ?_
      simp only [impl_SizeOf.l0, Int.lt_irrefl, if_false, List.drop_length, List.length_nil, List.map_nil, List.sum_nil]
      exact Ev.eqv (by omega) (Ev.now _)
    | succ d ih2 =>
      intro i s hd hi h0 hs
      have hi' : i < x.f3.length := by omega
      have hy : x.f3[i]? = some x.f3[i] := List.getElem?_eq_getElem hi'
      have hn := le_sum n172 hy
      rw [List.drop_eq_getElem_cons hi'] at hs ⊢
      simp only [List.length_cons, List.map_cons, List.sum_cons] at hs ⊢
      generalize x.f3[i] = y at hy hn hs ⊢
      have e := ih (n172 y) (by omega) y (Nat.le_refl _) (by omega)
      have h1 : ((i : Int) < (x.f3.length : Int)) = True := eq_true (by omega)
      have h2 : (0 ≤ (i : Int)) = True := eq_true (by omega)
      refine Ev.succ ?_
      simp only [impl_SizeOf.l0, h1, h2, if_true, rd_at_T172 hy, wr1 hi' (by omega)]
      refine Ev.bind e ?_
      rw [wr (show (-9223372036854775808 : Int) ≤ s + (1 + (n172 y : Int)) by omega) (by omega)]
      exact Ev.eqv (by omega) (ih2 (i + 1) (s + (1 + (n172 y : Int))) (by omega) (by omega) (by omega) (by omega))
  refine Ev.succ ?_
  simp only [impl_SizeOf.f]
  exact Ev.eqv (by rw [List.drop_zero]) (key x.f3.length 0 1 (by omega) (by omega) (by omega) (by rw [List.drop_zero]; omega))
theorem impl_SizeOf_ev (x : S172) (h : n172 x ≤ 1048576) : Ev (fun k => impl_SizeOf.f k x.f0 x.f1 x.f2 x.f3) (1 + (n172 x : Int)) := impl_SizeOf_evN _ x (Nat.le_refl _) h

-- told elsewhere

-- told elsewhere

-- told elsewhere

-- told elsewhere

theorem impl_IsCond_ev (x : S172) (h : n172 x ≤ 1048576) : Ev (fun k => impl_IsCond.f k x.f0 x.f1 x.f2 x.f3) (condB x) := by
  have hv := (valid_evN _ x (Nat.le_refl _) h).2
  unfold impl_IsCond.f condB
  refine Ev.bind (impl_SizeOf_ev x h) ?_
  by_cases c : 1 + (n172 x : Int) ≤ 15
  · simp only [if_pos c, decide_eq_true c, Bool.true_and]
    exact Ev.bind hv (Ev.now _)
  · simp only [if_neg c, decide_eq_false c, Bool.false_and]
    exact Ev.now _

theorem impl_IsRule_ev (r : S174) (h : n174 r ≤ 1048576) : Ev (fun k => impl_IsRule.f k r.f0 r.f1 r.f2 r.f3.f0 r.f3.f1 r.f3.f2 r.f3.f3) (ruleB r) := by
  have hc := impl_IsCond_ev r.f3 (by have := rule_n r; omega)
  unfold impl_IsRule.f ruleB
  simp only [impl_InRange_eq, impl_HasKind_eq, Option.bind_some]
  refine Ev.bifT fun _ => Ev.bifT fun _ => ?_
  by_cases c : r.f2 = -1
  · simp only [if_pos c, beq_iff_eq.2 c, Bool.true_or, Bool.true_and]
    exact Ev.bind hc (Ev.now _)
  · simp only [if_neg c, beq_eq_false_iff_ne.2 c, Bool.false_or]
    exact Ev.bifT fun _ => Ev.bind hc (Ev.now _)

-- told where IsPolicy is

theorem impl_IsPolicy_ev (p : S39) (h : n39 p ≤ 1048576) : Ev (fun k => impl_IsPolicy.f k p.f0 p.f1) (policyB p) := by
  unfold n39 at h
  unfold impl_IsPolicy.f policyB
  simp only [impl_InRange_eq, Option.bind_some]
  refine Ev.bifT fun _ => Ev.dand fun _ => ?_
  refine Ev.bind (ev_idxO _ (fun x => !ruleB x) p.f1 0 ?_) ?_
  · intro x hx
    obtain ⟨i, hi, rfl⟩ := List.getElem_of_mem hx
    have hn := le_sum n174 (List.getElem?_eq_getElem hi)
    unfold cl111.f
    exact Ev.bind (impl_IsRule_ev _ (by omega)) (Ev.now _)
  · refine Ev.eqv ?_ (Ev.now _)
    rw [idxV_any (fun x => !ruleB x) p.f1]
    simp [List.any_eq_not_all_not]

theorem impl_IsFor_eq (x : S174) (a o : Int) : impl_IsFor.f x.f0 x.f1 x.f2 x.f3.f0 x.f3.f1 x.f3.f2 x.f3.f3 a o = some (forB x a o) := by
  unfold impl_IsFor.f forB
  by_cases c1 : x.f1 = -1
  · rw [if_pos c1]
    by_cases c2 : x.f2 = -1
    · rw [if_pos c2]; simp [c1, c2]
    · rw [if_neg c2]; simp [c1, c2, Bool.beq_eq_decide_eq]
  · rw [if_neg c1]
    by_cases c3 : x.f1 = a
    · rw [if_pos c3]
      by_cases c2 : x.f2 = -1
      · rw [if_pos c2]; simp [c3, c2]
      · rw [if_neg c2]; simp [c3, c2, Bool.beq_eq_decide_eq]
    · rw [if_neg c3]; simp [c1, c3]

theorem slices_Index_int_int_evB (l : List Int) (a : Int) (h : l.length ≤ 1099511627776) : Ev (fun k => slices_Index_int_int.f k l a) (idxV (fun x => decide (a = x)) l 0) := by
  unfold slices_Index_int_int.f
  refine ev_idx l (fun x => decide (a = x)) id (fun k i => slices_Index_int_int.l0 k l a (l.length : Int) i) ?_ ?_
  · refine Ev.succ ?_
    simp only [slices_Index_int_int.l0, Int.lt_irrefl, if_false]
    exact Ev.now _
  · intro i x hx
    have hi := lt_of_get hx
    have h1 : ((i : Int) < (l.length : Int)) = True := eq_true (by omega)
    have h2 : (0 ≤ (i : Int)) = True := eq_true (by omega)
    constructor
    · intro c r hr
      have c' : ¬ a = x := of_decide_eq_false c
      refine Ev.succ ?_
      simp only [slices_Index_int_int.l0, h1, h2, if_true, rd_nat l i x hx, wr1 hi (by omega), if_neg c']
      exact hr
    · intro c
      have c' : a = x := of_decide_eq_true c
      refine Ev.succ ?_
      simp only [slices_Index_int_int.l0, h1, h2, if_true, rd_nat l i x hx, if_pos c']
      exact Ev.now _
theorem slices_Index_int_int_ev (l : List Int) (a : Int) (h : l.length ≤ 1048576) : Ev (fun k => slices_Index_int_int.f k l a) (idxV (fun x => decide (a = x)) l 0) := slices_Index_int_int_evB l a (by omega)

theorem slices_Contains_int_int_evB (l : List Int) (a : Int) (h : l.length ≤ 1099511627776) : Ev (fun k => slices_Contains_int_int.f k l a) (hasI l a) := by
  unfold slices_Contains_int_int.f hasI
  rw [← idxV_any]
  exact Ev.bind (slices_Index_int_int_evB l a h) (Ev.now _)
theorem slices_Contains_int_int_ev (l : List Int) (a : Int) (h : l.length ≤ 1048576) : Ev (fun k => slices_Contains_int_int.f k l a) (hasI l a) := slices_Contains_int_int_evB l a (by omega)

theorem impl_IsWithin_eq (a b t : Int) : impl_IsWithin.f a b t = some (withinB a b t) := by
  unfold impl_IsWithin.f withinB
  simp only [impl_IsTime_eq, impl_InRange_eq, Option.bind_some]
  cases timeB a <;> cases timeB b <;> cases timeB t <;> simp [inB]

theorem impl_isClaim_eq (x : S136) : impl_isClaim.f x.f0 x.f1 x.f2 x.f3 x.f4 x.f5 = some (claimB x) := by
  unfold impl_isClaim.f claimB
  simp only [impl_HasKind_eq, impl_InRange_eq, Option.bind_some, ite_and]
  (repeat' split) <;> rfl

theorem impl_IsFact_eq (x : S136) : impl_IsFact.f x.f0 x.f1 x.f2 x.f3 x.f4 x.f5 = some (factB x) := by
  unfold impl_IsFact.f factB
  simp only [impl_isClaim_eq, impl_InRange_eq, impl_IsTime_eq, Option.bind_some, ite_and]

theorem impl_AgeOf_eq (a b : Int) : impl_AgeOf.f a b = some (ageV a b) := by
  unfold impl_AgeOf.f ageV
  simp only [impl_IsTime_eq, Option.bind_some]
  by_cases c1 : timeB a = true
  · by_cases c2 : timeB b = true
    · have h1 := timeAt c1
      have h2 := timeAt c2
      by_cases c3 : a > b
      · simp only [if_pos c1, if_pos c2, if_pos c3, if_neg (show ¬ (timeB a = true ∧ timeB b = true ∧ a ≤ b) from fun h => by omega)]
      · simp only [if_pos c1, if_pos c2, if_neg c3, if_pos (show timeB a = true ∧ timeB b = true ∧ a ≤ b from ⟨c1, c2, by omega⟩), wr (x := b - a) (by omega) (by omega)]
    · simp only [if_pos c1, if_neg c2, if_neg (show ¬ (timeB a = true ∧ timeB b = true ∧ a ≤ b) from fun h => c2 h.2.1)]
  · simp only [if_neg c1, if_neg (show ¬ (timeB a = true ∧ timeB b = true ∧ a ≤ b) from fun h => c1 h.1)]

theorem impl_HoldsAt_eq (x : S136) (t a : Int) : impl_HoldsAt.f x.f0 x.f1 x.f2 x.f3 x.f4 x.f5 t a = some (holdsB x t a) := by
  unfold impl_HoldsAt.f holdsB
  simp only [impl_IsFact_eq, impl_IsWithin_eq, impl_AgeOf_eq, Option.bind_some]
  cases factB x
  · simp
  · cases h : withinB x.f4 x.f5 t
    · simp
    · have h2 := within_iff h
      simp only [if_true, Bool.true_and]
      rw [fresh_age h2.1 h2.2.2.1 h2.2.2.2.1]

-- told elsewhere



theorem roles_filter (m q : List Bool) (a : Int) (h : ∀ r, roleB r = true → ((mkR m r = true ∨ r = a) ↔ mkR q r = true)) : rolesX m a 6 = outV q := by
  have key : ∀ n, n ≤ 6 → rolesX m a n = (([0, 1, 2, 3, 4, 5] : List Int).take n).filter (fun r => mkR q r) := by
    intro n
    induction n with
    | zero => intro _; rfl
    | succ n ih =>
      intro hn
      have hb : roleB (n : Int) = true := by rw [roleB_iff]; omega
      have hq := h (n : Int) hb
      have ht : (([0, 1, 2, 3, 4, 5] : List Int).take (n + 1)) = (([0, 1, 2, 3, 4, 5] : List Int).take n) ++ [(n : Int)] := by
        rcases (by omega : n = 0 ∨ n = 1 ∨ n = 2 ∨ n = 3 ∨ n = 4 ∨ n = 5) with rfl | rfl | rfl | rfl | rfl | rfl <;> rfl
      rw [rolesX, ih (by omega), ht, List.filter_append]
      congr 1
      by_cases c : mkR m (n : Int) = true ∨ (n : Int) = a
      · rw [if_pos c, List.filter_cons_of_pos (by exact hq.1 c), List.filter_nil]
      · rw [if_neg c, List.filter_cons_of_neg (by intro hc; exact c (hq.2 hc)), List.filter_nil]
  have := key 6 (Nat.le_refl _)
  rw [this]
  rfl
theorem impl_RolesUnder_ev (l : List S154) (role : Int) : Ev (fun k => impl_RolesUnder.f k l role) (rolesV l role) := by
  unfold impl_RolesUnder.f rolesV
  rw [roleB_in]
  cases c : roleB role with
  | false => simp only [Bool.false_eq_true, if_false]; exact Ev.now _
  | true =>
    simp only [if_true]
    refine ⟨8, fun k hk => ?_⟩
    obtain ⟨r, h1, h2, h3⟩ := below_spec l role c k hk
    dsimp only
    rw [h1, Option.bind_some]
    rw [roles_filter r (closX l role) role (fun q hq => by
      rw [h3 q hq, closX_iff l c hq, Rch_iff]
      constructor
      · rintro (h | h)
        · exact Or.inr h
        · exact Or.inl h.symm
      · rintro (h | h)
        · exact Or.inr h.symm
        · exact Or.inl h)]

theorem slices_Sort_int_int_eq (l : List Int) (h : l.length < 2199023255552) : slices_Sort_int_int.f l = some (l.mergeSort fun x y => decide (x ≤ y)) := by
  unfold slices_Sort_int_int.f
  rw [if_pos h]

theorem slices_Compact_int_int_eq (l : List Int) (h : l.length < 2199023255552) : slices_Compact_int_int.f l = some (Go.Lib.compact l) := by
  unfold slices_Compact_int_int.f
  rw [if_pos h]

theorem mem_compactUpTo (d : Array Int) (x : Int) : ∀ m, x ∈ Go.Lib.compactUpTo d m ↔ ∃ j, j < m ∧ d[j]! = x
  | 0 => by simp [Go.Lib.compactUpTo]
  | m + 1 => by
    rw [Go.Lib.compactUpTo_succ, List.mem_append, mem_compactUpTo d x m]
    constructor
    · rintro (⟨j, hj, e⟩ | h)
      · exact ⟨j, by omega, e⟩
      · split at h
        · exact ⟨m, by omega, (List.mem_singleton.1 h).symm⟩
        · simp at h
    · rintro ⟨j, hj, e⟩
      by_cases hm : j = m
      · subst hm
        by_cases hk : Go.Lib.keeps d j = true
        · rw [if_pos hk]; exact .inr (by simp [e])
        · left
          unfold Go.Lib.keeps at hk
          have h0 : j ≠ 0 ∧ d[j]! = d[j - 1]! := by simpa using hk
          exact ⟨j - 1, by omega, by rw [← h0.2, e]⟩
      · exact .inl ⟨j, by omega, e⟩
theorem asc_compactUpTo (d : Array Int) (n : Nat) (hs : ∀ i j, i ≤ j → j < n → d[i]! ≤ d[j]!) : ∀ m, m ≤ n → (Go.Lib.compactUpTo d m).Pairwise (· < ·)
  | 0, _ => by simp [Go.Lib.compactUpTo]
  | m + 1, hm => by
    rw [Go.Lib.compactUpTo_succ, List.pairwise_append]
    refine ⟨asc_compactUpTo d n hs m (by omega), by split <;> simp, ?_⟩
    intro a ha b hb
    split at hb
    case isFalse => simp at hb
    case isTrue hk =>
    obtain rfl := List.mem_singleton.1 hb
    obtain ⟨j, hj, rfl⟩ := (mem_compactUpTo d a m).1 ha
    unfold Go.Lib.keeps at hk
    have h0 : m = 0 ∨ d[m]! ≠ d[m - 1]! := of_decide_eq_true hk
    have h1 := hs j (m - 1) (by omega) (by omega)
    have h2 := hs (m - 1) m (by omega) (by omega)
    rcases h0 with h0 | h0
    · omega
    · omega
theorem asc_ext : ∀ (a b : List Int), a.Pairwise (· < ·) → b.Pairwise (· < ·) → (∀ x, x ∈ a ↔ x ∈ b) → a = b
  | [], [], _, _, _ => rfl
  | [], y :: b, _, _, h => by have := (h y).2 (by simp); simp at this
  | x :: a, [], _, _, h => by have := (h x).1 (by simp); simp at this
  | x :: a, y :: b, ha, hb, h => by
    rw [List.pairwise_cons] at ha hb
    have hxy : x = y := by
      have h1 := (h x).1 (by simp)
      have h2 := (h y).2 (by simp)
      rcases List.mem_cons.1 h1 with e | e
      · exact e
      · rcases List.mem_cons.1 h2 with e2 | e2
        · exact e2.symm
        · have := hb.1 x e; have := ha.1 y e2; omega
    subst hxy
    rw [asc_ext a b ha.2 hb.2 (fun z => ⟨fun hz => ?_, fun hz => ?_⟩)]
    · rcases List.mem_cons.1 ((h z).1 (by simp [hz])) with e | e
      · have := ha.1 z hz; omega
      · exact e
    · rcases List.mem_cons.1 ((h z).2 (by simp [hz])) with e | e
      · have := hb.1 z hz; omega
      · exact e
theorem asc_sorted (l : List Int) : (Go.Lib.compact (l.mergeSort fun x y => decide (x ≤ y))).Pairwise (· < ·) ∧ ∀ x, x ∈ Go.Lib.compact (l.mergeSort fun x y => decide (x ≤ y)) ↔ x ∈ l := by
  have hp : (l.mergeSort fun x y => decide (x ≤ y)).Pairwise fun x y => decide (x ≤ y) = true := List.pairwise_mergeSort (fun a b c h1 h2 => by simp at h1 h2 ⊢; omega) (fun a b => by simp; omega) l
  have hm : ∀ x, x ∈ (l.mergeSort fun x y => decide (x ≤ y)) ↔ x ∈ l := fun x => List.mem_mergeSort
  generalize (l.mergeSort fun x y => decide (x ≤ y)) = s at hp hm
  unfold Go.Lib.compact
  have hs : ∀ i j, i ≤ j → j < s.length → s.toArray[i]! ≤ s.toArray[j]! := by
    intro i j hij hj
    rw [getElem!_pos _ _ (by simp; omega), getElem!_pos _ _ (by simpa using hj)]
    rcases Nat.lt_or_eq_of_le hij with h | h
    · have := List.pairwise_iff_getElem.1 hp i j (by omega) hj h
      simpa using this
    · subst h; exact Int.le_refl _
  refine ⟨asc_compactUpTo _ s.length hs _ (Nat.le_refl _), fun x => ?_⟩
  rw [mem_compactUpTo, ← hm x]
  constructor
  · rintro ⟨j, hj, rfl⟩
    rw [getElem!_pos _ _ (by simpa using hj)]; simp
  · intro h
    obtain ⟨j, hj, rfl⟩ := List.getElem_of_mem h
    exact ⟨j, hj, by rw [getElem!_pos _ _ (by simpa using hj)]; simp⟩
/-- What is gathered, in the order of the facts. -/
def gathV (l : List S154) (p t g : Int) : List S136 → List Int
  | [] => []
  | x :: s => (if givesP p t g x = true then rolesV l x.f2 else []) ++ gathV l p t g s
theorem gath_has (l : List S154) (p r t g : Int) : ∀ s, hasI (gathV l p t g s) r = hasRB l s p r t g
  | [] => rfl
  | x :: s => by
    have ih := gath_has l p r t g s
    unfold hasI hasRB at *
    rw [gathV, List.any_append, List.any_cons, ih]
    cases givesP p t g x <;> simp [hasI]
theorem gath_len (l : List S154) (p t g : Int) : ∀ s : List S136, (gathV l p t g s).length ≤ 6 * s.length
  | [] => by simp [gathV]
  | x :: s => by
    have ih := gath_len l p t g s
    have := rolesV_len l x.f2
    rw [gathV, List.length_append, List.length_cons]
    split <;> simp <;> omega
theorem impl_RolesOf_ev (l : List S154) (s : List S136) (p t g : Int) (h : s.length ≤ 1048576) : ∃ v, Ev (fun k => impl_RolesOf.f k l s p t g) v ∧ v.length ≤ 6291456 ∧ ∀ r, hasI v r = hasRB l s p r t g := by
  have key : ∀ (d i : Nat) (out : List Int), s.length - i = d → i ≤ s.length → out.length + 6 * d ≤ 6291456 → Ev (fun k => impl_RolesOf.l0 k l p t g out s (s.length : Int) (i : Int)) (Go.Lib.compact ((out ++ gathV l p t g (s.drop i)).mergeSort fun x y => decide (x ≤ y))) := by
    intro d
    induction d with
    | zero =>
      intro i out hd hi ho
      obtain rfl : i = s.length := by omega
      refine Ev.succ ?_
      simp only [impl_RolesOf.l0, Int.lt_irrefl, if_false, List.drop_length, gathV, List.append_nil]
      rw [slices_Sort_int_int_eq out (by omega), Option.bind_some, slices_Compact_int_int_eq _ (by rw [List.length_mergeSort]; omega), Option.bind_some]
      exact Ev.now _
    | succ d ih =>
      intro i out hd hi ho
      have hi' : i < s.length := by omega
      have hx : s[i]? = some s[i] := List.getElem?_eq_getElem hi'
      rw [List.drop_eq_getElem_cons hi', gathV, ← List.append_assoc]
      generalize s[i] = x at hx ⊢
      have h1 : ((i : Int) < (s.length : Int)) = True := eq_true (by omega)
      have h2 : (0 ≤ (i : Int)) = True := eq_true (by omega)
      have hl := rolesV_len l x.f2
      have hno := fun (e : givesP p t g x = false) => ih (i + 1) out (by omega) (by omega) (by omega)
      have hyes := fun (e : givesP p t g x = true) => ih (i + 1) (out ++ rolesV l x.f2) (by omega) (by omega) (by rw [List.length_append]; omega)
      have h3 := wr1 hi' (show s.length ≤ 9223372036854775807 by omega)
      have jno : givesP p t g x = false → Ev (fun k => impl_RolesOf.j1 k l p t g out s (s.length : Int) (i : Int) false x.f0 x.f1 x.f2 x.f3 x.f4 x.f5) (Go.Lib.compact ((out ++ (if givesP p t g x = true then rolesV l x.f2 else []) ++ gathV l p t g (s.drop (i + 1))).mergeSort fun x y => decide (x ≤ y))) := by
        intro e
        refine Ev.succ ?_
        simp only [impl_RolesOf.j1, e, Bool.false_eq_true, if_false, h3, List.append_nil]
        exact hno e
      refine Ev.succ ?_
      simp only [impl_RolesOf.l0, h1, h2, if_true, rd_at_T136 hx, impl_HoldsAt_eq, Option.bind_some]
      by_cases c0 : x.f0 = 1
      · by_cases c1 : x.f1 = p
        · cases c2 : holdsB x t g with
          | false => simp only [if_pos c0, if_pos c1]; exact jno (by simp [givesP, c2])
          | true =>
            have e : givesP p t g x = true := by simp [givesP, c0, c1, c2]
            simp only [if_pos c0, if_pos c1]
            refine Ev.succ ?_
            simp only [impl_RolesOf.j1, e, if_true, h3]
            refine Ev.bind (impl_RolesUnder_ev l x.f2) ?_
            exact Ev.pos (by omega) (hyes e)
        · simp only [if_pos c0, if_neg c1]; exact jno (by simp [givesP, c1])
      · simp only [if_neg c0]; exact jno (by simp [givesP, c0])
  refine ⟨_, key s.length 0 [] (by omega) (by omega) (by simp; omega), ?_, fun r => ?_⟩
  · have := gath_len l p t g s
    have h2 := Go.Lib.compact_length_le (([] ++ gathV l p t g (s.drop 0)).mergeSort fun x y => decide (x ≤ y))
    rw [List.length_mergeSort] at h2
    simp only [List.nil_append, List.drop_zero] at h2 ⊢
    omega
  · rw [← gath_has]
    simp only [List.nil_append, List.drop_zero]
    rw [Bool.eq_iff_iff, any_hasI, any_hasI]
    exact (asc_sorted _).2 r

theorem impl_HasRole_ev (l : List S154) (s : List S136) (p r t g : Int) (hl : l.length ≤ 1048576) (h : s.length ≤ 1048576) : Ev (fun k => impl_HasRole.f k l s p r t g) (hasRB l s p r t g) := by
  obtain ⟨v, hE, hv, hh⟩ := impl_RolesOf_ev l s p t g h
  unfold impl_HasRole.f
  refine Ev.bind hE ?_
  rw [← hh r]
  exact Ev.bid (slices_Contains_int_int_evB v r (by omega))

theorem impl_FindFact_eq (l : List S136) (a b c t g : Int) : impl_FindFact.f l a b c t g = some (idxV (findP a b c t g) l 0) := by
  unfold impl_FindFact.f
  rw [← idxO_total]
  congr 1
  funext x
  unfold cl391.p findP
  rw [impl_HoldsAt_eq]
  by_cases c0 : x.f0 = a
  · by_cases c1 : x.f1 = b
    · by_cases c2 : x.f2 = c
      · rw [if_pos c0, if_pos c1, if_pos c2]; simp [c0, c1, c2]
      · rw [if_pos c0, if_pos c1, if_neg c2]; simp [c2]
    · rw [if_pos c0, if_neg c1]; simp [c1]
  · rw [if_neg c0]; simp [c0]

theorem impl_BestValue_ev (l : List S136) (a b t g : Int) (h : l.length ≤ 1048576) : Ev (fun k => impl_BestValue.f k l a b t g) (bestV a b t g l (-1)) := by
  have key : ∀ (d i : Nat) (m : Int), l.length - i = d → i ≤ l.length → Ev (fun k => impl_BestValue.l0 k a b t g m l (l.length : Int) (i : Int)) (bestV a b t g (l.drop i) m) := by
    intro d
    induction d with
    | zero =>
      intro i m hd hi
      obtain rfl : i = l.length := by omega
      refine Ev.succ ?_
      simp only [impl_BestValue.l0, Int.lt_irrefl, if_false, List.drop_length, bestV]
      exact Ev.now _
    | succ d ih =>
      intro i m hd hi
      have hi' : i < l.length := by omega
      have hx : l[i]? = some l[i] := List.getElem?_eq_getElem hi'
      rw [List.drop_eq_getElem_cons hi', bestV]
      generalize l[i] = x at hx ⊢
      have h1 : ((i : Int) < (l.length : Int)) = True := eq_true (by omega)
      have h2 : (0 ≤ (i : Int)) = True := eq_true (by omega)
      have hr := fun m => ih (i + 1) m (by omega) (by omega)
      have h3 := wr1 hi' (show l.length ≤ 9223372036854775807 by omega)
      have hj : ∀ q, bestP a b t g x = q → Ev (fun k => impl_BestValue.j1 k a b t g m l (l.length : Int) (i : Int) q x.f0 x.f1 x.f2 x.f3 x.f4 x.f5) (bestV a b t g (l.drop (i + 1)) (if bestP a b t g x = true then (if m < x.f2 then x.f2 else m) else m)) := by
        intro q e
        refine Ev.succ ?_
        simp only [impl_BestValue.j1, e, h3]
        cases q with
        | false => simp only [Bool.false_eq_true, if_false]; exact hr m
        | true => simp only [if_true]; exact hr _
      refine Ev.succ ?_
      simp only [impl_BestValue.l0, h1, h2, if_true, rd_at_T136 hx, impl_HoldsAt_eq, Option.bind_some]
      by_cases c0 : x.f0 = a
      · by_cases c1 : x.f1 = b
        · simp only [if_pos c0, if_pos c1]; exact hj _ (by simp [bestP, c0, c1])
        · simp only [if_pos c0, if_neg c1]; exact hj _ (by simp [bestP, c1])
      · simp only [if_neg c0]; exact hj _ (by simp [bestP, c0])
  unfold impl_BestValue.f
  exact Ev.eqv (by rw [List.drop_zero]) (key l.length 0 (-1) (by omega) (by omega))

theorem impl_LeafHolds_ev (l : List S154) (s : List S136) (q : S41) (o a g : Int) (u : List S172) (hl : l.length ≤ 1048576) (h : s.length ≤ 1048576) : Ev (fun k => impl_LeafHolds.f k l s o a g u q.f0 q.f1 q.f2 q.f3 q.f4 q.f5) (leafB l s q o a g) := by
  unfold impl_LeafHolds.f leafB
  by_cases c1 : o = 1
  · simp only [if_pos c1]; exact Ev.now _
  by_cases c2 : o = 2
  · simp only [if_neg c1, if_pos c2]; exact Ev.bid (impl_HasRole_ev l s q.f0 a q.f5 g hl h)
  by_cases c3 : o = 3
  · simp only [if_neg c1, if_neg c2, if_pos c3]
    · rw [impl_FindFact_eq, Option.bind_some, idxV_ne]
      exact Ev.now _
  by_cases c4 : o = 4
  · simp only [if_neg c1, if_neg c2, if_neg c3, if_pos c4]
    exact Ev.bind (impl_BestValue_ev s 3 q.f1 q.f5 g h) (Ev.now _)
  by_cases c5 : o = 5
  · simp only [if_neg c1, if_neg c2, if_neg c3, if_neg c4, if_pos c5]
    exact Ev.bind (impl_BestValue_ev s 4 q.f2 q.f5 g h) (Ev.now _)
  by_cases c6 : o = 6
  · simp only [if_neg c1, if_neg c2, if_neg c3, if_neg c4, if_neg c5, if_pos c6]; exact Ev.now _
  · simp only [if_neg c1, if_neg c2, if_neg c3, if_neg c4, if_neg c5, if_neg c6]; exact Ev.now _

theorem node_args {a b c : Int} {l : List S172} (h : spec_l15Node.f a b c l = some true) : (a = 7 → (l.length : Int) = 1) ∧ (a = 8 ∨ a = 9 → (l.length : Int) = 2) := by
  have ha : ∀ m, spec_ArityOf.f a = some m → (l.length : Int) = m := by
    intro m hm
    refine Classical.byContradiction fun hc => ?_
    revert h
    unfold spec_l15Node.f
    simp only [spec_l1In_eq, spec_IsTime_eq, hm, Option.bind_some, beq_eq_false_iff_ne.2 hc]
    (repeat' split) <;> simp_all
  refine ⟨?_, ?_⟩
  · rintro rfl; exact ha 1 rfl
  · rintro (rfl | rfl)
    · exact ha 2 rfl
    · exact ha 2 rfl
theorem eval_both (l : List S154) (s : List S136) (q : S41) (hl : l.length ≤ 1048576) (hs : s.length ≤ 1048576) (N : Nat) : ∀ x : S172, n172 x ≤ N → vldC x = true → ∃ b, Ev (fun k => spec_l18Eval.f k l s x.f0 x.f1 x.f2 x.f3 q.f0 q.f1 q.f2 q.f3 q.f4 q.f5) b ∧ ∃ K, ∀ j k, K ≤ j → K ≤ k → impl_evalWith.x (fun b0 b1 b2 bl => impl_LeafHolds.f j l s b0 b1 b2 bl q.f0 q.f1 q.f2 q.f3 q.f4 q.f5) k x.f0 x.f1 x.f2 x.f3 = some b := by
  induction N using Nat.strongRecOn with
  | _ N ih =>
  intro x hx hv
  rw [n172_f] at hx
  rw [vldC_f, Bool.and_eq_true] at hv
  obtain ⟨t, ht⟩ := node_some x.f0 x.f1 x.f2 x.f3
  rw [ht, Option.getD_some] at hv
  obtain ⟨rfl, hc⟩ := hv
  have hargs := node_args ht
  have child : ∀ (i : Nat) (y : S172), x.f3[i]? = some y → ∃ b, Ev (fun k => spec_l18Eval.f k l s y.f0 y.f1 y.f2 y.f3 q.f0 q.f1 q.f2 q.f3 q.f4 q.f5) b ∧ ∃ K, ∀ j k, K ≤ j → K ≤ k → impl_evalWith.x (fun b0 b1 b2 bl => impl_LeafHolds.f j l s b0 b1 b2 bl q.f0 q.f1 q.f2 q.f3 q.f4 q.f5) k y.f0 y.f1 y.f2 y.f3 = some b := fun i y hy => by
    have hn := le_sum n172 hy
    have hp := lt_of_get hy
    exact ih (n172 y) (by omega) y (Nat.le_refl _) (List.all_eq_true.1 hc y (List.mem_of_getElem? hy))
  have two : (x.f0 = 7 ∨ x.f0 = 8 ∨ x.f0 = 9) → ∃ y, x.f3[0]? = some y ∧ rd_T172 x.f3 0 = y ∧ (0 < (x.f3.length : Int)) = True := fun h => by
    have : 1 ≤ x.f3.length := by
      rcases h with h | h | h
      · have := hargs.1 h; omega
      · have := hargs.2 (.inl h); omega
      · have := hargs.2 (.inr h); omega
    obtain ⟨y, hy⟩ := getAt (l := x.f3) (i := 0) (by omega)
    exact ⟨y, hy, rd_at_T172 hy, eq_true (by omega)⟩
  have three : (x.f0 = 8 ∨ x.f0 = 9) → ∃ y, x.f3[1]? = some y ∧ rd_T172 x.f3 1 = y ∧ (1 < (x.f3.length : Int)) = True := fun h => by
    have := hargs.2 h
    obtain ⟨y, hy⟩ := getAt (l := x.f3) (i := 1) (by omega)
    exact ⟨y, hy, rd_at_T172 hy, eq_true (by omega)⟩
  by_cases c7 : x.f0 = 7
  · obtain ⟨y, hy, ry, p0⟩ := two (.inl c7)
    obtain ⟨b, hb, K, hK⟩ := child 0 y hy
    refine ⟨!b, Ev.succ ?_, K + 1, fun j k hj hk => ?_⟩
    · simp only [spec_l18Eval.f, if_pos c7, p0, if_true, ry]
      exact Ev.bind hb (Ev.now _)
    · obtain ⟨k, rfl⟩ : ∃ k', k = k' + 1 := ⟨k - 1, by omega⟩
      simp only [impl_evalWith.x, if_pos c7, p0, if_true, ry]
      rw [hK j k (by omega) (by omega), Option.bind_some]
  by_cases c8 : x.f0 = 8
  · obtain ⟨y, hy, ry, p0⟩ := two (.inr (.inl c8))
    obtain ⟨z, hz, rz, p1⟩ := three (.inl c8)
    obtain ⟨b, hb, K, hK⟩ := child 0 y hy
    obtain ⟨b2, hb2, K2, hK2⟩ := child 1 z hz
    refine ⟨b && b2, Ev.succ ?_, K + K2 + 1, fun j k hj hk => ?_⟩
    · simp only [spec_l18Eval.f, if_neg c7, if_pos c8, p0, p1, if_true, ry, rz]
      refine Ev.bind hb ?_
      cases b with
      | false => exact Ev.now _
      | true => simp only [if_true, Bool.true_and]; exact Ev.bid hb2
    · obtain ⟨k, rfl⟩ : ∃ k', k = k' + 1 := ⟨k - 1, by omega⟩
      simp only [impl_evalWith.x, if_neg c7, if_pos c8, p0, p1, if_true, ry, rz]
      rw [hK j k (by omega) (by omega), Option.bind_some]
      cases b with
      | false => rfl
      | true => simp only [if_true, Bool.true_and]; exact hK2 j k (by omega) (by omega)
  by_cases c9 : x.f0 = 9
  · obtain ⟨y, hy, ry, p0⟩ := two (.inr (.inr c9))
    obtain ⟨z, hz, rz, p1⟩ := three (.inr c9)
    obtain ⟨b, hb, K, hK⟩ := child 0 y hy
    obtain ⟨b2, hb2, K2, hK2⟩ := child 1 z hz
    refine ⟨b || b2, Ev.succ ?_, K + K2 + 1, fun j k hj hk => ?_⟩
    · simp only [spec_l18Eval.f, if_neg c7, if_neg c8, if_pos c9, p0, p1, if_true, ry, rz]
      refine Ev.bind hb ?_
      cases b with
      | true => exact Ev.now _
      | false => simp only [Bool.false_eq_true, if_false, Bool.false_or]; exact Ev.bid hb2
    · obtain ⟨k, rfl⟩ : ∃ k', k = k' + 1 := ⟨k - 1, by omega⟩
      simp only [impl_evalWith.x, if_neg c7, if_neg c8, if_pos c9, p0, p1, if_true, ry, rz]
      rw [hK j k (by omega) (by omega), Option.bind_some]
      cases b with
      | true => rfl
      | false => simp only [Bool.false_eq_true, if_false, Bool.false_or]; exact hK2 j k (by omega) (by omega)
  obtain ⟨K, hK⟩ := impl_LeafHolds_ev l s q x.f0 x.f1 x.f2 x.f3 hl hs
  refine ⟨leafB l s q x.f0 x.f1 x.f2, Ev.succ ?_, K + 1, fun j k hj hk => ?_⟩
  · simp only [spec_l18Eval.f, if_neg c7, if_neg c8, if_neg c9]
    exact Ev.bid (spec_LeafHolds_ev l s q x.f0 x.f1 x.f2 x.f3 hl hs)
  · obtain ⟨k, rfl⟩ : ∃ k', k = k' + 1 := ⟨k - 1, by omega⟩
    simp only [impl_evalWith.x, if_neg c7, if_neg c8, if_neg c9]
    exact hK j (by omega)
theorem evalCond_both (l : List S154) (s : List S136) (q : S41) (x : S172) (hl : l.length ≤ 1048576) (hs : s.length ≤ 1048576) (hx : n172 x ≤ 1048576) : ∃ b, Ev (fun k => spec_EvalCond.f k l s x.f0 x.f1 x.f2 x.f3 q.f0 q.f1 q.f2 q.f3 q.f4 q.f5) b ∧ Ev (fun k => impl_EvalCond.f k l s x.f0 x.f1 x.f2 x.f3 q.f0 q.f1 q.f2 q.f3 q.f4 q.f5) b := by
  unfold spec_EvalCond.f impl_EvalCond.f
  cases c : condB x with
  | false =>
    refine ⟨false, Ev.bind (spec_IsCond_ev x hx) ?_, Ev.bind (impl_IsCond_ev x hx) ?_⟩
    · rw [c]; exact Ev.now _
    · rw [c]; exact Ev.now _
  | true =>
    have hv : vldC x = true := by
      unfold condB at c
      rw [Bool.and_eq_true] at c
      exact c.2
    obtain ⟨b, h1, K, h2⟩ := eval_both l s q hl hs _ x (Nat.le_refl _) hv
    refine ⟨b, Ev.bind (spec_IsCond_ev x hx) ?_, Ev.bind (impl_IsCond_ev x hx) ?_⟩
    · rw [c]; exact Ev.pos rfl (Ev.bid h1)
    · rw [c]; exact Ev.pos rfl ⟨K, fun k hk => h2 k k hk hk⟩

theorem rules_both (l : List S154) (s : List S136) (q : S41) (n0 : Int) (P : List S174) (hl : l.length ≤ 1048576) (hs : s.length ≤ 1048576) (hP : P.length + (P.map n174).sum ≤ 1048576) : ∃ v, Ev (fun k => spec_RulesThatHold.f k l s n0 P q.f0 q.f1 q.f2 q.f3 q.f4 q.f5) v ∧ Ev (fun k => impl_RulesThatHold.f k l s n0 P q.f0 q.f1 q.f2 q.f3 q.f4 q.f5) v ∧ v.length ≤ P.length ∧ ∀ y ∈ v, 0 ≤ y ∧ y < (P.length : Int) := by
  have key : ∀ (d i : Nat) (out : List Int), P.length - i = d → i ≤ P.length → out.length ≤ i → (∀ y ∈ out, 0 ≤ y ∧ y < (P.length : Int)) → ∃ v, Ev (fun k => spec_RulesThatHold.l0 k l s out (i : Int) n0 P q.f0 q.f1 q.f2 q.f3 q.f4 q.f5) v ∧ Ev (fun k => impl_RulesThatHold.l0 k l s out P (P.length : Int) (i : Int) q.f0 q.f1 q.f2 q.f3 q.f4 q.f5) v ∧ v.length ≤ P.length ∧ ∀ y ∈ v, 0 ≤ y ∧ y < (P.length : Int) := by
    intro d
    induction d with
    | zero =>
      intro i out hd hi ho hy
      obtain rfl : i = P.length := by omega
      refine ⟨out, Ev.succ ?_, Ev.succ ?_, ho, hy⟩
      · simp only [spec_RulesThatHold.l0, Int.lt_irrefl, if_false]; exact Ev.now _
      · simp only [impl_RulesThatHold.l0, Int.lt_irrefl, if_false]; exact Ev.now _
    | succ d ih =>
      intro i out hd hi ho hy
      have hi' : i < P.length := by omega
      obtain ⟨x, hx⟩ := getAt (l := P) (i := i) hi'
      have hn := le_sum n174 hx
      have hn2 := rule_n x
      have h1 : ((i : Int) < (P.length : Int)) = True := eq_true (by omega)
      have h2 : (0 ≤ (i : Int)) = True := eq_true (by omega)
      obtain ⟨b, e1, e2⟩ := evalCond_both l s q x.f3 hl hs (by omega)
      obtain ⟨v1, s1, i1, q1⟩ := ih (i + 1) out (by omega) (by omega) (by omega) hy
      obtain ⟨v2, s2, i2, q2⟩ := ih (i + 1) (out ++ [(i : Int)]) (by omega) (by omega) (by rw [List.length_append, List.length_singleton]; omega) (fun y hq => by
        rcases List.mem_append.1 hq with hq | hq
        · exact hy y hq
        · rw [List.mem_singleton.1 hq]; omega)
      have hol : (out.length < 17592186044416) = True := eq_true (by omega)
      have h3 := wr1 hi' (show P.length ≤ 9223372036854775807 by omega)
      cases c : forB x q.f3 q.f4 with
      | false =>
        refine ⟨v1, Ev.succ ?_, Ev.succ ?_, q1⟩
        · simp only [spec_RulesThatHold.l0, h1, h2, if_true, rd_at_T174 hx, spec_IsFor_eq, Option.bind_some, c, Bool.false_eq_true, if_false, h3]
          exact s1
        · simp only [impl_RulesThatHold.l0, h1, h2, if_true, rd_at_T174 hx, impl_IsFor_eq, Option.bind_some, c, Bool.false_eq_true, if_false, h3]
          exact i1
      | true =>
        refine ⟨if b = true then v2 else v1, Ev.succ ?_, Ev.succ ?_, by split <;> assumption⟩
        · simp only [spec_RulesThatHold.l0, h1, h2, if_true, rd_at_T174 hx, spec_IsFor_eq, Option.bind_some, c]
          refine Ev.bind e1 ?_
          cases b with
          | true => simp only [if_true, hol, h3]; exact s2
          | false => simp only [Bool.false_eq_true, if_false, h3]; exact s1
        · simp only [impl_RulesThatHold.l0, h1, h2, if_true, rd_at_T174 hx, impl_IsFor_eq, Option.bind_some, c]
          refine Ev.bind e2 ?_
          cases b with
          | true => simp only [if_true, hol, h3]; exact i2
          | false => simp only [Bool.false_eq_true, if_false, h3]; exact i1
  exact key P.length 0 [] (by omega) (by omega) (by simp) (by simp)

theorem decide_loop (n0 : Int) (P : List S174) (hr : P.all ruleB = true) (L : List Int) (hL : L.length ≤ 1048576) (hy : ∀ y ∈ L, 0 ≤ y ∧ y < (P.length : Int)) : ∀ (d i : Nat), L.length - i = d → i ≤ L.length → ∃ v, Ev (fun k => spec_DecideBy.l0 k L (i : Int) n0 P) v ∧ Ev (fun k => impl_decided.l0 k (if i = 0 then 0 else 1) L (L.length : Int) (i : Int) n0 P) v := by
  intro d
  induction d with
  | zero =>
    intro i hd hi
    obtain rfl : i = L.length := by omega
    refine ⟨if L.length = 0 then 0 else 1, Ev.succ ?_, Ev.succ ?_⟩
    · simp only [spec_DecideBy.l0, Int.lt_irrefl, if_false]
      by_cases c : L.length = 0
      · simp only [if_pos c, if_pos (show (L.length : Int) = 0 by omega)]; exact Ev.now _
      · simp only [if_neg c, if_neg (show ¬ (L.length : Int) = 0 by omega)]; exact Ev.now _
    · simp only [impl_decided.l0, Int.lt_irrefl, if_false]; exact Ev.now _
  | succ d ih =>
    intro i hd hi
    have hi' : i < L.length := by omega
    obtain ⟨y, hyy⟩ := getAt (l := L) (i := i) hi'
    have hb := hy y (List.mem_of_getElem? hyy)
    have ry := rd_nat _ _ _ hyy
    obtain ⟨x, hx⟩ := getAt (l := P) (i := y.toNat) (by omega)
    have e : ((y.toNat : Nat) : Int) = y := by omega
    have rx := rd_at_T174 hx
    rw [e] at rx
    have hrx := List.all_eq_true.1 hr x (List.mem_of_getElem? hx)
    unfold ruleB at hrx
    rw [Bool.and_eq_true] at hrx
    have h0 := inB_iff.1 hrx.1
    have h1 : ((i : Int) < (L.length : Int)) = True := eq_true (by omega)
    have h2 : (0 ≤ (i : Int)) = True := eq_true (by omega)
    have h3 : (0 ≤ y) = True := eq_true (by omega)
    have h4 : (y < (P.length : Int)) = True := eq_true (by omega)
    obtain ⟨v, e1, e2⟩ := ih (i + 1) (by omega) (by omega)
    have h5 := wr1 hi' (show L.length ≤ 9223372036854775807 by omega)
    by_cases c0 : x.f0 = 0
    · refine ⟨0, Ev.succ ?_, Ev.succ ?_⟩
      · simp only [spec_DecideBy.l0, h1, h2, h3, h4, if_true, ry, rx, if_pos c0]; exact Ev.now _
      · simp only [impl_decided.l0, h1, h2, h3, h4, if_true, ry, rx, if_pos c0]; exact Ev.now _
    · have c1 : x.f0 = 1 := by clear h5; omega
      refine ⟨v, Ev.succ ?_, Ev.succ ?_⟩
      · simp only [spec_DecideBy.l0, h1, h2, h3, h4, if_true, ry, rx, if_neg c0, h5]; exact e1
      · simp only [impl_decided.l0, h1, h2, h3, h4, if_true, ry, rx, if_neg c0, if_pos c1, h5]
        simpa using e2
theorem decide_both (l : List S154) (s : List S136) (p : S39) (q : S41) (hl : l.length ≤ 1048576) (hs : s.length ≤ 1048576) (hp : n39 p ≤ 1048576) : ∃ v, Ev (fun k => spec_DecideBy.f k l s p.f0 p.f1 q.f0 q.f1 q.f2 q.f3 q.f4 q.f5) v ∧ Ev (fun k => impl_DecideBy.f k l s p.f0 p.f1 q.f0 q.f1 q.f2 q.f3 q.f4 q.f5) v := by
  unfold spec_DecideBy.f impl_DecideBy.f
  simp only [spec_IsRequest_eq, impl_IsRequest_eq, Option.bind_some]
  cases c : reqB q.f0 q.f1 q.f2 q.f3 q.f4 q.f5 with
  | false =>
    refine ⟨0, ?_, ?_⟩
    · simp only [Bool.false_eq_true, if_false]; exact Ev.now _
    · simp only [Bool.false_eq_true, if_false]; exact Ev.now _
  | true =>
    simp only [if_true]
    cases c2 : policyB p with
    | false =>
      refine ⟨0, Ev.bind (spec_IsPolicy_ev p hp) ?_, Ev.bind (impl_IsPolicy_ev p hp) ?_⟩
      · rw [c2]; exact Ev.now _
      · rw [c2]; exact Ev.now _
    | true =>
      have hr : p.f1.all ruleB = true := by
        have h := c2
        unfold policyB at h
        rw [Bool.and_eq_true, Bool.and_eq_true] at h
        exact h.2.2
      have hn : p.f1.length + (p.f1.map n174).sum ≤ 1048576 := by unfold n39 at hp; omega
      obtain ⟨L, e1, e2, hL, hy⟩ := rules_both l s q p.f0 p.f1 hl hs hn
      obtain ⟨v, d1, d2⟩ := decide_loop p.f0 p.f1 hr L (by omega) hy L.length 0 (by omega) (by omega)
      refine ⟨v, Ev.bind (spec_IsPolicy_ev p hp) ?_, Ev.bind (impl_IsPolicy_ev p hp) ?_⟩
      · rw [c2]
        simp only [if_true]
        exact Ev.bind e1 d1
      · rw [c2]
        refine Ev.pos rfl ?_
        refine Ev.bind e2 ?_
        unfold impl_decided.f
        exact Ev.bind d2 (Ev.now _)

theorem mn_lt (t a b : Int) : t < mn a b ↔ t < a ∧ t < b := by
  unfold mn
  split <;> omega
theorem until_loop (l : List S154) (s : List S136) (p : S39) (q : S41) (m : Int) (hl : l.length ≤ 1048576) (hs : s.length ≤ 1048576) (hp : n39 p ≤ 1048576) (was : Int) : ∀ (d : Nat) (t : Int), 0 ≤ t → t ≤ 10000 → (10000 - t).toNat = d → ∃ v, Ev (fun k => spec_DecisionUntil.l0 k l s m was t p.f0 p.f1 q.f0 q.f1 q.f2 q.f3 q.f4 q.f5) v ∧ Ev (fun k => impl_DecisionUntil.l0 k l s m t was p.f0 p.f1 q.f0 q.f1 q.f2 q.f3 q.f4 q.f5) v := by
  intro d
  induction d with
  | zero =>
    intro t t0 t1 hd
    have hn : (t < 10000) = False := eq_false (by omega)
    have hm : (t < mn (wrap64 (q.f5 + m)) 10000) = False := eq_false (by rw [mn_lt]; omega)
    refine ⟨t, Ev.succ ?_, Ev.succ ?_⟩
    · simp only [spec_DecisionUntil.l0, hn, if_false]
      exact Ev.ite (fun _ => Ev.now _) (fun _ => Ev.now _)
    · simp only [impl_DecisionUntil.l0, hm, if_false]; exact Ev.now _
  | succ d ih =>
    intro t t0 t1 hd
    have hn : (t < 10000) = True := eq_true (by omega)
    obtain ⟨u, e1, e2⟩ := decide_both l s p ⟨q.f0, q.f1, q.f2, q.f3, q.f4, t + 1⟩ hl hs hp
    obtain ⟨v, s1, s2⟩ := ih (t + 1) (by omega) (by omega) (by omega)
    have w : wrap64 (t + 1) = t + 1 := wr (by omega) (by omega)
    by_cases c : t < wrap64 (q.f5 + m)
    · have hm : (t < mn (wrap64 (q.f5 + m)) 10000) = True := eq_true ((mn_lt _ _ _).2 ⟨c, of_eq_true hn⟩)
      by_cases cu : u = was
      · refine ⟨v, Ev.succ ?_, Ev.succ ?_⟩
        · simp only [spec_DecisionUntil.l0, hn, if_pos c, if_true, spec_AtTime.f, Option.bind_some, w]
          refine Ev.bind e1 ?_
          exact Ev.pos cu s1
        · simp only [impl_DecisionUntil.l0, hm, if_true, impl_AtTime.f, Option.bind_some, w]
          refine Ev.bind e2 ?_
          exact Ev.pos cu s2
      · refine ⟨t, Ev.succ ?_, Ev.succ ?_⟩
        · simp only [spec_DecisionUntil.l0, hn, if_pos c, if_true, spec_AtTime.f, Option.bind_some, w]
          refine Ev.bind e1 ?_
          exact Ev.neg cu (Ev.now _)
        · simp only [impl_DecisionUntil.l0, hm, if_true, impl_AtTime.f, Option.bind_some, w]
          refine Ev.bind e2 ?_
          exact Ev.neg cu (Ev.now _)
    · have hm : (t < mn (wrap64 (q.f5 + m)) 10000) = False := eq_false (fun h => c ((mn_lt _ _ _).1 h).1)
      refine ⟨t, Ev.succ ?_, Ev.succ ?_⟩
      · simp only [spec_DecisionUntil.l0, if_neg c]; exact Ev.now _
      · simp only [impl_DecisionUntil.l0, hm, if_false]; exact Ev.now _
theorem until_both (l : List S154) (s : List S136) (p : S39) (q : S41) (m : Int) (hl : l.length ≤ 1048576) (hs : s.length ≤ 1048576) (hp : n39 p ≤ 1048576) : ∃ v, Ev (fun k => spec_DecisionUntil.f k l s p.f0 p.f1 q.f0 q.f1 q.f2 q.f3 q.f4 q.f5 m) v ∧ Ev (fun k => impl_DecisionUntil.f k l s p.f0 p.f1 q.f0 q.f1 q.f2 q.f3 q.f4 q.f5 m) v := by
  unfold spec_DecisionUntil.f impl_DecisionUntil.f
  simp only [spec_IsRequest_eq, impl_IsRequest_eq, spec_l1In_eq, impl_InRange_eq, Option.bind_some]
  cases c : reqB q.f0 q.f1 q.f2 q.f3 q.f4 q.f5 with
  | false =>
    refine ⟨q.f5, ?_, ?_⟩
    · simp only [Bool.false_eq_true, if_false]; exact Ev.now _
    · simp only [Bool.false_eq_true, if_false]; exact Ev.now _
  | true =>
    have ht : timeB q.f5 = true := by
      unfold reqB at c
      simp only [Bool.and_eq_true] at c
      exact c.2.2.2.2.2
    have ht := timeAt ht
    simp only [if_true]
    cases c2 : policyB p with
    | false =>
      refine ⟨q.f5, Ev.bind (spec_IsPolicy_ev p hp) ?_, Ev.bind (impl_IsPolicy_ev p hp) ?_⟩
      · rw [c2]; exact Ev.now _
      · rw [c2]; exact Ev.now _
    | true =>
      cases c3 : inB m 0 60 with
      | false =>
        refine ⟨q.f5, Ev.bind (spec_IsPolicy_ev p hp) ?_, Ev.bind (impl_IsPolicy_ev p hp) ?_⟩
        · rw [c2]; exact Ev.now _
        · rw [c2]; exact Ev.now _
      | true =>
        obtain ⟨u, e1, e2⟩ := decide_both l s p q hl hs hp
        obtain ⟨v, d1, d2⟩ := until_loop l s p q m hl hs hp u _ q.f5 ht.1 ht.2 rfl
        refine ⟨v, Ev.bind (spec_IsPolicy_ev p hp) ?_, Ev.bind (impl_IsPolicy_ev p hp) ?_⟩
        · rw [c2]
          simp only [if_true]
          exact Ev.bind e1 d1
        · rw [c2]
          simp only [if_true]
          exact Ev.bind e2 d2

theorem save_both (l : List S154) (s : List S136) (p : S39) (q : S41) (m : Int) (hl : l.length ≤ 1048576) (hs : s.length ≤ 1048576) (hp : n39 p ≤ 1048576) : ∃ u v : Int, Ev (fun k => spec_SaveDecision.f k l s p.f0 p.f1 q.f0 q.f1 q.f2 q.f3 q.f4 q.f5 m) (q.f0, q.f1, q.f2, q.f3, q.f4, q.f5, u, v) ∧ Ev (fun k => impl_SaveDecision.f k l s p.f0 p.f1 q.f0 q.f1 q.f2 q.f3 q.f4 q.f5 m) (q.f0, q.f1, q.f2, q.f3, q.f4, q.f5, u, v) := by
  obtain ⟨u, e1, e2⟩ := decide_both l s p q hl hs hp
  obtain ⟨v, u1, u2⟩ := until_both l s p q m hl hs hp
  refine ⟨u, v, ?_, ?_⟩
  · unfold spec_SaveDecision.f
    exact Ev.bind e1 (Ev.bind u1 (Ev.now _))
  · unfold impl_SaveDecision.f
    exact Ev.bind e2 (Ev.bind u2 (Ev.now _))

theorem laws_eqRequest_refl (x : S41) : laws_eqRequest.f x.f0 x.f1 x.f2 x.f3 x.f4 x.f5 x.f0 x.f1 x.f2 x.f3 x.f4 x.f5 = some true := by
  unfold laws_eqRequest.f
  simp

theorem laws_eqSaved_refl (x : S48) : laws_eqSaved.f x.f0.f0 x.f0.f1 x.f0.f2 x.f0.f3 x.f0.f4 x.f0.f5 x.f1 x.f2 x.f0.f0 x.f0.f1 x.f0.f2 x.f0.f3 x.f0.f4 x.f0.f5 x.f1 x.f2 = some true := by
  unfold laws_eqSaved.f
  simp [laws_eqRequest_refl]

theorem FnExactSaveDecision : laws_FnExactSaveDecision.Pure := by
  intro l s x q m h1 h2 h3 h4 hg _ _
  refine Ev.rounds ?_
  unfold laws_FnExactSaveDecision.f
  obtain ⟨r, e, hr1, hr⟩ := laws_szIncludesS_le l h1 1048576 (by omega) (by omega)
  simp only [e, Option.bind_some]
  by_cases c : r < 0
  · simp only [if_pos c]; exact Ev.now _
  simp only [if_neg c]
  have hb := hr (by omega)
  obtain ⟨r2, e2, hr21, hr2⟩ := laws_szFactS_le s h3 r (by omega) hr1
  simp only [e2, Option.bind_some]
  by_cases c2 : r2 < 0
  · simp only [if_pos c2]; exact Ev.now _
  simp only [if_neg c2]
  have hb2 := hr2 (by omega)
  obtain ⟨r3, e3, hr31, hr3⟩ := laws_szPolicy_le x hg r2 (by omega) hr21
  refine Ev.bind e3 ?_
  by_cases c3 : r3 < 0
  · simp only [if_pos c3]; exact Ev.now _
  simp only [if_neg c3]
  have hb3 := hr3 (by omega)
  have hl : (l.map cv156).length ≤ 1048576 := by rw [List.length_map]; omega
  have hs : (s.map cv158).length ≤ 1048576 := by rw [List.length_map]; omega
  have hp : n39 (cv26 x) ≤ 1048576 := by rw [ncv26]; omega
  obtain ⟨u, v, u1, u2⟩ := save_both (l.map cv156) (s.map cv158) (cv26 x) (cv28 q) m hl hs hp
  have tl := laws_toIncludesS_ev l (by omega)
  have ts := laws_toFactS_ev s (by omega)
  have tp := laws_toPolicy_ev x (by omega)
  simp only [laws_toRequest_eq, Option.bind_some]
  refine Ev.bind tl (Ev.bind ts (Ev.bind tp ?_))
  refine Ev.bind u1 ?_
  refine Ev.bind tl (Ev.bind ts (Ev.bind tp ?_))
  refine Ev.bind u2 ?_
  have hq := laws_eqSaved_refl ⟨cv28 q, u, v⟩
  simp only at hq
  simp only [hq, Option.bind_some, if_true]
  refine Ev.bind tl (Ev.bind (laws_eqIncludesS_refl _ hl) ?_)
  simp only [if_true]
  refine Ev.bind ts (Ev.bind (laws_eqFactS_refl _ hs) ?_)
  simp only [if_true]
  refine Ev.bind tp (Ev.bind (laws_eqPolicy_refl _ hp) ?_)
  simp only [if_true]
  exact Ev.now _

end Go.Proofs.YtmgfklmhelabcaaGreat.Pure
