/- The law FnExactCenterPublish answers true for all arguments, over numbers and lists alone: what each function computes, and that program and reference compute the same. No condition. -/
import Derived.Test.YtlnimankbhcinaaGreatQFnExactCenterPublishx0
import Derived.Test.YtlnimankbhcinaaGreatL
namespace Go.Proofs.YtlnimankbhcinaaGreat.Pure
open Go.RowKit Go.Proofs.YtlnimankbhcinaaGreat.QFnExactCenterPublish Go.Proofs.YtlnimankbhcinaaGreatL Go.Proofs.YtlnimankbhcinaaGreatW.PrintWords Go.Proofs.YtlnimankbhcinaaGreatW.PrintLast
set_option linter.unusedVariables false
set_option linter.unusedSimpArgs false

def cv100 (x : S100) : S117 := ⟨x.f0, x.f1, x.f2⟩
def n100 (x : S100) : Nat := x.f1.length
def cv77 (x : S77) : S75 := ⟨x.f0, x.f1⟩
theorem eta63 (x : S63) : (⟨x.f0, x.f1, x.f2, x.f3⟩ : S63) = x := by cases x; rfl
mutual
def n63 : S63 → Nat
  | ⟨x0, x1, x2, x3⟩ => x3.length + nL63 x3
def nL63 : List S63 → Nat
  | [] => 0
  | x :: l => n63 x + nL63 l
end
theorem nL63_eq : ∀ l : List S63, nL63 l = (l.map n63).sum
  | [] => by simp [nL63]
  | x :: l => by simp [nL63, nL63_eq l]
theorem n63_f (x : S63) : n63 x = x.f3.length + (x.f3.map n63).sum := by
  cases x
  simp only [n63, nL63_eq]
mutual
def cv63 : S63 → S80
  | ⟨x0, x1, x2, x3⟩ => ⟨x0, x1, x2, cvL63 x3⟩
def cvL63 : List S63 → List S80
  | [] => []
  | x :: l => cv63 x :: cvL63 l
end
theorem cvL63_eq : ∀ l : List S63, cvL63 l = l.map cv63
  | [] => by simp [cvL63]
  | x :: l => by simp [cvL63, cvL63_eq l]
theorem cv63_f (x : S63) : cv63 x = ⟨x.f0, x.f1, x.f2, x.f3.map cv63⟩ := by
  cases x
  simp only [cv63, cvL63_eq]
def cv65 (x : S65) : S82 := ⟨x.f0, x.f1, x.f2, (cv63 x.f3)⟩
def n65 (x : S65) : Nat := n63 x.f3
def cv103 (x : S103) : S113 := ⟨x.f0, (x.f1.map cv65)⟩
def n103 (x : S103) : Nat := x.f1.length + (x.f1.map n65).sum
def cv105 (x : S105) : S115 := ⟨x.f0, x.f1, (x.f2.map cv77), (cv103 x.f3)⟩
def n105 (x : S105) : Nat := x.f2.length + n103 x.f3
def cv123 (x : S123) : S121 := ⟨x.f0, x.f1, x.f2, x.f3, x.f4, x.f5⟩
def cv127 (x : S127) : S125 := ⟨x.f0, x.f1⟩
def cv131 (x : S131) : S129 := ⟨x.f0, x.f1, x.f2, x.f3, x.f4, x.f5⟩
def cv28 (x : S28) : S40 := ⟨(x.f0.map cv100), (x.f1.map cv105), (x.f2.map cv123), (x.f3.map cv127), x.f4, (x.f5.map cv131)⟩
def n28 (x : S28) : Nat := x.f0.length + (x.f0.map n100).sum + x.f1.length + (x.f1.map n105).sum + x.f2.length + x.f3.length + x.f5.length
def n117 (x : S117) : Nat := x.f1.length
theorem eta80 (x : S80) : (⟨x.f0, x.f1, x.f2, x.f3⟩ : S80) = x := by cases x; rfl
mutual
def n80 : S80 → Nat
  | ⟨x0, x1, x2, x3⟩ => x3.length + nL80 x3
def nL80 : List S80 → Nat
  | [] => 0
  | x :: l => n80 x + nL80 l
end
theorem nL80_eq : ∀ l : List S80, nL80 l = (l.map n80).sum
  | [] => by simp [nL80]
  | x :: l => by simp [nL80, nL80_eq l]
theorem n80_f (x : S80) : n80 x = x.f3.length + (x.f3.map n80).sum := by
  cases x
  simp only [n80, nL80_eq]
def n82 (x : S82) : Nat := n80 x.f3
def n113 (x : S113) : Nat := x.f1.length + (x.f1.map n82).sum
def n115 (x : S115) : Nat := x.f2.length + n113 x.f3
def n40 (x : S40) : Nat := x.f0.length + (x.f0.map n117).sum + x.f1.length + (x.f1.map n115).sum + x.f2.length + x.f3.length + x.f5.length
theorem rd_at_T100 {l : List S100} {i : Nat} {x : S100} (h : l[i]? = some x) : rd_T100 l (i : Int) = x := getD_nat l _ i x h
theorem rd_at_T77 {l : List S77} {i : Nat} {x : S77} (h : l[i]? = some x) : rd_T77 l (i : Int) = x := getD_nat l _ i x h
theorem rd_at_T63 {l : List S63} {i : Nat} {x : S63} (h : l[i]? = some x) : rd_T63 l (i : Int) = x := getD_nat l _ i x h
theorem rd_at_T65 {l : List S65} {i : Nat} {x : S65} (h : l[i]? = some x) : rd_T65 l (i : Int) = x := getD_nat l _ i x h
theorem rd_at_T105 {l : List S105} {i : Nat} {x : S105} (h : l[i]? = some x) : rd_T105 l (i : Int) = x := getD_nat l _ i x h
theorem rd_at_T123 {l : List S123} {i : Nat} {x : S123} (h : l[i]? = some x) : rd_T123 l (i : Int) = x := getD_nat l _ i x h
theorem rd_at_T127 {l : List S127} {i : Nat} {x : S127} (h : l[i]? = some x) : rd_T127 l (i : Int) = x := getD_nat l _ i x h
theorem rd_at_T131 {l : List S131} {i : Nat} {x : S131} (h : l[i]? = some x) : rd_T131 l (i : Int) = x := getD_nat l _ i x h
theorem rd_at_T117 {l : List S117} {i : Nat} {x : S117} (h : l[i]? = some x) : rd_T117 l (i : Int) = x := getD_nat l _ i x h
theorem rd_at_T80 {l : List S80} {i : Nat} {x : S80} (h : l[i]? = some x) : rd_T80 l (i : Int) = x := getD_nat l _ i x h
theorem rd_at_T82 {l : List S82} {i : Nat} {x : S82} (h : l[i]? = some x) : rd_T82 l (i : Int) = x := getD_nat l _ i x h
theorem rd_at_T75 {l : List S75} {i : Nat} {x : S75} (h : l[i]? = some x) : rd_T75 l (i : Int) = x := getD_nat l _ i x h
theorem rd_at_T115 {l : List S115} {i : Nat} {x : S115} (h : l[i]? = some x) : rd_T115 l (i : Int) = x := getD_nat l _ i x h
theorem rd_at_T121 {l : List S121} {i : Nat} {x : S121} (h : l[i]? = some x) : rd_T121 l (i : Int) = x := getD_nat l _ i x h
theorem rd_at_T125 {l : List S125} {i : Nat} {x : S125} (h : l[i]? = some x) : rd_T125 l (i : Int) = x := getD_nat l _ i x h
theorem rd_at_T129 {l : List S129} {i : Nat} {x : S129} (h : l[i]? = some x) : rd_T129 l (i : Int) = x := getD_nat l _ i x h
def eqT75 (x y : S75) : Bool := (x.f0 == y.f0) && ((x.f1 == y.f1))
def eqT121 (x y : S121) : Bool := (x.f0 == y.f0) && ((x.f1 == y.f1) && ((x.f2 == y.f2) && ((x.f3 == y.f3) && ((x.f4 == y.f4) && ((x.f5 == y.f5))))))
def eqT125 (x y : S125) : Bool := (x.f0 == y.f0) && ((x.f1 == y.f1))
def eqT129 (x y : S129) : Bool := (x.f0 == y.f0) && ((x.f1 == y.f1) && ((x.f2 == y.f2) && ((x.f3 == y.f3) && ((x.f4 == y.f4) && ((x.f5 == y.f5))))))
theorem ncv100 (x : S100) : n117 (cv100 x) = n100 x := by
  simp only [cv100, n117, n100, List.length_map, List.map_map, Function.comp_def]
theorem ncvN63 (l : List S63) : (cvL63 l).length = l.length := by rw [cvL63_eq, List.length_map]
mutual
theorem ncv63 : ∀ x : S63, n80 (cv63 x) = n63 x
  | ⟨x0, x1, x2, x3⟩ => by simp only [cv63, n80, n63, ncvL63 x3, ncvN63 x3]
theorem ncvL63 : ∀ l : List S63, nL80 (cvL63 l) = nL63 l
  | [] => by simp [cvL63, nL80, nL63]
  | x :: l => by simp only [cvL63, nL80, nL63, ncv63 x, ncvL63 l]
end
theorem ncv65 (x : S65) : n82 (cv65 x) = n65 x := by
  simp only [cv65, n82, n65, List.length_map, List.map_map, Function.comp_def, ncv63]
theorem ncv103 (x : S103) : n113 (cv103 x) = n103 x := by
  simp only [cv103, n113, n103, List.length_map, List.map_map, Function.comp_def, ncv65]
theorem ncv105 (x : S105) : n115 (cv105 x) = n105 x := by
  simp only [cv105, n115, n105, List.length_map, List.map_map, Function.comp_def, ncv103]
theorem ncv28 (x : S28) : n40 (cv28 x) = n28 x := by
  simp only [cv28, n40, n28, List.length_map, List.map_map, Function.comp_def, ncv100, ncv105]

-- laws_szIntS
theorem laws_szIntS_le (l : List Int) (hl : l.length ≤ maxLen) (a : Int) (h0 : 0 ≤ a) (ha : a ≤ 2097152) : ∃ r, laws_szIntS.f l a = some r ∧ r ≤ 2097152 ∧ (0 ≤ r → r + (l.length : Nat) ≤ a) := by
  unfold laws_szIntS.f
  unfold maxLen at hl
  rw [wr (by omega) (by omega)]
  split
  · exact ⟨_, rfl, by omega, by omega⟩
  · exact ⟨_, rfl, by omega, by omega⟩

-- laws_szIssuer
theorem laws_szIssuer_le (x : S100) (hg : g100 x) (a : Int) (h0 : 0 ≤ a) (ha : a ≤ 2097152) : ∃ r, laws_szIssuer.f x.f0 x.f1 x.f2 a = some r ∧ r ≤ 2097152 ∧ (0 ≤ r → r + (n100 x : Nat) ≤ a) := by
  unfold g100 at hg
  unfold n100 laws_szIssuer.f
  obtain ⟨r0, e0, b0, s0⟩ := laws_szIntS_le x.f1 (by have := hg; simp_all) a (by omega) (by omega)
  rw [e0]; simp only [Option.bind_some]
  by_cases c0 : r0 < 0
  · rw [if_pos c0]; exact ⟨_, rfl, by omega, by omega⟩
  rw [if_neg c0]
  have s0' := s0 (by omega)
  exact ⟨_, rfl, by omega, by omega⟩

-- laws_szIssuerS
theorem laws_szIssuerS_le (l : List (S100)) (hl : l.length ≤ maxLen) (hg : ∀ y_ ∈ l, g100 y_) (a : Int) (h0 : 0 ≤ a) (ha : a ≤ 2097152) : ∃ r, Ev (fun k => laws_szIssuerS.f k l a) r ∧ r ≤ 2097152 ∧ (0 ≤ r → r + (l.length + (l.map n100).sum : Nat) ≤ a) := by
  unfold laws_szIssuerS.f
  unfold maxLen at hl
  rw [wr (by omega) (by omega)]
  by_cases c : a - (l.length : Int) < 0
  · simp only [if_pos c]; exact ⟨_, Ev.now _, by omega, by omega⟩
  simp only [if_neg c]
  have hend : ∀ a, Ev (fun k => laws_szIssuerS.l0 k l a (l.length : Int)) a := by
    intro a
    refine Ev.succ ?_
    simp only [laws_szIssuerS.l0, Int.lt_irrefl, if_false]
    exact Ev.now _
  have hstep : ∀ (i : Nat) (x : S100) (a : Int), l[i]? = some x → 0 ≤ a → a ≤ 2097152 → (∃ r, Ev (fun k => laws_szIssuerS.l0 k l a (i : Int)) r ∧ r < 0) ∨ ∃ a', 0 ≤ a' ∧ a' + n100 x ≤ a ∧ ∀ r, Ev (fun k => laws_szIssuerS.l0 k l a' ((i + 1 : Nat) : Int)) r → Ev (fun k => laws_szIssuerS.l0 k l a (i : Int)) r := by
    intro i x a hx h0 ha
    have hi := lt_of_get hx
    have h1 : ((i : Int) < (l.length : Int)) = True := eq_true (by omega)
    have h2 : (0 ≤ (i : Int)) = True := eq_true (by omega)
    obtain ⟨r, e, b, s⟩ := laws_szIssuer_le x (hg x (List.mem_of_getElem? hx)) a h0 ha
    by_cases c2 : r < 0
    · left
      refine ⟨-1, Ev.succ ?_, by omega⟩
      simp only [laws_szIssuerS.l0, h1, h2, if_true, rd_at_T100 hx, e, Option.bind_some, if_pos c2]
      exact Ev.now _
    · right
      have s' := s (by omega)
      refine ⟨r, by omega, by omega, fun r' hr => Ev.succ ?_⟩
      simp only [laws_szIssuerS.l0, h1, h2, if_true, rd_at_T100 hx, e, Option.bind_some, if_neg c2, wr1 hi (by omega)]
      exact hr
  obtain ⟨r, h1, h2, h3⟩ := ev_sz n100 l (fun k a i => laws_szIssuerS.l0 k l a i) 2097152 hend hstep (a - l.length) (by omega) (by omega)
  exact ⟨r, h1, h2, fun h => by have := h3 h; omega⟩

-- laws_szIncludesS
theorem laws_szIncludesS_le (l : List (S77)) (hl : l.length ≤ maxLen) (a : Int) (h0 : 0 ≤ a) (ha : a ≤ 2097152) : ∃ r, laws_szIncludesS.f l a = some r ∧ r ≤ 2097152 ∧ (0 ≤ r → r + (l.length : Nat) ≤ a) := by
  unfold laws_szIncludesS.f
  unfold maxLen at hl
  rw [wr (by omega) (by omega)]
  split
  · exact ⟨_, rfl, by omega, by omega⟩
  · exact ⟨_, rfl, by omega, by omega⟩

-- laws_szCondS
theorem gin63 {x : S63} (h : g63 x) : x.f3.length ≤ maxLen ∧ ∀ y ∈ x.f3, g63 y := by
  obtain ⟨k, h⟩ := h
  cases k with
  | zero => exact h.elim
  | succ k =>
    obtain ⟨_, _, _, h1, h2⟩ := (show GF63 _ x from h)
    exact ⟨h1, fun y hy => ⟨k, h2 y hy⟩⟩
theorem laws_szCondS_leN (N : Nat) : ∀ (l : List S63) (hl : l.length ≤ maxLen) (hg : ∀ y ∈ l, g63 y) (a : Int), 0 ≤ a → a ≤ 2097152 → a.toNat ≤ N → ∃ r, Ev (fun k => laws_szCondS.f k l a) r ∧ r ≤ 2097152 ∧ (0 ≤ r → r + (l.length + (l.map n63).sum : Nat) ≤ a) := by
  induction N using Nat.strongRecOn with
  | _ N ih =>
  intro l hl hg a h0 ha hN
  unfold maxLen at hl
  by_cases c : a - (l.length : Int) < 0
  · refine ⟨-1, Ev.succ ?_, by omega, by omega⟩
    simp only [laws_szCondS.f, wr (x := a - (l.length : Int)) (by omega) (by omega), if_pos c]
    exact Ev.now _
  have hend : ∀ a, Ev (fun k => laws_szCondS.l0 k l a (l.length : Int)) a := by
    intro a
    refine Ev.succ ?_
    simp only [laws_szCondS.l0, Int.lt_irrefl, if_false]
    exact Ev.now _
  have hstep : ∀ (i : Nat) (x : S63) (b : Int), l[i]? = some x → 0 ≤ b → b ≤ a - (l.length : Int) → (∃ r, Ev (fun k => laws_szCondS.l0 k l b (i : Int)) r ∧ r < 0) ∨ ∃ a', 0 ≤ a' ∧ a' + n63 x ≤ b ∧ ∀ r, Ev (fun k => laws_szCondS.l0 k l a' ((i + 1 : Nat) : Int)) r → Ev (fun k => laws_szCondS.l0 k l b (i : Int)) r := by
    intro i x b hx hb0 hba
    have hi := lt_of_get hx
    have h1 : ((i : Int) < (l.length : Int)) = True := eq_true (by omega)
    have h2 : (0 ≤ (i : Int)) = True := eq_true (by omega)
    have hgx := gin63 (hg x (List.mem_of_getElem? hx))
    obtain ⟨r, e, br, s⟩ := ih b.toNat (by omega) x.f3 hgx.1 hgx.2 b hb0 (by omega) (Nat.le_refl _)
    have e' : Ev (fun k => laws_szCond.f k x.f0 x.f1 x.f2 x.f3 b) (if r < 0 then -1 else r) := by
      refine Ev.succ ?_
      simp only [laws_szCond.f]
      refine Ev.bind e ?_
      by_cases c2 : r < 0
      · simp only [if_pos c2]; exact Ev.now _
      · simp only [if_neg c2]; exact Ev.now _
    by_cases c2 : r < 0
    · left
      rw [if_pos c2] at e'
      refine ⟨-1, Ev.succ ?_, by omega⟩
      simp only [laws_szCondS.l0, h1, h2, if_true, rd_at_T63 hx]
      refine Ev.bind e' ?_
      exact Ev.pos (by omega) (Ev.now _)
    · right
      rw [if_neg c2] at e'
      have s' := s (by omega)
      rw [← n63_f] at s'
      refine ⟨r, by omega, by omega, fun r' hr => Ev.succ ?_⟩
      simp only [laws_szCondS.l0, h1, h2, if_true, rd_at_T63 hx]
      refine Ev.bind e' ?_
      simp only [if_neg c2, wr1 hi (by omega)]
      exact hr
  obtain ⟨r, h1, h2, h3⟩ := ev_sz n63 l (fun k a i => laws_szCondS.l0 k l a i) (a - (l.length : Int)) hend hstep (a - (l.length : Int)) (by omega) (by omega)
  refine ⟨r, Ev.succ ?_, by omega, fun h => by have := h3 h; omega⟩
  simp only [laws_szCondS.f, wr (x := a - (l.length : Int)) (by omega) (by omega), if_neg c]
  exact h1
theorem laws_szCondS_le (l : List S63) (hl : l.length ≤ maxLen) (hg : ∀ y ∈ l, g63 y) (a : Int) (h0 : 0 ≤ a) (ha : a ≤ 2097152) : ∃ r, Ev (fun k => laws_szCondS.f k l a) r ∧ r ≤ 2097152 ∧ (0 ≤ r → r + (l.length + (l.map n63).sum : Nat) ≤ a) := laws_szCondS_leN _ l hl hg a h0 ha (Nat.le_refl _)
theorem laws_szCond_le (x : S63) (hg : g63 x) (a : Int) (h0 : 0 ≤ a) (ha : a ≤ 2097152) : ∃ r, Ev (fun k => laws_szCond.f k x.f0 x.f1 x.f2 x.f3 a) r ∧ r ≤ 2097152 ∧ (0 ≤ r → r + (n63 x : Nat) ≤ a) := by
  have hgx := gin63 hg
  obtain ⟨r, e, b, s⟩ := laws_szCondS_le x.f3 hgx.1 hgx.2 a h0 ha
  by_cases c : r < 0
  · refine ⟨-1, Ev.succ ?_, by omega, by omega⟩
    simp only [laws_szCond.f]
    refine Ev.bind e ?_
    simp only [if_pos c]; exact Ev.now _
  · refine ⟨r, Ev.succ ?_, b, fun h => by rw [n63_f]; exact s h⟩
    simp only [laws_szCond.f]
    refine Ev.bind e ?_
    simp only [if_neg c]; exact Ev.now _

-- laws_szCond


-- laws_szRule
theorem laws_szRule_le (x : S65) (hg : g65 x) (a : Int) (h0 : 0 ≤ a) (ha : a ≤ 2097152) : ∃ r, Ev (fun k => laws_szRule.f k x.f0 x.f1 x.f2 x.f3.f0 x.f3.f1 x.f3.f2 x.f3.f3 a) r ∧ r ≤ 2097152 ∧ (0 ≤ r → r + (n65 x : Nat) ≤ a) := by
  unfold g65 at hg
  unfold n65 laws_szRule.f
  obtain ⟨r0, e0, b0, s0⟩ := laws_szCond_le x.f3 (by have := hg; simp_all) a (by omega) (by omega)
  by_cases c0 : r0 < 0
  · exact ⟨-1, by refine Ev.bind e0 ?_; simp only [if_pos c0]; exact Ev.now _, by omega, by omega⟩
  have s0' := s0 (by omega)
  exact ⟨r0, by refine Ev.bind e0 ?_; simp only [if_neg c0]; exact Ev.now _, by omega, fun _ => by omega⟩

-- laws_szRuleS
theorem laws_szRuleS_le (l : List (S65)) (hl : l.length ≤ maxLen) (hg : ∀ y_ ∈ l, g65 y_) (a : Int) (h0 : 0 ≤ a) (ha : a ≤ 2097152) : ∃ r, Ev (fun k => laws_szRuleS.f k l a) r ∧ r ≤ 2097152 ∧ (0 ≤ r → r + (l.length + (l.map n65).sum : Nat) ≤ a) := by
  unfold laws_szRuleS.f
  unfold maxLen at hl
  rw [wr (by omega) (by omega)]
  by_cases c : a - (l.length : Int) < 0
  · simp only [if_pos c]; exact ⟨_, Ev.now _, by omega, by omega⟩
  simp only [if_neg c]
  have hend : ∀ a, Ev (fun k => laws_szRuleS.l0 k l a (l.length : Int)) a := by
    intro a
    refine Ev.succ ?_
    simp only [laws_szRuleS.l0, Int.lt_irrefl, if_false]
    exact Ev.now _
  have hstep : ∀ (i : Nat) (x : S65) (a : Int), l[i]? = some x → 0 ≤ a → a ≤ 2097152 → (∃ r, Ev (fun k => laws_szRuleS.l0 k l a (i : Int)) r ∧ r < 0) ∨ ∃ a', 0 ≤ a' ∧ a' + n65 x ≤ a ∧ ∀ r, Ev (fun k => laws_szRuleS.l0 k l a' ((i + 1 : Nat) : Int)) r → Ev (fun k => laws_szRuleS.l0 k l a (i : Int)) r := by
    intro i x a hx h0 ha
    have hi := lt_of_get hx
    have h1 : ((i : Int) < (l.length : Int)) = True := eq_true (by omega)
    have h2 : (0 ≤ (i : Int)) = True := eq_true (by omega)
    obtain ⟨r, e, b, s⟩ := laws_szRule_le x (hg x (List.mem_of_getElem? hx)) a h0 ha
    by_cases c2 : r < 0
    · left
      refine ⟨-1, Ev.succ ?_, by omega⟩
      simp only [laws_szRuleS.l0, h1, h2, if_true, rd_at_T65 hx]
      refine Ev.bind e ?_
      simp only [if_pos c2]
      exact Ev.now _
    · right
      have s' := s (by omega)
      refine ⟨r, by omega, by omega, fun r' hr => Ev.succ ?_⟩
      simp only [laws_szRuleS.l0, h1, h2, if_true, rd_at_T65 hx]
      refine Ev.bind e ?_
      simp only [if_neg c2, wr1 hi (by omega)]
      exact hr
  obtain ⟨r, h1, h2, h3⟩ := ev_sz n65 l (fun k a i => laws_szRuleS.l0 k l a i) 2097152 hend hstep (a - l.length) (by omega) (by omega)
  exact ⟨r, h1, h2, fun h => by have := h3 h; omega⟩

-- laws_szPolicy
theorem laws_szPolicy_le (x : S103) (hg : g103 x) (a : Int) (h0 : 0 ≤ a) (ha : a ≤ 2097152) : ∃ r, Ev (fun k => laws_szPolicy.f k x.f0 x.f1 a) r ∧ r ≤ 2097152 ∧ (0 ≤ r → r + (n103 x : Nat) ≤ a) := by
  unfold g103 at hg
  unfold n103 laws_szPolicy.f
  obtain ⟨r0, e0, b0, s0⟩ := laws_szRuleS_le x.f1 (by have := hg; simp_all) (by have := hg; simp_all) a (by omega) (by omega)
  by_cases c0 : r0 < 0
  · exact ⟨-1, by refine Ev.bind e0 ?_; simp only [if_pos c0]; exact Ev.now _, by omega, by omega⟩
  have s0' := s0 (by omega)
  exact ⟨r0, by refine Ev.bind e0 ?_; simp only [if_neg c0]; exact Ev.now _, by omega, fun _ => by omega⟩

-- laws_szEpoch
theorem laws_szEpoch_le (x : S105) (hg : g105 x) (a : Int) (h0 : 0 ≤ a) (ha : a ≤ 2097152) : ∃ r, Ev (fun k => laws_szEpoch.f k x.f0 x.f1 x.f2 x.f3.f0 x.f3.f1 a) r ∧ r ≤ 2097152 ∧ (0 ≤ r → r + (n105 x : Nat) ≤ a) := by
  unfold g105 at hg
  unfold n105 laws_szEpoch.f
  obtain ⟨r0, e0, b0, s0⟩ := laws_szIncludesS_le x.f2 (by have := hg; simp_all) a (by omega) (by omega)
  by_cases c0 : r0 < 0
  · exact ⟨-1, by simp only [e0, Option.bind_some]; simp only [if_pos c0]; exact Ev.now _, by omega, by omega⟩
  have s0' := s0 (by omega)
  obtain ⟨r1, e1, b1, s1⟩ := laws_szPolicy_le x.f3 (by have := hg; simp_all) r0 (by omega) (by omega)
  by_cases c1 : r1 < 0
  · exact ⟨-1, by simp only [e0, Option.bind_some]; simp only [if_neg c0]; refine Ev.bind e1 ?_; simp only [if_pos c1]; exact Ev.now _, by omega, by omega⟩
  have s1' := s1 (by omega)
  exact ⟨r1, by simp only [e0, Option.bind_some]; simp only [if_neg c0]; refine Ev.bind e1 ?_; simp only [if_neg c1]; exact Ev.now _, by omega, fun _ => by omega⟩

-- laws_szEpochS
theorem laws_szEpochS_le (l : List (S105)) (hl : l.length ≤ maxLen) (hg : ∀ y_ ∈ l, g105 y_) (a : Int) (h0 : 0 ≤ a) (ha : a ≤ 2097152) : ∃ r, Ev (fun k => laws_szEpochS.f k l a) r ∧ r ≤ 2097152 ∧ (0 ≤ r → r + (l.length + (l.map n105).sum : Nat) ≤ a) := by
  unfold laws_szEpochS.f
  unfold maxLen at hl
  rw [wr (by omega) (by omega)]
  by_cases c : a - (l.length : Int) < 0
  · simp only [if_pos c]; exact ⟨_, Ev.now _, by omega, by omega⟩
  simp only [if_neg c]
  have hend : ∀ a, Ev (fun k => laws_szEpochS.l0 k l a (l.length : Int)) a := by
    intro a
    refine Ev.succ ?_
    simp only [laws_szEpochS.l0, Int.lt_irrefl, if_false]
    exact Ev.now _
  have hstep : ∀ (i : Nat) (x : S105) (a : Int), l[i]? = some x → 0 ≤ a → a ≤ 2097152 → (∃ r, Ev (fun k => laws_szEpochS.l0 k l a (i : Int)) r ∧ r < 0) ∨ ∃ a', 0 ≤ a' ∧ a' + n105 x ≤ a ∧ ∀ r, Ev (fun k => laws_szEpochS.l0 k l a' ((i + 1 : Nat) : Int)) r → Ev (fun k => laws_szEpochS.l0 k l a (i : Int)) r := by
    intro i x a hx h0 ha
    have hi := lt_of_get hx
    have h1 : ((i : Int) < (l.length : Int)) = True := eq_true (by omega)
    have h2 : (0 ≤ (i : Int)) = True := eq_true (by omega)
    obtain ⟨r, e, b, s⟩ := laws_szEpoch_le x (hg x (List.mem_of_getElem? hx)) a h0 ha
    by_cases c2 : r < 0
    · left
      refine ⟨-1, Ev.succ ?_, by omega⟩
      simp only [laws_szEpochS.l0, h1, h2, if_true, rd_at_T105 hx]
      refine Ev.bind e ?_
      simp only [if_pos c2]
      exact Ev.now _
    · right
      have s' := s (by omega)
      refine ⟨r, by omega, by omega, fun r' hr => Ev.succ ?_⟩
      simp only [laws_szEpochS.l0, h1, h2, if_true, rd_at_T105 hx]
      refine Ev.bind e ?_
      simp only [if_neg c2, wr1 hi (by omega)]
      exact hr
  obtain ⟨r, h1, h2, h3⟩ := ev_sz n105 l (fun k a i => laws_szEpochS.l0 k l a i) 2097152 hend hstep (a - l.length) (by omega) (by omega)
  exact ⟨r, h1, h2, fun h => by have := h3 h; omega⟩

-- laws_szFactS
theorem laws_szFactS_le (l : List (S123)) (hl : l.length ≤ maxLen) (a : Int) (h0 : 0 ≤ a) (ha : a ≤ 2097152) : ∃ r, laws_szFactS.f l a = some r ∧ r ≤ 2097152 ∧ (0 ≤ r → r + (l.length : Nat) ≤ a) := by
  unfold laws_szFactS.f
  unfold maxLen at hl
  rw [wr (by omega) (by omega)]
  split
  · exact ⟨_, rfl, by omega, by omega⟩
  · exact ⟨_, rfl, by omega, by omega⟩

-- laws_szRevokedS
theorem laws_szRevokedS_le (l : List (S127)) (hl : l.length ≤ maxLen) (a : Int) (h0 : 0 ≤ a) (ha : a ≤ 2097152) : ∃ r, laws_szRevokedS.f l a = some r ∧ r ≤ 2097152 ∧ (0 ≤ r → r + (l.length : Nat) ≤ a) := by
  unfold laws_szRevokedS.f
  unfold maxLen at hl
  rw [wr (by omega) (by omega)]
  split
  · exact ⟨_, rfl, by omega, by omega⟩
  · exact ⟨_, rfl, by omega, by omega⟩

-- laws_szCertS
theorem laws_szCertS_le (l : List (S131)) (hl : l.length ≤ maxLen) (a : Int) (h0 : 0 ≤ a) (ha : a ≤ 2097152) : ∃ r, laws_szCertS.f l a = some r ∧ r ≤ 2097152 ∧ (0 ≤ r → r + (l.length : Nat) ≤ a) := by
  unfold laws_szCertS.f
  unfold maxLen at hl
  rw [wr (by omega) (by omega)]
  split
  · exact ⟨_, rfl, by omega, by omega⟩
  · exact ⟨_, rfl, by omega, by omega⟩

-- laws_szCenter
theorem laws_szCenter_le (x : S28) (hg : g28 x) (a : Int) (h0 : 0 ≤ a) (ha : a ≤ 2097152) : ∃ r, Ev (fun k => laws_szCenter.f k x.f0 x.f1 x.f2 x.f3 x.f4 x.f5 a) r ∧ r ≤ 2097152 ∧ (0 ≤ r → r + (n28 x : Nat) ≤ a) := by
  unfold g28 at hg
  unfold n28 laws_szCenter.f
  obtain ⟨r0, e0, b0, s0⟩ := laws_szIssuerS_le x.f0 (by have := hg; simp_all) (by have := hg; simp_all) a (by omega) (by omega)
  by_cases c0 : r0 < 0
  · exact ⟨-1, by refine Ev.bind e0 ?_; simp only [if_pos c0]; exact Ev.now _, by omega, by omega⟩
  have s0' := s0 (by omega)
  obtain ⟨r1, e1, b1, s1⟩ := laws_szEpochS_le x.f1 (by have := hg; simp_all) (by have := hg; simp_all) r0 (by omega) (by omega)
  by_cases c1 : r1 < 0
  · exact ⟨-1, by refine Ev.bind e0 ?_; simp only [if_neg c0]; refine Ev.bind e1 ?_; simp only [if_pos c1]; exact Ev.now _, by omega, by omega⟩
  have s1' := s1 (by omega)
  obtain ⟨r2, e2, b2, s2⟩ := laws_szFactS_le x.f2 (by have := hg; simp_all) r1 (by omega) (by omega)
  by_cases c2 : r2 < 0
  · exact ⟨-1, by refine Ev.bind e0 ?_; simp only [if_neg c0]; refine Ev.bind e1 ?_; simp only [if_neg c1]; simp only [e2, Option.bind_some]; simp only [if_pos c2]; exact Ev.now _, by omega, by omega⟩
  have s2' := s2 (by omega)
  obtain ⟨r3, e3, b3, s3⟩ := laws_szRevokedS_le x.f3 (by have := hg; simp_all) r2 (by omega) (by omega)
  by_cases c3 : r3 < 0
  · exact ⟨-1, by refine Ev.bind e0 ?_; simp only [if_neg c0]; refine Ev.bind e1 ?_; simp only [if_neg c1]; simp only [e2, Option.bind_some]; simp only [if_neg c2]; simp only [e3, Option.bind_some]; simp only [if_pos c3]; exact Ev.now _, by omega, by omega⟩
  have s3' := s3 (by omega)
  obtain ⟨r4, e4, b4, s4⟩ := laws_szCertS_le x.f5 (by have := hg; simp_all) r3 (by omega) (by omega)
  by_cases c4 : r4 < 0
  · exact ⟨-1, by refine Ev.bind e0 ?_; simp only [if_neg c0]; refine Ev.bind e1 ?_; simp only [if_neg c1]; simp only [e2, Option.bind_some]; simp only [if_neg c2]; simp only [e3, Option.bind_some]; simp only [if_neg c3]; simp only [e4, Option.bind_some]; simp only [if_pos c4]; exact Ev.now _, by omega, by omega⟩
  have s4' := s4 (by omega)
  exact ⟨r4, by refine Ev.bind e0 ?_; simp only [if_neg c0]; refine Ev.bind e1 ?_; simp only [if_neg c1]; simp only [e2, Option.bind_some]; simp only [if_neg c2]; simp only [e3, Option.bind_some]; simp only [if_neg c3]; simp only [e4, Option.bind_some]; simp only [if_neg c4]; exact Ev.now _, by omega, fun _ => by omega⟩

-- laws_toIntS
theorem laws_toIntS_ev (l : List Int) (h : l.length ≤ 2097152) : Ev (fun k => laws_toIntS.f k l) l := by
  unfold laws_toIntS.f
  have e : l = l.map id := by simp
  conv => rhs; rw [e]
  refine Ev.pos rfl (Ev.pos (by omega) (Ev.pos (by omega) ?_))
  refine ev_fill l id (fun k out i => laws_toIntS.l0 k l out i) ?_ ?_ _ (by simp)
  · intro out ho
    refine Ev.succ ?_
    simp only [laws_toIntS.l0, Int.lt_irrefl, if_false]
    exact Ev.now _
  · intro i x out r hx ho hr
    have hi := lt_of_get hx
    have h1 : ((i : Int) < (l.length : Int)) = True := eq_true (by omega)
    have h2 : (0 ≤ (i : Int)) = True := eq_true (by omega)
    have h3 : ((i : Int) < (out.length : Int)) = True := eq_true (by omega)
    refine Ev.succ ?_
    simp only [laws_toIntS.l0, h1, h2, h3, if_true, rd_nat l i x hx, wr1 hi (by omega), Int.toNat_natCast]
    exact hr

-- laws_toIssuer
theorem laws_toIssuer_ev (x : S100) (h : n100 x ≤ 2097152) : Ev (fun k => laws_toIssuer.f k x.f0 x.f1 x.f2) ((cv100 x).f0, (cv100 x).f1, (cv100 x).f2) := by
  unfold n100 at h
  unfold laws_toIssuer.f
  repeat (first | exact Ev.now _ | (refine Ev.bind (laws_toIntS_ev _ (by omega)) ?_; try simp only []))

-- laws_toIssuerS
theorem laws_toIssuerS_ev (l : List (S100)) (h : l.length + (l.map n100).sum ≤ 2097152) : Ev (fun k => laws_toIssuerS.f k l) (l.map cv100) := by
  unfold laws_toIssuerS.f
  refine Ev.pos rfl (Ev.pos (by omega) (Ev.pos (by omega) ?_))
  refine ev_fill l cv100 (fun k out i => laws_toIssuerS.l0 k l out i) ?_ ?_ _ (by simp)
  · intro out ho
    refine Ev.succ ?_
    simp only [laws_toIssuerS.l0, Int.lt_irrefl, if_false]
    exact Ev.now _
  · intro i x out r hx ho hr
    have hi := lt_of_get hx
    have h1 : ((i : Int) < (l.length : Int)) = True := eq_true (by omega)
    have h2 : (0 ≤ (i : Int)) = True := eq_true (by omega)
    have h3 : ((i : Int) < (out.length : Int)) = True := eq_true (by omega)
    refine Ev.succ ?_
    simp only [laws_toIssuerS.l0, h1, h2, h3, if_true, rd_at_T100 hx, wr1 hi (by omega), Int.toNat_natCast]
    refine Ev.bind (laws_toIssuer_ev x (by have := le_sum n100 hx; omega)) ?_
    simp only [h3, if_true]
    (try simp only [eta63, eta80])
    exact hr

-- laws_toIncludes
theorem laws_toIncludes_eq (x : S77) : laws_toIncludes.f x.f0 x.f1 = some ((cv77 x).f0, (cv77 x).f1) := by
  unfold laws_toIncludes.f
  first | rfl | (simp only [Option.bind_some]; rfl)

-- laws_toIncludesS
theorem laws_toIncludesS_ev (l : List (S77)) (h : l.length ≤ 2097152) : Ev (fun k => laws_toIncludesS.f k l) (l.map cv77) := by
  unfold laws_toIncludesS.f
  refine Ev.pos rfl (Ev.pos (by omega) (Ev.pos (by omega) ?_))
  refine ev_fill l cv77 (fun k out i => laws_toIncludesS.l0 k l out i) ?_ ?_ _ (by simp)
  · intro out ho
    refine Ev.succ ?_
    simp only [laws_toIncludesS.l0, Int.lt_irrefl, if_false]
    exact Ev.now _
  · intro i x out r hx ho hr
    have hi := lt_of_get hx
    have h1 : ((i : Int) < (l.length : Int)) = True := eq_true (by omega)
    have h2 : (0 ≤ (i : Int)) = True := eq_true (by omega)
    have h3 : ((i : Int) < (out.length : Int)) = True := eq_true (by omega)
    refine Ev.succ ?_
    simp only [laws_toIncludesS.l0, h1, h2, h3, if_true, rd_at_T77 hx, wr1 hi (by omega), Int.toNat_natCast, laws_toIncludes_eq x, Option.bind_some]
    exact hr

-- laws_toCondS
theorem laws_toCondS_evN (N : Nat) : ∀ l : List S63, l.length + (l.map n63).sum ≤ N → N ≤ 2097152 → Ev (fun k => laws_toCondS.f k l) (l.map cv63) := by
  induction N using Nat.strongRecOn with
  | _ N ih =>
  intro l h hN
  refine Ev.succ ?_
  simp only [laws_toCondS.f]
  refine Ev.pos (by first | trivial | rfl) (Ev.pos (by omega) (Ev.pos (by omega) ?_))
  refine ev_fill l cv63 (fun k out i => laws_toCondS.l0 k l out i) ?_ ?_ _ (by simp)
  · intro out ho
    refine Ev.succ ?_
    simp only [laws_toCondS.l0, Int.lt_irrefl, if_false]
    exact Ev.now _
  · intro i x out r hx ho hr
    have hi := lt_of_get hx
    have h1 : ((i : Int) < (l.length : Int)) = True := eq_true (by omega)
    have h2 : (0 ≤ (i : Int)) = True := eq_true (by omega)
    have h3 : ((i : Int) < (out.length : Int)) = True := eq_true (by omega)
    have hn := le_sum n63 hx
    rw [n63_f] at hn
    have e := ih (x.f3.length + (x.f3.map n63).sum) (by omega) x.f3 (Nat.le_refl _) (by omega)
    have e' : Ev (fun k => laws_toCond.f k x.f0 x.f1 x.f2 x.f3) (x.f0, x.f1, x.f2, x.f3.map cv63) := by
      refine Ev.succ ?_
      simp only [laws_toCond.f]
      refine Ev.bind e ?_
      exact Ev.now _
    refine Ev.succ ?_
    simp only [laws_toCondS.l0, h1, h2, if_true, rd_at_T63 hx, wr1 hi (by omega), Int.toNat_natCast]
    refine Ev.bind e' ?_
    simp only [h3, if_true]
    rw [cv63_f] at hr
    exact hr
theorem laws_toCondS_ev (l : List S63) (h : l.length + (l.map n63).sum ≤ 2097152) : Ev (fun k => laws_toCondS.f k l) (l.map cv63) := laws_toCondS_evN _ l (Nat.le_refl _) h
theorem laws_toCond_ev (x : S63) (h : n63 x ≤ 2097152) : Ev (fun k => laws_toCond.f k x.f0 x.f1 x.f2 x.f3) ((cv63 x).f0, (cv63 x).f1, (cv63 x).f2, (cv63 x).f3) := by
  rw [n63_f] at h
  rw [cv63_f]
  refine Ev.succ ?_
  simp only [laws_toCond.f]
  refine Ev.bind (laws_toCondS_ev x.f3 h) ?_
  exact Ev.now _

-- laws_toCond


-- laws_toRule
theorem laws_toRule_ev (x : S65) (h : n65 x ≤ 2097152) : Ev (fun k => laws_toRule.f k x.f0 x.f1 x.f2 x.f3.f0 x.f3.f1 x.f3.f2 x.f3.f3) ((cv65 x).f0, (cv65 x).f1, (cv65 x).f2, (cv65 x).f3.f0, (cv65 x).f3.f1, (cv65 x).f3.f2, (cv65 x).f3.f3) := by
  unfold n65 at h
  unfold laws_toRule.f
  repeat (first | exact Ev.now _ | (refine Ev.bind (laws_toCond_ev _ (by omega)) ?_; try simp only []))

-- laws_toRuleS
theorem laws_toRuleS_ev (l : List (S65)) (h : l.length + (l.map n65).sum ≤ 2097152) : Ev (fun k => laws_toRuleS.f k l) (l.map cv65) := by
  unfold laws_toRuleS.f
  refine Ev.pos rfl (Ev.pos (by omega) (Ev.pos (by omega) ?_))
  refine ev_fill l cv65 (fun k out i => laws_toRuleS.l0 k l out i) ?_ ?_ _ (by simp)
  · intro out ho
    refine Ev.succ ?_
    simp only [laws_toRuleS.l0, Int.lt_irrefl, if_false]
    exact Ev.now _
  · intro i x out r hx ho hr
    have hi := lt_of_get hx
    have h1 : ((i : Int) < (l.length : Int)) = True := eq_true (by omega)
    have h2 : (0 ≤ (i : Int)) = True := eq_true (by omega)
    have h3 : ((i : Int) < (out.length : Int)) = True := eq_true (by omega)
    refine Ev.succ ?_
    simp only [laws_toRuleS.l0, h1, h2, h3, if_true, rd_at_T65 hx, wr1 hi (by omega), Int.toNat_natCast]
    refine Ev.bind (laws_toRule_ev x (by have := le_sum n65 hx; omega)) ?_
    simp only [h3, if_true]
    (try simp only [eta63, eta80])
    exact hr

-- laws_toPolicy
theorem laws_toPolicy_ev (x : S103) (h : n103 x ≤ 2097152) : Ev (fun k => laws_toPolicy.f k x.f0 x.f1) ((cv103 x).f0, (cv103 x).f1) := by
  unfold n103 at h
  unfold laws_toPolicy.f
  repeat (first | exact Ev.now _ | (refine Ev.bind (laws_toRuleS_ev _ (by omega)) ?_; try simp only []))

-- laws_toEpoch
theorem laws_toEpoch_ev (x : S105) (h : n105 x ≤ 2097152) : Ev (fun k => laws_toEpoch.f k x.f0 x.f1 x.f2 x.f3.f0 x.f3.f1) ((cv105 x).f0, (cv105 x).f1, (cv105 x).f2, (cv105 x).f3.f0, (cv105 x).f3.f1) := by
  unfold n105 at h
  unfold laws_toEpoch.f
  repeat (first | exact Ev.now _ | (refine Ev.bind (laws_toIncludesS_ev _ (by omega)) ?_; try simp only []) | (refine Ev.bind (laws_toPolicy_ev _ (by omega)) ?_; try simp only []))

-- laws_toEpochS
theorem laws_toEpochS_ev (l : List (S105)) (h : l.length + (l.map n105).sum ≤ 2097152) : Ev (fun k => laws_toEpochS.f k l) (l.map cv105) := by
  unfold laws_toEpochS.f
  refine Ev.pos rfl (Ev.pos (by omega) (Ev.pos (by omega) ?_))
  refine ev_fill l cv105 (fun k out i => laws_toEpochS.l0 k l out i) ?_ ?_ _ (by simp)
  · intro out ho
    refine Ev.succ ?_
    simp only [laws_toEpochS.l0, Int.lt_irrefl, if_false]
    exact Ev.now _
  · intro i x out r hx ho hr
    have hi := lt_of_get hx
    have h1 : ((i : Int) < (l.length : Int)) = True := eq_true (by omega)
    have h2 : (0 ≤ (i : Int)) = True := eq_true (by omega)
    have h3 : ((i : Int) < (out.length : Int)) = True := eq_true (by omega)
    refine Ev.succ ?_
    simp only [laws_toEpochS.l0, h1, h2, h3, if_true, rd_at_T105 hx, wr1 hi (by omega), Int.toNat_natCast]
    refine Ev.bind (laws_toEpoch_ev x (by have := le_sum n105 hx; omega)) ?_
    simp only [h3, if_true]
    (try simp only [eta63, eta80])
    exact hr

-- laws_toFact
theorem laws_toFact_eq (x : S123) : laws_toFact.f x.f0 x.f1 x.f2 x.f3 x.f4 x.f5 = some ((cv123 x).f0, (cv123 x).f1, (cv123 x).f2, (cv123 x).f3, (cv123 x).f4, (cv123 x).f5) := by
  unfold laws_toFact.f
  first | rfl | (simp only [Option.bind_some]; rfl)

-- laws_toFactS
theorem laws_toFactS_ev (l : List (S123)) (h : l.length ≤ 2097152) : Ev (fun k => laws_toFactS.f k l) (l.map cv123) := by
  unfold laws_toFactS.f
  refine Ev.pos rfl (Ev.pos (by omega) (Ev.pos (by omega) ?_))
  refine ev_fill l cv123 (fun k out i => laws_toFactS.l0 k l out i) ?_ ?_ _ (by simp)
  · intro out ho
    refine Ev.succ ?_
    simp only [laws_toFactS.l0, Int.lt_irrefl, if_false]
    exact Ev.now _
  · intro i x out r hx ho hr
    have hi := lt_of_get hx
    have h1 : ((i : Int) < (l.length : Int)) = True := eq_true (by omega)
    have h2 : (0 ≤ (i : Int)) = True := eq_true (by omega)
    have h3 : ((i : Int) < (out.length : Int)) = True := eq_true (by omega)
    refine Ev.succ ?_
    simp only [laws_toFactS.l0, h1, h2, h3, if_true, rd_at_T123 hx, wr1 hi (by omega), Int.toNat_natCast, laws_toFact_eq x, Option.bind_some]
    exact hr

-- laws_toRevoked
theorem laws_toRevoked_eq (x : S127) : laws_toRevoked.f x.f0 x.f1 = some ((cv127 x).f0, (cv127 x).f1) := by
  unfold laws_toRevoked.f
  first | rfl | (simp only [Option.bind_some]; rfl)

-- laws_toRevokedS
theorem laws_toRevokedS_ev (l : List (S127)) (h : l.length ≤ 2097152) : Ev (fun k => laws_toRevokedS.f k l) (l.map cv127) := by
  unfold laws_toRevokedS.f
  refine Ev.pos rfl (Ev.pos (by omega) (Ev.pos (by omega) ?_))
  refine ev_fill l cv127 (fun k out i => laws_toRevokedS.l0 k l out i) ?_ ?_ _ (by simp)
  · intro out ho
    refine Ev.succ ?_
    simp only [laws_toRevokedS.l0, Int.lt_irrefl, if_false]
    exact Ev.now _
  · intro i x out r hx ho hr
    have hi := lt_of_get hx
    have h1 : ((i : Int) < (l.length : Int)) = True := eq_true (by omega)
    have h2 : (0 ≤ (i : Int)) = True := eq_true (by omega)
    have h3 : ((i : Int) < (out.length : Int)) = True := eq_true (by omega)
    refine Ev.succ ?_
    simp only [laws_toRevokedS.l0, h1, h2, h3, if_true, rd_at_T127 hx, wr1 hi (by omega), Int.toNat_natCast, laws_toRevoked_eq x, Option.bind_some]
    exact hr

-- laws_toCert
theorem laws_toCert_eq (x : S131) : laws_toCert.f x.f0 x.f1 x.f2 x.f3 x.f4 x.f5 = some ((cv131 x).f0, (cv131 x).f1, (cv131 x).f2, (cv131 x).f3, (cv131 x).f4, (cv131 x).f5) := by
  unfold laws_toCert.f
  first | rfl | (simp only [Option.bind_some]; rfl)

-- laws_toCertS
theorem laws_toCertS_ev (l : List (S131)) (h : l.length ≤ 2097152) : Ev (fun k => laws_toCertS.f k l) (l.map cv131) := by
  unfold laws_toCertS.f
  refine Ev.pos rfl (Ev.pos (by omega) (Ev.pos (by omega) ?_))
  refine ev_fill l cv131 (fun k out i => laws_toCertS.l0 k l out i) ?_ ?_ _ (by simp)
  · intro out ho
    refine Ev.succ ?_
    simp only [laws_toCertS.l0, Int.lt_irrefl, if_false]
    exact Ev.now _
  · intro i x out r hx ho hr
    have hi := lt_of_get hx
    have h1 : ((i : Int) < (l.length : Int)) = True := eq_true (by omega)
    have h2 : (0 ≤ (i : Int)) = True := eq_true (by omega)
    have h3 : ((i : Int) < (out.length : Int)) = True := eq_true (by omega)
    refine Ev.succ ?_
    simp only [laws_toCertS.l0, h1, h2, h3, if_true, rd_at_T131 hx, wr1 hi (by omega), Int.toNat_natCast, laws_toCert_eq x, Option.bind_some]
    exact hr

-- laws_toCenter
theorem laws_toCenter_ev (x : S28) (h : n28 x ≤ 2097152) : Ev (fun k => laws_toCenter.f k x.f0 x.f1 x.f2 x.f3 x.f4 x.f5) ((cv28 x).f0, (cv28 x).f1, (cv28 x).f2, (cv28 x).f3, (cv28 x).f4, (cv28 x).f5) := by
  unfold n28 at h
  unfold laws_toCenter.f
  repeat (first | exact Ev.now _ | (refine Ev.bind (laws_toIssuerS_ev _ (by omega)) ?_; try simp only []) | (refine Ev.bind (laws_toEpochS_ev _ (by omega)) ?_; try simp only []) | (refine Ev.bind (laws_toFactS_ev _ (by omega)) ?_; try simp only []) | (refine Ev.bind (laws_toRevokedS_ev _ (by omega)) ?_; try simp only []) | (refine Ev.bind (laws_toCertS_ev _ (by omega)) ?_; try simp only []))

-- spec_l8Copy
theorem spec_l8Copy_ev (l : List S117) (h : l.length ≤ 2097152) (hn : ∀ x ∈ l, x.f1.length ≤ 2097152) : Ev (fun k => spec_l8Copy.f k l) l := by
  unfold spec_l8Copy.f
  have key : ∀ (d i : Nat), l.length - i = d → i ≤ l.length → Ev (fun k => spec_l8Copy.l0 k l (l.take i) (i : Int)) l := by
    intro d
    induction d with
    | zero =>
      intro i hd hi
      obtain rfl : i = l.length := by omega
      refine Ev.succ ?_
      simp only [spec_l8Copy.l0, Int.lt_irrefl, if_false, List.take_length]
      exact Ev.now _
    | succ d ihd =>
      intro i hd hi
      have hi' : i < l.length := by omega
      obtain ⟨y, hy⟩ := getAt (l := l) (i := i) hi'
      have h1 : ((i : Int) < (l.length : Int)) = True := eq_true (by omega)
      have h2 : (0 ≤ (i : Int)) = True := eq_true (by omega)
      have h3 : ((l.take i).length < 3518437208883) = True := eq_true (by rw [List.length_take]; omega)
      have h4 : (0 + y.f1.length ≤ 17592186044416) = True := eq_true (by have := hn y (List.mem_of_getElem? hy); omega)
      have e3 : l.take i ++ [y] = l.take (i + 1) := by rw [List.take_add_one, hy]; rfl
      refine Ev.succ ?_
      simp only [spec_l8Copy.l0, h1, h2, h3, h4, if_true, rd_at_T117 hy, wr1 hi' (by omega), List.nil_append, e3]
      exact ihd (i + 1) (by omega) (by omega)
  exact key l.length 0 (by omega) (by omega)

-- spec_l15Copy
theorem copyC_evN (N : Nat) : ∀ x : S80, n80 x ≤ N → N ≤ 2097152 → Ev (fun k => spec_l15Copy.f k x.f0 x.f1 x.f2 x.f3) (x.f0, x.f1, x.f2, x.f3) := by
  induction N using Nat.strongRecOn with
  | _ N ih =>
  intro x h hN
  rw [n80_f] at h
  refine Ev.succ ?_
  simp only [spec_l15Copy.f]
  have key : ∀ (d i : Nat), x.f3.length - i = d → i ≤ x.f3.length → Ev (fun k => spec_l15Copy.l0 k x.f0 x.f1 x.f2 x.f3 0 0 0 [] x.f0 x.f1 x.f2 (x.f3.take i) (i : Int)) (x.f0, x.f1, x.f2, x.f3) := by
    intro d
    induction d with
    | zero =>
      intro i hd hi
      obtain rfl : i = x.f3.length := by omega
      refine Ev.succ ?_
      simp only [spec_l15Copy.l0, Int.lt_irrefl, if_false, List.take_length]
      exact Ev.now _
    | succ d ihd =>
      intro i hd hi
      have hi' : i < x.f3.length := by omega
      obtain ⟨y, hy⟩ := getAt (l := x.f3) (i := i) hi'
      have hn := le_sum n80 hy
      have h1 : ((i : Int) < (x.f3.length : Int)) = True := eq_true (by omega)
      have h2 : (0 ≤ (i : Int)) = True := eq_true (by omega)
      have h3 : ((x.f3.take i).length < 2932031007402) = True := eq_true (by rw [List.length_take]; omega)
      have e := ih (n80 y) (by omega) y (Nat.le_refl _) (by omega)
      have e3 : x.f3.take i ++ [y] = x.f3.take (i + 1) := by rw [List.take_add_one, hy]; rfl
      refine Ev.succ ?_
      simp only [spec_l15Copy.l0, h1, h2, if_true, rd_at_T80 hy, wr1 hi' (by omega)]
      refine Ev.bind e ?_
      simp only [h3, if_true, eta80, e3]
      exact ihd (i + 1) (by omega) (by omega)
  exact key x.f3.length 0 (by omega) (by omega)
theorem spec_l15Copy_ev (x : S80) (h : n80 x ≤ 2097152) : Ev (fun k => spec_l15Copy.f k x.f0 x.f1 x.f2 x.f3) (x.f0, x.f1, x.f2, x.f3) := copyC_evN _ x (Nat.le_refl _) h

-- spec_l19Copy
theorem spec_l19Copy_ev (v : Int) (l : List S82) (h : l.length ≤ 2097152) (hn : ∀ x ∈ l, n80 x.f3 ≤ 2097152) : Ev (fun k => spec_l19Copy.f k v l) (v, l) := by
  unfold spec_l19Copy.f
  have key : ∀ (d i : Nat), l.length - i = d → i ≤ l.length → Ev (fun k => spec_l19Copy.l0 k v l 0 [] v (l.take i) (i : Int)) (v, l) := by
    intro d
    induction d with
    | zero =>
      intro i hd hi
      obtain rfl : i = l.length := by omega
      refine Ev.succ ?_
      simp only [spec_l19Copy.l0, Int.lt_irrefl, if_false, List.take_length]
      exact Ev.now _
    | succ d ihd =>
      intro i hd hi
      have hi' : i < l.length := by omega
      obtain ⟨y, hy⟩ := getAt (l := l) (i := i) hi'
      have h1 : ((i : Int) < (l.length : Int)) = True := eq_true (by omega)
      have h2 : (0 ≤ (i : Int)) = True := eq_true (by omega)
      have h3 : ((l.take i).length < 1954687338268) = True := eq_true (by rw [List.length_take]; omega)
      have e3 : l.take i ++ [y] = l.take (i + 1) := by rw [List.take_add_one, hy]; rfl
      refine Ev.succ ?_
      simp only [spec_l19Copy.l0, h1, h2, if_true, rd_at_T82 hy, wr1 hi' (by omega)]
      refine Ev.bind (spec_l15Copy_ev y.f3 (hn y (List.mem_of_getElem? hy))) ?_
      simp only [h3, if_true, eta80, e3]
      exact ihd (i + 1) (by omega) (by omega)
  exact key l.length 0 (by omega) (by omega)

-- spec_l24Copy
/-- What an epoch's size bounds. -/
theorem epN {x : S115} (h : n115 x ≤ 2097152) : x.f2.length ≤ 2097152 ∧ x.f3.f1.length ≤ 2097152 ∧ ∀ r ∈ x.f3.f1, n80 r.f3 ≤ 2097152 := by
  unfold n115 n113 at h
  refine ⟨by omega, by omega, fun r hr => ?_⟩
  obtain ⟨j, hj⟩ := List.getElem?_of_mem hr
  have h1 := le_sum n82 hj
  have h2 : n80 r.f3 ≤ n82 r := by unfold n82; omega
  omega
theorem spec_l24Copy_ev (x : S115) (h : n115 x ≤ 2097152) : Ev (fun k => spec_l24Copy.f k x.f0 x.f1 x.f2 x.f3.f0 x.f3.f1) (x.f0, x.f1, x.f2, x.f3.f0, x.f3.f1) := by
  obtain ⟨h1, h2, h3⟩ := epN h
  unfold spec_l24Copy.f
  refine Ev.pos (by omega) ?_
  exact Ev.bind (spec_l19Copy_ev x.f3.f0 x.f3.f1 h2 h3) (Ev.now _)

-- spec_l24All
theorem spec_l24All_ev (l : List S115) (h : l.length ≤ 2097152) (hn : ∀ x ∈ l, n115 x ≤ 2097152) : Ev (fun k => spec_l24All.f k l) l := by
  unfold spec_l24All.f
  have key : ∀ (d i : Nat), l.length - i = d → i ≤ l.length → Ev (fun k => spec_l24All.l0 k l (l.take i) (i : Int)) l := by
    intro d
    induction d with
    | zero =>
      intro i hd hi
      obtain rfl : i = l.length := by omega
      refine Ev.succ ?_
      simp only [spec_l24All.l0, Int.lt_irrefl, if_false, List.take_length]
      exact Ev.now _
    | succ d ihd =>
      intro i hd hi
      have hi' : i < l.length := by omega
      obtain ⟨y, hy⟩ := getAt (l := l) (i := i) hi'
      have h1 : ((i : Int) < (l.length : Int)) = True := eq_true (by omega)
      have h2 : (0 ≤ (i : Int)) = True := eq_true (by omega)
      have h3 : ((l.take i).length < 1954687338268) = True := eq_true (by rw [List.length_take]; omega)
      have e3 : l.take i ++ [y] = l.take (i + 1) := by rw [List.take_add_one, hy]; rfl
      refine Ev.succ ?_
      simp only [spec_l24All.l0, h1, h2, if_true, rd_at_T115 hy, wr1 hi' (by omega)]
      refine Ev.bind (spec_l24Copy_ev y (hn y (List.mem_of_getElem? hy))) ?_
      simp only [h3, if_true, e3]
      exact ihd (i + 1) (by omega) (by omega)
  exact key l.length 0 (by omega) (by omega)

-- spec_l7Copy
theorem spec_l7Copy_eq (l : List S121) (h : l.length ≤ 2097152) : spec_l7Copy.f l = some l := by
  unfold spec_l7Copy.f
  rw [if_pos (by omega)]; rfl

-- spec_l28Copy
/-- What a center's size bounds. -/
theorem ctN {x : S40} (h : n40 x ≤ 2097152) : x.f0.length ≤ 2097152 ∧ (∀ y ∈ x.f0, y.f1.length ≤ 2097152) ∧ x.f1.length ≤ 2097152 ∧ (∀ y ∈ x.f1, n115 y ≤ 2097152) ∧ x.f2.length ≤ 2097152 ∧ x.f3.length ≤ 2097152 ∧ x.f5.length ≤ 2097152 := by
  unfold n40 at h
  refine ⟨by omega, fun y hy => ?_, by omega, fun y hy => ?_, by omega, by omega, by omega⟩
  · obtain ⟨j, hj⟩ := List.getElem?_of_mem hy
    have h1 := le_sum n117 hj
    have h2 : y.f1.length ≤ n117 y := by unfold n117; omega
    omega
  · obtain ⟨j, hj⟩ := List.getElem?_of_mem hy
    have h1 := le_sum n115 hj
    omega
theorem spec_l28Copy_ev (x : S40) (h : n40 x ≤ 2097152) : Ev (fun k => spec_l28Copy.f k x.f0 x.f1 x.f2 x.f3 x.f4 x.f5) (x.f0, x.f1, x.f2, x.f3, x.f4, x.f5) := by
  obtain ⟨h0, h0', h1, h1', h2, h3, h5⟩ := ctN h
  unfold spec_l28Copy.f
  refine Ev.bind (spec_l8Copy_ev x.f0 h0 h0') (Ev.bind (spec_l24All_ev x.f1 h1 h1') ?_)
  simp only [spec_l7Copy_eq x.f2 h2, Option.bind_some, List.nil_append]
  exact Ev.pos (by omega) (Ev.pos (by omega) (Ev.now _))

-- spec_l1In
theorem spec_l1In_eq (a b c : Int) : spec_l1In.f a b c = some (inB a b c) := by
  unfold spec_l1In.f
  rw [ite_dand]; rfl

-- spec_IsTime
theorem spec_IsTime_eq (a : Int) : spec_IsTime.f a = some (timeB a) := by
  unfold spec_IsTime.f
  rw [spec_l1In_eq]; rfl

-- spec_RolesUnder
def roleB (n : Int) : Bool := decide (0 ≤ n) && decide (n ≤ 5)
def mkR (m : List Bool) (r : Int) : Bool := m.getD r.toNat false
def visX (a : Int) (s : List Bool × List Int) (x : S75) : List Bool × List Int := if x.f0 = a ∧ roleB x.f1 = true ∧ mkR s.1 x.f1 = false then (s.1.set x.f1.toNat true, s.2 ++ [x.f1]) else s
def popX (l : List S75) (a : Int) (s : List Bool × List Int) : List Bool × List Int := l.foldl (visX a) s
def bfsX (l : List S75) : Nat → List Int → List Bool → Option (List Bool)
  | 0, _, _ => none
  | _ + 1, [], m => some m
  | k + 1, a :: rest, m => bfsX l k (popX l a (m, rest)).2 (popX l a (m, rest)).1
/-- An edge between roles. -/
def edgeP (l : List S75) (a b : Int) : Prop := ∃ x ∈ l, x.f0 = a ∧ x.f1 = b ∧ roleB a = true ∧ roleB b = true
inductive Rch (l : List S75) (a : Int) : Int → Prop
  | refl : Rch l a a
  | step {b c : Int} : Rch l a b → edgeP l b c → Rch l a c
theorem Rch.trans {l : List S75} {a b c : Int} (h1 : Rch l a b) (h2 : Rch l b c) : Rch l a c := by
  induction h2 with
  | refl => exact h1
  | step _ e ih => exact .step ih e
/-- By one edge or more. -/
def RchP (l : List S75) (a c : Int) : Prop := ∃ b, edgeP l a b ∧ Rch l b c
theorem RchP.step {l : List S75} {a b c : Int} (h : RchP l a b) (e : edgeP l b c) : RchP l a c := by
  obtain ⟨d, h1, h2⟩ := h
  exact ⟨d, h1, .step h2 e⟩
theorem Rch_iff {l : List S75} {a c : Int} : Rch l a c ↔ a = c ∨ RchP l a c := by
  constructor
  · intro h
    induction h with
    | refl => exact .inl rfl
    | step h e ih =>
      rcases ih with rfl | ih
      · exact .inr ⟨_, e, .refl⟩
      · exact .inr (ih.step e)
  · rintro (rfl | ⟨b, e, h⟩)
    · exact .refl
    · exact Rch.trans (.step .refl e) h
def markX (m : List Bool) (x : S75) : List Bool := if roleB x.f0 && roleB x.f1 && mkR m x.f0 then m.set x.f1.toNat true else m
def roundX (l : List S75) (m : List Bool) : List Bool := l.foldl markX m
def itX (l : List S75) : Nat → List Bool → List Bool
  | 0, m => m
  | n + 1, m => itX l n (roundX l m)
theorem roleB_iff {n : Int} : roleB n = true ↔ 0 ≤ n ∧ n ≤ 5 := by simp [roleB]
theorem mk_set {m : List Bool} (hm : m.length = 6) {r : Int} (hr : roleB r = true) (q : Int) (hq : roleB q = true) : mkR (m.set r.toNat true) q = (decide (q = r) || mkR m q) := by
  rw [roleB_iff] at hr hq
  unfold mkR
  rw [List.getD_eq_getElem?_getD, List.getD_eq_getElem?_getD]
  by_cases h : q = r
  · subst h
    rw [List.getElem?_set_self (by omega)]
    simp
  · rw [List.getElem?_set_ne (by omega)]
    simp [h]
theorem markX_len {m : List Bool} (x : S75) : (markX m x).length = m.length := by
  unfold markX; split <;> simp
theorem roundX_len (l : List S75) : ∀ m : List Bool, (roundX l m).length = m.length := by
  unfold roundX
  induction l with
  | nil => intro m; rfl
  | cons x l ih => intro m; rw [List.foldl_cons, ih, markX_len]
theorem mk_markX {m : List Bool} (hm : m.length = 6) (x : S75) (q : Int) (hq : roleB q = true) : mkR (markX m x) q = (mkR m q || (decide (q = x.f1) && (roleB x.f0 && roleB x.f1 && mkR m x.f0))) := by
  unfold markX
  split
  · rename_i h
    rw [h]
    simp only [Bool.and_eq_true] at h
    rw [mk_set hm h.1.2 q hq, Bool.and_true, Bool.or_comm]
  · rename_i h
    rw [Bool.not_eq_true] at h
    rw [h]; simp
theorem mk_mono_markX {m : List Bool} (hm : m.length = 6) (x : S75) {q : Int} (hq : roleB q = true) (h : mkR m q = true) : mkR (markX m x) q = true := by
  rw [mk_markX hm x q hq, h]; rfl
theorem mk_mono_round (l : List S75) : ∀ {m : List Bool}, m.length = 6 → ∀ {q : Int}, roleB q = true → mkR m q = true → mkR (roundX l m) q = true := by
  unfold roundX
  induction l with
  | nil => intro m hm q hq h; exact h
  | cons x l ih => intro m hm q hq h; exact ih (m := markX m x) (by rw [markX_len]; exact hm) hq (mk_mono_markX hm x hq h)
/-- A round marks what an edge leads to. -/
theorem round_edge (l : List S75) : ∀ {m : List Bool}, m.length = 6 → ∀ {a b : Int}, edgeP l a b → mkR m a = true → mkR (roundX l m) b = true := by
  induction l with
  | nil => rintro m hm a b ⟨x, hx, _⟩; cases hx
  | cons x l ih =>
    rintro m hm a b ⟨y, hy, rfl, rfl, ha, hb⟩ h
    have hl : (markX m x).length = 6 := by rw [markX_len]; exact hm
    change mkR (roundX l (markX m x)) y.f1 = true
    rcases List.mem_cons.1 hy with rfl | hy
    · refine mk_mono_round l hl hb ?_
      rw [mk_markX hm y _ hb, ha, hb, h]; simp
    · exact ih hl ⟨y, hy, rfl, rfl, ha, hb⟩ (mk_mono_markX hm x ha h)
/-- A round marks nothing else. -/
theorem round_sound (l0 : List S75) (P : Int → Prop) (hP : ∀ a b, P a → edgeP l0 a b → P b) (l : List S75) (hl : ∀ x ∈ l, x ∈ l0) : ∀ {m : List Bool}, m.length = 6 → (∀ q, roleB q = true → mkR m q = true → P q) → ∀ q, roleB q = true → mkR (roundX l m) q = true → P q := by
  induction l with
  | nil => intro m hm h q hq hk; exact h q hq hk
  | cons x l ih =>
    intro m hm h
    refine ih (fun y hy => hl y (List.mem_cons_of_mem _ hy)) (m := markX m x) (by rw [markX_len]; exact hm) ?_
    intro q hq hk
    rw [mk_markX hm x q hq, Bool.or_eq_true] at hk
    rcases hk with hk | hk
    · exact h q hq hk
    · simp only [Bool.and_eq_true, decide_eq_true_eq] at hk
      obtain ⟨rfl, ⟨h1, h2⟩, h3⟩ := hk
      exact hP x.f0 x.f1 (h _ h1 h3) ⟨x, hl x List.mem_cons_self, rfl, rfl, h1, h2⟩
def cntB (m : List Bool) : Nat := m.countP id
theorem cnt_set : ∀ (m : List Bool) (i : Nat), cntB m ≤ cntB (m.set i true) ∧ (m[i]? = some false → cntB m < cntB (m.set i true)) := by
  intro m
  induction m with
  | nil => intro i; simp
  | cons b m ih =>
    intro i
    cases i with
    | zero => cases b <;> simp [cntB]
    | succ i =>
      have := ih i
      simp only [List.set_cons_succ, List.getElem?_cons_succ, cntB, List.countP_cons] at this ⊢
      exact ⟨by omega, fun h => by have := this.2 h; omega⟩
theorem cnt_markX (m : List Bool) (hm : m.length = 6) (x : S75) : cntB m ≤ cntB (markX m x) ∧ (markX m x = m ∨ cntB m < cntB (markX m x)) := by
  unfold markX
  split
  · rename_i h
    simp only [Bool.and_eq_true, roleB_iff] at h
    have hlt : x.f1.toNat < m.length := by omega
    refine ⟨(cnt_set m _).1, ?_⟩
    cases hb : m[x.f1.toNat] with
    | true =>
      left
      apply List.ext_getElem?
      intro j
      by_cases e : x.f1.toNat = j
      · subst e; rw [List.getElem?_set_self hlt, List.getElem?_eq_getElem hlt, hb]
      · rw [List.getElem?_set_ne e]
    | false => exact .inr ((cnt_set m _).2 (by rw [List.getElem?_eq_getElem hlt, hb]))
  · exact ⟨Nat.le_refl _, .inl rfl⟩
theorem cnt_round (l : List S75) : ∀ (m : List Bool), m.length = 6 → cntB m ≤ cntB (roundX l m) ∧ (roundX l m = m ∨ cntB m < cntB (roundX l m)) := by
  induction l with
  | nil => intro m hm; exact ⟨Nat.le_refl _, .inl rfl⟩
  | cons x l ih =>
    intro m hm
    obtain ⟨h1, h2⟩ := cnt_markX m hm x
    obtain ⟨h3, h4⟩ := ih (markX m x) (by rw [markX_len]; exact hm)
    change cntB m ≤ cntB (roundX l (markX m x)) ∧ (roundX l (markX m x) = m ∨ cntB m < cntB (roundX l (markX m x)))
    refine ⟨by omega, ?_⟩
    rcases h2 with h2 | h2
    · rw [h2] at h4 ⊢; exact h4
    · right; omega
theorem cnt_le (m : List Bool) : cntB m ≤ m.length := List.countP_le_length
theorem itX_len (l : List S75) : ∀ (n : Nat) (m : List Bool), (itX l n m).length = m.length := by
  intro n
  induction n with
  | zero => intro m; rfl
  | succ n ih => intro m; change (itX l n (roundX l m)).length = _; rw [ih, roundX_len]
theorem itX_fix (l : List S75) : ∀ (n : Nat) (m : List Bool), roundX l m = m → itX l n m = m := by
  intro n
  induction n with
  | zero => intro m _; rfl
  | succ n ih => intro m h; change itX l n (roundX l m) = m; rw [h]; exact ih m h
/-- After so many rounds as there are unmarked ones, and one, nothing changes. -/
theorem itX_closed (l : List S75) : ∀ (n : Nat) (m : List Bool), m.length = 6 → 6 ≤ cntB m + n → roundX l (itX l n m) = itX l n m := by
  intro n
  induction n with
  | zero =>
    intro m hm h
    rcases (cnt_round l m hm).2 with h2 | h2
    · exact h2
    · have := cnt_le (roundX l m); rw [roundX_len] at this; omega
  | succ n ih =>
    intro m hm h
    change roundX l (itX l n (roundX l m)) = itX l n (roundX l m)
    rcases (cnt_round l m hm).2 with h2 | h2
    · rw [h2, itX_fix l n m h2]; exact h2
    · exact ih _ (by rw [roundX_len]; exact hm) (by omega)
theorem itX_sound (l : List S75) (P : Int → Prop) (hP : ∀ a b, P a → edgeP l a b → P b) : ∀ (n : Nat) (m : List Bool), m.length = 6 → (∀ q, roleB q = true → mkR m q = true → P q) → ∀ q, roleB q = true → mkR (itX l n m) q = true → P q := by
  intro n
  induction n with
  | zero => intro m _ h; exact h
  | succ n ih => intro m hm h; exact ih _ (by rw [roundX_len]; exact hm) (round_sound l P hP l (fun _ h => h) hm h)
theorem itX_mono (l : List S75) : ∀ (n : Nat) (m : List Bool), m.length = 6 → ∀ q, roleB q = true → mkR m q = true → mkR (itX l n m) q = true := by
  intro n
  induction n with
  | zero => intro m _ q _ h; exact h
  | succ n ih => intro m hm q hq h; exact ih _ (by rw [roundX_len]; exact hm) q hq (mk_mono_round l hm hq h)
def closX (l : List S75) (role : Int) : List Bool := itX l 6 ((List.replicate 6 false).set role.toNat true)
theorem mk_start {role : Int} (hr : roleB role = true) (q : Int) (hq : roleB q = true) : mkR ((List.replicate 6 false).set role.toNat true) q = decide (q = role) := by
  rw [mk_set (by simp) hr q hq]
  have : mkR (List.replicate 6 false) q = false := by
    unfold mkR
    rw [List.getD_eq_getElem?_getD, List.getElem?_replicate]
    split <;> rfl
  rw [this, Bool.or_false]
theorem closX_iff (l : List S75) {role : Int} (hr : roleB role = true) {q : Int} (hq : roleB q = true) : mkR (closX l role) q = true ↔ Rch l role q := by
  have hl : ((List.replicate 6 false).set role.toNat true).length = 6 := by simp
  constructor
  · exact itX_sound l (Rch l role) (fun a b h e => .step h e) 6 _ hl (fun q hq h => by
      rw [mk_start hr q hq, decide_eq_true_eq] at h; subst h; exact .refl) q hq
  · intro h
    have hc : roundX l (closX l role) = closX l role := itX_closed l 6 _ hl (by omega)
    have h6 : (closX l role).length = 6 := by unfold closX; rw [itX_len]; exact hl
    have key : roleB q = true ∧ mkR (closX l role) q = true := by
      clear hq
      induction h with
      | refl => exact ⟨hr, itX_mono l 6 _ hl _ hr (by rw [mk_start hr _ hr]; simp)⟩
      | step h e ih =>
        have := round_edge l h6 e ih.2
        rw [hc] at this
        obtain ⟨x, _, _, _, _, hb⟩ := e
        exact ⟨hb, this⟩
    exact key.2

theorem visX_len (a : Int) (s : List Bool × List Int) (x : S75) : (visX a s x).1.length = s.1.length := by
  unfold visX; split <;> simp
theorem popX_len (l : List S75) (a : Int) : ∀ s : List Bool × List Int, (popX l a s).1.length = s.1.length := by
  unfold popX
  induction l with
  | nil => intro s; rfl
  | cons x l ih => intro s; rw [List.foldl_cons, ih, visX_len]
theorem cnt_set_lt {m : List Bool} {r : Int} (hm : m.length = 6) (hr : roleB r = true) (h : mkR m r = false) : cntB (m.set r.toNat true) = cntB m + 1 := by
  rw [roleB_iff] at hr
  have hlt : r.toNat < m.length := by omega
  have hb : m[r.toNat] = false := by
    unfold mkR at h; rw [List.getD_eq_getElem?_getD, List.getElem?_eq_getElem hlt] at h; exact h
  have key : ∀ (m : List Bool) (i : Nat), m[i]? = some false → cntB (m.set i true) = cntB m + 1 := by
    intro m
    induction m with
    | nil => intro i h; simp at h
    | cons b m ih =>
      intro i h
      cases i with
      | zero => simp at h; subst h; simp [cntB]
      | succ i =>
        have := ih i (by simpa using h)
        simp only [List.set_cons_succ, cntB, List.countP_cons] at this ⊢
        omega
  exact key m _ (by rw [List.getElem?_eq_getElem hlt, hb])
/-- What one visit does: what is marked stays, all is told. -/
structure VisOk (l0 : List S75) (a : Int) (s t : List Bool × List Int) : Prop where
  len : t.1.length = 6
  sum : t.2.length + (6 - cntB t.1) = s.2.length + (6 - cntB s.1)
  le : cntB s.1 ≤ cntB t.1
  mono : ∀ q, roleB q = true → mkR s.1 q = true → mkR t.1 q = true
  old : ∀ q, q ∈ s.2 → q ∈ t.2
  new : ∀ q, roleB q = true → mkR t.1 q = true → mkR s.1 q = true ∨ (q ∈ t.2 ∧ edgeP l0 a q)
  newq : ∀ q, q ∈ t.2 → q ∈ s.2 ∨ edgeP l0 a q
theorem VisOk.rfl' {l0 : List S75} {a : Int} {s : List Bool × List Int} (h : s.1.length = 6) : VisOk l0 a s s := ⟨h, rfl, Nat.le_refl _, fun _ _ h => h, fun _ h => h, fun _ _ h => .inl h, fun _ h => .inl h⟩
theorem vis_ok (l0 : List S75) (a : Int) (ha : roleB a = true) (s : List Bool × List Int) (h : s.1.length = 6) (x : S75) (hx : x ∈ l0) : VisOk l0 a s (visX a s x) := by
  unfold visX
  split
  · rename_i hc
    obtain ⟨h1, h2, h3⟩ := hc
    have e : edgeP l0 a x.f1 := ⟨x, hx, h1, rfl, ha, h2⟩
    have hcn := cnt_set_lt h h2 h3
    have hle := cnt_le (s.1.set x.f1.toNat true)
    rw [List.length_set] at hle
    refine ⟨by simp [h], ?_, by rw [hcn]; omega, fun q hq hm => ?_, fun q hq => List.mem_append_left _ hq, fun q hq hm => ?_, fun q hq => ?_⟩
    · simp only [List.length_append, List.length_singleton, hcn]; omega
    · show mkR (s.1.set _ true) q = true
      rw [mk_set h h2 q hq, hm, Bool.or_true]
    · rw [show (s.1.set x.f1.toNat true, s.2 ++ [x.f1]).1 = s.1.set x.f1.toNat true from rfl, mk_set h h2 q hq, Bool.or_eq_true, decide_eq_true_eq] at hm
      rcases hm with rfl | hm
      · exact .inr ⟨by simp, e⟩
      · exact .inl hm
    · rcases List.mem_append.1 hq with hq | hq
      · exact .inl hq
      · rw [List.mem_singleton.1 hq]; exact .inr e
  · exact VisOk.rfl' h
theorem VisOk.trans {l0 : List S75} {a : Int} {s t u : List Bool × List Int} (h1 : VisOk l0 a s t) (h2 : VisOk l0 a t u) : VisOk l0 a s u :=
  ⟨h2.len, h2.sum.trans h1.sum, Nat.le_trans h1.le h2.le, fun q hq h => h2.mono q hq (h1.mono q hq h), fun q h => h2.old q (h1.old q h),
    fun q hq h => by
      rcases h2.new q hq h with h | h
      · rcases h1.new q hq h with h | ⟨h, e⟩
        · exact .inl h
        · exact .inr ⟨h2.old q h, e⟩
      · exact .inr h,
    fun q h => by
      rcases h2.newq q h with h | h
      · exact h1.newq q h
      · exact .inr h⟩
theorem pop_ok (l0 : List S75) (a : Int) (ha : roleB a = true) (l : List S75) (hl : ∀ x ∈ l, x ∈ l0) : ∀ (s : List Bool × List Int), s.1.length = 6 → VisOk l0 a s (popX l a s) ∧ ∀ x ∈ l, x.f0 = a → roleB x.f1 = true → mkR (popX l a s).1 x.f1 = true := by
  unfold popX
  induction l with
  | nil => intro s h; exact ⟨VisOk.rfl' h, by intro x hx; cases hx⟩
  | cons x l ih =>
    intro s h
    have h1 := vis_ok l0 a ha s h x (hl x List.mem_cons_self)
    obtain ⟨h2, h3⟩ := ih (fun y hy => hl y (List.mem_cons_of_mem _ hy)) (visX a s x) h1.len
    refine ⟨h1.trans h2, fun y hy e1 e2 => ?_⟩
    rw [List.foldl_cons]
    rcases List.mem_cons.1 hy with rfl | hy
    · refine h2.mono _ e2 ?_
      unfold visX
      split
      · rw [show (s.1.set y.f1.toNat true, s.2 ++ [y.f1]).1 = s.1.set y.f1.toNat true from rfl, mk_set h e2 _ e2]; simp
      · rename_i hc
        cases hmk : mkR s.1 y.f1 with
        | true => rfl
        | false => exact absurd ⟨e1, e2, hmk⟩ hc
    · exact h3 y hy e1 e2
theorem bfsX_nil (l : List S75) (role : Int) (k : Nat) (m : List Bool) (hk : 0 < k) (hm : m.length = 6) (hs : ∀ q, roleB q = true → mkR m q = true → RchP l role q) (hc : ∀ a, (a = role ∨ roleB a = true ∧ mkR m a = true) → a ∈ ([] : List Int) ∨ ∀ b, edgeP l a b → mkR m b = true) :
    ∃ r, bfsX l k [] m = some r ∧ r.length = 6 ∧ ∀ q, roleB q = true → (mkR r q = true ↔ RchP l role q) := by
  obtain ⟨k, rfl⟩ : ∃ j, k = j + 1 := ⟨k - 1, by omega⟩
  refine ⟨m, rfl, hm, fun q hq => ⟨hs q hq, ?_⟩⟩
  rintro ⟨b, e, h⟩
  have h0 : mkR m b = true := (hc role (.inl rfl)).elim (fun h => absurd h (by simp)) (fun h => h b e)
  have key : mkR m q = true := by
    clear hq
    induction h with
    | refl => exact h0
    | step h e2 ih =>
      obtain ⟨x, _, _, _, hb, _⟩ := id e2
      exact (hc _ (.inr ⟨hb, ih⟩)).elim (fun h => absurd h (by simp)) (fun h => h _ e2)
  exact key
/-- What the search says of a role: all that it comes to by one pair or more. -/
theorem bfsX_spec (l : List S75) (role : Int) (hr : roleB role = true) : ∀ (d k : Nat) (todo : List Int) (m : List Bool), m.length = 6 → todo.length + (6 - cntB m) ≤ d → d < k →
    (∀ q ∈ todo, roleB q = true ∧ Rch l role q) → (∀ q, roleB q = true → mkR m q = true → RchP l role q) → (∀ a, (a = role ∨ roleB a = true ∧ mkR m a = true) → a ∈ todo ∨ ∀ b, edgeP l a b → mkR m b = true) →
    ∃ r, bfsX l k todo m = some r ∧ r.length = 6 ∧ ∀ q, roleB q = true → (mkR r q = true ↔ RchP l role q) := by
  intro d
  induction d with
  | zero =>
    intro k todo m hm hd hk ht hs hc
    cases todo with
    | cons a rest => simp at hd
    | nil => exact bfsX_nil l role k m (by omega) hm hs hc
  | succ d ih =>
    intro k todo m hm hd hk ht hs hc
    cases todo with
    | nil => exact bfsX_nil l role k m (by omega) hm hs hc
    | cons a rest =>
      obtain ⟨k, rfl⟩ : ∃ j, k = j + 1 := ⟨k - 1, by omega⟩
      obtain ⟨ha, hra⟩ := ht a List.mem_cons_self
      obtain ⟨ok, hall⟩ := pop_ok l a ha l (fun _ h => h) (m, rest) hm
      refine ih k _ _ ok.len (by have := ok.sum; simp only [List.length_cons] at hd this ⊢; omega) (by omega) (fun q hq => ?_) (fun q hq hmq => ?_) (fun b hb => ?_)
      · rcases ok.newq q hq with h | h
        · exact ht q (List.mem_cons_of_mem _ h)
        · obtain ⟨x, _, _, _, _, hb⟩ := id h
          exact ⟨hb, .step hra h⟩
      · rcases ok.new q hq hmq with h | ⟨_, h⟩
        · exact hs q hq h
        · rcases Rch_iff.1 hra with rfl | h2
          · exact ⟨q, h, .refl⟩
          · exact h2.step h
      · have hmono : ∀ c, mkR m c = true → roleB c = true → mkR (popX l a (m, rest)).1 c = true := fun c h hcr => ok.mono c hcr h
        have edgeR : ∀ {c e : Int}, edgeP l c e → roleB e = true := fun ⟨_, _, _, _, _, h⟩ => h
        by_cases hba : b = a
        · subst hba
          right
          rintro c ⟨x, hx, e1, e2, _, hcr⟩
          subst e2
          exact hall x hx e1 hcr
        · have hold : b = role ∨ roleB b = true ∧ mkR m b = true ∨ b ∈ (popX l a (m, rest)).2 := by
            rcases hb with rfl | ⟨h1, h2⟩
            · exact .inl rfl
            · rcases ok.new b h1 h2 with h | ⟨h, _⟩
              · exact .inr (.inl ⟨h1, h⟩)
              · exact .inr (.inr h)
          rcases hold with h | h | h
          · rcases hc b (.inl h) with h3 | h3
            · rcases List.mem_cons.1 h3 with h3 | h3
              · exact absurd h3 hba
              · exact .inl (ok.old b h3)
            · exact .inr fun c e => hmono c (h3 c e) (edgeR e)
          · rcases hc b (.inr h) with h3 | h3
            · rcases List.mem_cons.1 h3 with h3 | h3
              · exact absurd h3 hba
              · exact .inl (ok.old b h3)
            · exact .inr fun c e => hmono c (h3 c e) (edgeR e)
          · exact .inl h
theorem below_spec (l : List S75) (role : Int) (hr : roleB role = true) (k : Nat) (hk : 8 ≤ k) : ∃ r, bfsX l k [role] (List.replicate 6 false) = some r ∧ r.length = 6 ∧ ∀ q, roleB q = true → (mkR r q = true ↔ RchP l role q) := by
  have h0 : ∀ q, mkR (List.replicate 6 false) q = false := by
    intro q
    unfold mkR
    rw [List.getD_eq_getElem?_getD, List.getElem?_replicate]
    split <;> rfl
  refine bfsX_spec l role hr 7 k [role] _ (by simp) (by simp; omega) (by omega) (fun q hq => ?_) (fun q _ h => ?_) (fun a ha => ?_)
  · rw [List.mem_singleton.1 hq]; exact ⟨hr, .refl⟩
  · rw [h0] at h; cases h
  · rcases ha with rfl | ⟨_, h⟩
    · exact .inl (by simp)
    · rw [h0] at h; cases h
def hasI (l : List Int) (a : Int) : Bool := l.any (fun x => decide (a = x))
def underB (a b : List Int) : Bool := !(a.any fun x => !hasI b x)
/-- The roles under a role. -/
def outV (m : List Bool) : List Int := [0, 1, 2, 3, 4, 5].filter (fun r => mkR m r)
def rolesV (l : List S75) (role : Int) : List Int := if inB role 0 5 = true then outV (closX l role) else []
def pairP (l : List S75) (x : S75) : Bool := roleB x.f0 && (roleB x.f1 && !hasI (rolesV l x.f1) x.f0)
def pairsB (l : List S75) : Bool := l.all (pairP l) && decide ((l.length : Int) ≤ 10)
theorem roleB_in (n : Int) : inB n 0 5 = roleB n := rfl
theorem has_out (m : List Bool) (r : Int) (hr : roleB r = true) : hasI (outV m) r = mkR m r := by
  have h := roleB_iff.1 hr
  unfold hasI outV
  rw [Bool.eq_iff_iff, List.any_eq_true]
  constructor
  · rintro ⟨x, hx, he⟩
    rw [of_decide_eq_true he]
    exact (List.mem_filter.1 hx).2
  · intro hm
    exact ⟨r, List.mem_filter.2 ⟨by rcases (by omega : r = 0 ∨ r = 1 ∨ r = 2 ∨ r = 3 ∨ r = 4 ∨ r = 5) with rfl | rfl | rfl | rfl | rfl | rfl <;> simp, hm⟩, decide_eq_true rfl⟩
theorem has_roles (l : List S75) (a b : Int) (ha : roleB a = true) (hb : roleB b = true) : hasI (rolesV l b) a = mkR (closX l b) a := by
  unfold rolesV
  rw [roleB_in, if_pos hb, has_out _ _ ha]
/-- No role leads to itself: told by any of its pairs alike. -/
theorem pairs_alike (l : List S75) (p : S75 → Bool) (hp : ∀ x, p x = true ↔ roleB x.f0 = true ∧ roleB x.f1 = true ∧ ¬ RchP l x.f0 x.f0) : l.all p = l.all (pairP l) := by
  have hq : ∀ x, pairP l x = true ↔ roleB x.f0 = true ∧ roleB x.f1 = true ∧ ¬ Rch l x.f1 x.f0 := by
    intro x
    unfold pairP
    simp only [Bool.and_eq_true, Bool.not_eq_true']
    constructor
    · rintro ⟨h1, h2, h3⟩
      refine ⟨h1, h2, fun h => ?_⟩
      rw [has_roles l _ _ h1 h2, (closX_iff l h2 h1).2 h] at h3
      cases h3
    · rintro ⟨h1, h2, h3⟩
      refine ⟨h1, h2, ?_⟩
      rw [has_roles l _ _ h1 h2]
      cases hm : mkR (closX l x.f1) x.f0 with
      | false => rfl
      | true => exact absurd ((closX_iff l h2 h1).1 hm) h3
  rw [Bool.eq_iff_iff, List.all_eq_true, List.all_eq_true]
  constructor
  · intro h x hx
    obtain ⟨h1, h2, h3⟩ := (hp x).1 (h x hx)
    exact (hq x).2 ⟨h1, h2, fun hr => h3 ⟨x.f1, ⟨x, hx, rfl, rfl, h1, h2⟩, hr⟩⟩
  · intro h x hx
    obtain ⟨h1, h2, _⟩ := (hq x).1 (h x hx)
    refine (hp x).2 ⟨h1, h2, ?_⟩
    rintro ⟨b, ⟨y, hy, e1, rfl, _, _⟩, hr⟩
    have := (hq y).1 (h y hy)
    rw [e1] at this
    exact this.2.2 hr
theorem roles_l2 (m : List Bool) (hm : m.length = 6) : ∀ (d : Nat) (r : Nat) (out : List Int), r + d = 6 → out.length ≤ r → Ev (fun k => spec_RolesUnder.l2 k out m (r : Int)) (out ++ (([0, 1, 2, 3, 4, 5] : List Int).drop r).filter (fun r => mkR m r)) := by
  intro d
  induction d with
  | zero =>
    intro r out hr _
    obtain rfl : r = 6 := by omega
    refine Ev.succ ?_
    simp only [spec_RolesUnder.l2]
    refine Ev.neg (by omega) ?_
    simp only [List.drop_succ_cons, List.drop_nil, List.filter_nil, List.append_nil]
    exact Ev.now _
  | succ d ih =>
    intro r out hr ho
    have hd : (([0, 1, 2, 3, 4, 5] : List Int).drop r) = (r : Int) :: (([0, 1, 2, 3, 4, 5] : List Int).drop (r + 1)) := by
      rcases (by omega : r = 0 ∨ r = 1 ∨ r = 2 ∨ r = 3 ∨ r = 4 ∨ r = 5) with rfl | rfl | rfl | rfl | rfl | rfl <;> rfl
    have e : wrap64 ((r : Int) + 1) = ((r + 1 : Nat) : Int) := wr1 (n := 6) (by omega) (by omega)
    have e2 : rdOf false m (r : Int) = mkR m (r : Int) := rfl
    rw [hd, List.filter_cons]
    refine Ev.succ ?_
    simp only [spec_RolesUnder.l2, e, e2]
    refine Ev.pos (by omega) (Ev.pos (by omega) (Ev.pos (by omega) ?_))
    cases mkR m (r : Int) with
    | false => simp only [Bool.false_eq_true, if_false]; exact ih (r + 1) out (by omega) (by omega)
    | true =>
      simp only [if_true]
      refine Ev.pos (by omega) ?_
      have := ih (r + 1) (out ++ [(r : Int)]) (by omega) (by simp; omega)
      rw [List.append_assoc] at this
      exact this
theorem roles_l0 (l : List S75) (h : l.length ≤ 2097152) : ∀ (d n : Nat) (m : List Bool), n + d = 6 → m.length = 6 → Ev (fun k => spec_RolesUnder.l0 k l [] m (n : Int)) (outV (itX l d m)) := by
  intro d
  induction d with
  | zero =>
    intro n m hn hm
    obtain rfl : n = 6 := by omega
    refine Ev.succ ?_
    simp only [spec_RolesUnder.l0]
    refine Ev.neg (by omega) ?_
    exact roles_l2 m hm 6 0 [] rfl (by simp)
  | succ d ih =>
    intro n m hn hm
    have e : wrap64 ((n : Int) + 1) = ((n + 1 : Nat) : Int) := wr1 (n := 6) (by omega) (by omega)
    refine Ev.succ ?_
    simp only [spec_RolesUnder.l0]
    refine Ev.pos (by omega) ?_
    change Ev _ ((fun s => outV (itX l d s)) (l.foldl markX m))
    refine ev_fold l markX (fun s => outV (itX l d s)) (fun _ s => s.length = 6) (fun k s i => spec_RolesUnder.l1 k l [] s (n : Int) i) ?_ ?_ ?_ m hm
    · intro s hs
      refine Ev.succ ?_
      simp only [spec_RolesUnder.l1, Int.lt_irrefl, if_false, e]
      exact ih (n + 1) s (by omega) hs
    · intro i x s _ hs; rw [markX_len]; exact hs
    · intro i x s r hx hs hr
      have hi := lt_of_get hx
      have h1 : ((i : Int) < (l.length : Int)) = True := eq_true (by omega)
      have h2 : (0 ≤ (i : Int)) = True := eq_true (by omega)
      have e3 := wr1 hi (show l.length ≤ 9223372036854775807 by omega)
      refine Ev.succ ?_
      simp only [spec_RolesUnder.l1, h1, h2, if_true, rd_at_T75 hx, spec_l1In_eq, Option.bind_some, roleB_in, e3]
      unfold markX at hr
      cases h5 : roleB x.f0 with
      | false =>
        simp only [Bool.false_eq_true, if_false]
        simp only [h5, Bool.false_and, Bool.false_eq_true, if_false] at hr
        exact hr
      | true =>
        cases h6 : roleB x.f1 with
        | false =>
          simp only [Bool.false_eq_true, if_false, if_true]
          simp only [h5, h6, Bool.false_and, Bool.and_false, Bool.false_eq_true, if_false] at hr
          exact hr
        | true =>
          have h7 := roleB_iff.1 h5
          simp only [if_true]
          simp only [h5, h6, Bool.true_and] at hr
          refine Ev.pos (by omega) (Ev.pos (by omega) ?_)
          have h8 := roleB_iff.1 h6
          have hk : rdOf false s x.f0 = mkR s x.f0 := rfl
          rw [hk]
          cases h9 : mkR s x.f0 with
          | false => simp only [h9, Bool.false_eq_true, if_false] at hr ⊢; exact hr
          | true =>
            simp only [h9, if_true] at hr ⊢
            exact Ev.pos (by omega) (Ev.pos (by omega) hr)
theorem spec_RolesUnder_ev (l : List S75) (role : Int) (h : l.length ≤ 2097152) : Ev (fun k => spec_RolesUnder.f k l role) (rolesV l role) := by
  unfold spec_RolesUnder.f rolesV
  simp only [Option.bind_some, spec_l1In_eq]
  cases hr : inB role 0 5 with
  | false => simp only [Bool.false_eq_true, if_false]; exact Ev.now _
  | true =>
    have h2 := inB_iff.1 hr
    simp only [if_true]
    refine Ev.pos (by omega) (Ev.pos (by simp only [List.length_replicate]; omega) ?_)
    exact roles_l0 l h 6 0 _ rfl (by simp)

-- spec_l13Has
theorem spec_l13Has_ev (l : List Int) (a : Int) (h : l.length ≤ 2097152) : Ev (fun k => spec_l13Has.f k l a) (hasI l a) := by
  unfold spec_l13Has.f hasI
  rw [← idxV_any]
  refine ev_idx l (fun x => decide (a = x)) (fun r => decide (r ≥ 0)) (fun k i => spec_l13Has.l0 k l a i) ?_ ?_
  · refine Ev.succ ?_
    simp only [spec_l13Has.l0, Int.lt_irrefl, if_false]
    exact Ev.now _
  · intro i x hx
    have hi := lt_of_get hx
    have h1 : ((i : Int) < (l.length : Int)) = True := eq_true (by omega)
    have h2 : (0 ≤ (i : Int)) = True := eq_true (by omega)
    constructor
    · intro c r hr
      have c' : ¬ x = a := fun e => of_decide_eq_false c e.symm
      refine Ev.succ ?_
      simp only [spec_l13Has.l0, h1, h2, if_true, rd_nat l i x hx, wr1 hi (by omega), if_neg c']
      exact hr
    · intro c
      have c' : x = a := (of_decide_eq_true c).symm
      refine Ev.succ ?_
      simp only [spec_l13Has.l0, h1, h2, if_true, rd_nat l i x hx, if_pos c', show decide ((i : Int) ≥ 0) = true from decide_eq_true (by omega)]
      exact Ev.now _

-- spec_ArePairs
theorem spec_ArePairs_ev (l : List S75) (h : l.length ≤ 2097152) : Ev (fun k => spec_ArePairs.f k l) (pairsB l) := by
  unfold spec_ArePairs.f pairsB
  have hout : ∀ m, (outV m).length ≤ 2097152 := fun m => by
    unfold outV
    have := List.length_filter_le (fun r => mkR m r) ([0, 1, 2, 3, 4, 5] : List Int)
    simp only [List.length_cons, List.length_nil] at this
    omega
  have hro : ∀ r, (rolesV l r).length ≤ 2097152 := fun r => by
    unfold rolesV
    split
    · exact hout _
    · simp
  have key : ∀ d i : Nat, l.length - i = d → i ≤ l.length → Ev (fun k => spec_ArePairs.l0 k l (i : Int)) ((l.drop i).all (pairP l) && decide ((l.length : Int) ≤ 10)) := by
    intro d
    induction d with
    | zero =>
      intro i hd hi
      obtain rfl : i = l.length := by omega
      refine Ev.succ ?_
      simp only [spec_ArePairs.l0, Int.lt_irrefl, if_false, List.drop_length, List.all_nil, Bool.true_and]
      exact Ev.now _
    | succ d ih =>
      intro i hd hi
      have hi' : i < l.length := by omega
      have hx : l[i]? = some l[i] := List.getElem?_eq_getElem hi'
      have hr := ih (i + 1) (by omega) (by omega)
      rw [List.drop_eq_getElem_cons hi', List.all_cons, Bool.and_assoc]
      generalize l[i] = x at hx ⊢
      have h1 : ((i : Int) < (l.length : Int)) = True := eq_true (by omega)
      have h2 : (0 ≤ (i : Int)) = True := eq_true (by omega)
      have hj : ∀ (b : Bool) r, Ev (fun k => spec_ArePairs.l0 k l ((i + 1 : Nat) : Int)) r → Ev (fun k => if b = true then some false else spec_ArePairs.l0 k l ((i + 1 : Nat) : Int)) (!b && r) := by
        intro b r hr
        cases b with
        | false => exact Ev.neg (by simp) hr
        | true => exact Ev.pos rfl (Ev.now _)
      refine Ev.succ ?_
      simp only [spec_ArePairs.l0, h1, h2, if_true, rd_at_T75 hx, spec_l1In_eq, Option.bind_some, roleB_in, wr1 hi' (show l.length ≤ 9223372036854775807 by omega)]
      unfold pairP
      cases roleB x.f0 with
      | false => simp only [Bool.false_eq_true, if_false]; exact Ev.now _
      | true =>
        cases roleB x.f1 with
        | false => simp only [Bool.false_eq_true, if_false, if_true]; exact Ev.now _
        | true =>
          simp only [if_true, Bool.true_and]
          refine Ev.bind (spec_RolesUnder_ev l x.f1 h) ?_
          refine Ev.bind (spec_l13Has_ev _ x.f0 (hro _)) ?_
          exact hj _ _ hr
  exact Ev.eqv (by rw [List.drop_zero]) (key l.length 0 (by omega) (by omega))

-- spec_l15Left
theorem spec_l15Left_evN (N : Nat) : ∀ (x : S80) (a : Int), n80 x ≤ N → N ≤ 2097152 → 0 ≤ a → a ≤ 2097152 → ∃ r, Ev (fun k => spec_l15Left.f k x.f0 x.f1 x.f2 x.f3 a) r ∧ -1 ≤ r ∧ (1 + (n80 x : Int) ≤ a → r = a - 1 - (n80 x : Int)) ∧ (a < 1 + (n80 x : Int) → r < 0) := by
  induction N using Nat.strongRecOn with
  | _ N ih =>
  intro x a hx hN ha0 ha1
  rw [n80_f] at hx ⊢
  have key : ∀ (d i : Nat) (s : Int), x.f3.length - i = d → i ≤ x.f3.length → -1 ≤ s → s ≤ 2097152 → ∃ r, Ev (fun k => spec_l15Left.l0 k s x.f0 x.f1 x.f2 x.f3 (i : Int)) r ∧ -1 ≤ r ∧ ((((x.f3.drop i).length + ((x.f3.drop i).map n80).sum : Nat) : Int) ≤ s → r = s - (((x.f3.drop i).length + ((x.f3.drop i).map n80).sum : Nat) : Int)) ∧ (s < (((x.f3.drop i).length + ((x.f3.drop i).map n80).sum : Nat) : Int) → r < 0) := by
    intro d
    induction d with
    | zero =>
      intro i s hd hi h0 hs
      obtain rfl : i = x.f3.length := by omega
      rw [List.drop_length, List.length_nil, List.map_nil, List.sum_nil]
      refine ⟨s, Ev.succ ?_, h0, fun _ => by omega, fun h => by omega⟩
      simp only [spec_l15Left.l0, Int.lt_irrefl, if_false]
      exact Ev.now _
    | succ d ih2 =>
      intro i s hd hi h0 hs
      have hi' : i < x.f3.length := by omega
      have hy : x.f3[i]? = some x.f3[i] := List.getElem?_eq_getElem hi'
      have hn := le_sum n80 hy
      rw [List.drop_eq_getElem_cons hi']
      simp only [List.length_cons, List.map_cons, List.sum_cons]
      generalize x.f3[i] = y at hy hn ⊢
      have h1 : ((i : Int) < (x.f3.length : Int)) = True := eq_true (by omega)
      have h2 : (0 ≤ (i : Int)) = True := eq_true (by omega)
      by_cases c : s ≥ 0
      · obtain ⟨r1, e1, r10, r11, r12⟩ := ih (n80 y) (by omega) y s (Nat.le_refl _) (by omega) (by omega) hs
        obtain ⟨r, e, r0, r2, r3⟩ := ih2 (i + 1) r1 (by omega) (by omega) r10 (by
          by_cases q : 1 + (n80 y : Int) ≤ s
          · have := r11 q; omega
          · have := r12 (by omega); omega)
        refine ⟨r, Ev.succ ?_, r0, ?_, ?_⟩
        · simp only [spec_l15Left.l0, h1, h2, if_true, if_pos c, rd_at_T80 hy, wr1 hi' (by omega)]
          exact Ev.bind e1 e
        · intro h
          have q := r11 (by omega)
          have := r2 (by omega)
          omega
        · intro h
          by_cases q : 1 + (n80 y : Int) ≤ s
          · have := r11 q; exact r3 (by omega)
          · have := r12 (by omega); exact r3 (by omega)
      · refine ⟨s, Ev.succ ?_, h0, fun h => by omega, fun _ => by omega⟩
        simp only [spec_l15Left.l0, h1, if_true, if_neg c]
        exact Ev.now _
  obtain ⟨r, e, r0, r1, r2⟩ := key x.f3.length 0 (a - 1) (by omega) (by omega) (by omega) (by omega)
  rw [List.drop_zero] at r1 r2
  refine ⟨r, Ev.succ ?_, r0, fun h => ?_, fun h => ?_⟩
  · simp only [spec_l15Left.f, wr (show (-9223372036854775808 : Int) ≤ a - 1 by omega) (by omega)]
    exact e
  · have := r1 (by omega); omega
  · exact r2 (by omega)

-- spec_ArityOf
-- told elsewhere

-- spec_IsCond
theorem idx_ev {α : Type} (L : Nat → Int → Option Int) (p : α → Bool) : ∀ (l : List α) (i n : Nat), i + l.length = n → Ev (fun k => L k (n : Int)) (-1) →
    (∀ (j : Nat) (x : α) (r : Int), i ≤ j → l[j - i]? = some x → (p x = true → Ev (fun k => L k (j : Int)) (j : Int)) ∧ (p x = false → Ev (fun k => L k ((j + 1 : Nat) : Int)) r → Ev (fun k => L k (j : Int)) r)) → Ev (fun k => L k (i : Int)) (idxV p l (i : Int))
  | [], i, n, hn, h0, _ => by
    simp only [List.length_nil, Nat.add_zero] at hn
    subst hn
    exact h0
  | x :: l, i, n, hn, h0, hs => by
    have h := hs i x (idxV p l ((i : Int) + 1)) (Nat.le_refl _) (by simp)
    unfold idxV
    cases c : p x with
    | true => simp only [if_true]; exact h.1 c
    | false =>
      simp only [Bool.false_eq_true, if_false]
      refine h.2 c ?_
      have := idx_ev L p l (i + 1) n (by simp only [List.length_cons] at hn; omega) h0 (fun j y r hj hy => hs j y r (by omega) (by rw [show j - i = (j - (i + 1)) + 1 by omega]; simpa using hy))
      exact_mod_cast this
theorem impl_InRange_eq (a b c : Int) : impl_InRange.f a b c = some (inB a b c) := by
  unfold impl_InRange.f
  rw [ite_dand]; rfl
theorem node_eq (a b c : Int) (l : List S80) : impl_isNode.f a b c l = spec_l15Node.f a b c l := by
  unfold impl_isNode.f spec_l15Node.f impl_ArityOf.f spec_ArityOf.f
  simp only [impl_InRange_eq, spec_l1In_eq, spec_IsTime_eq, Option.bind_some]
  generalize (l.length : Int) = n
  by_cases h1 : a = 1
  · subst h1; simp [inB, timeB]; (repeat' split) <;> first | rfl | omega | (simp_all; done) | (simp_all; omega) | (rw [Option.some.injEq, Bool.eq_iff_iff]; simp_all; done) | (rw [Option.some.injEq, Bool.eq_iff_iff]; simp_all; omega)
  by_cases h2 : a = 2
  · subst h2; simp [inB, timeB]; (repeat' split) <;> first | rfl | omega | (simp_all; done) | (simp_all; omega) | (rw [Option.some.injEq, Bool.eq_iff_iff]; simp_all; done) | (rw [Option.some.injEq, Bool.eq_iff_iff]; simp_all; omega)
  by_cases h3 : a = 3
  · subst h3; simp [inB, timeB]; (repeat' split) <;> first | rfl | omega | (simp_all; done) | (simp_all; omega) | (rw [Option.some.injEq, Bool.eq_iff_iff]; simp_all; done) | (rw [Option.some.injEq, Bool.eq_iff_iff]; simp_all; omega)
  by_cases h4 : a = 4
  · subst h4; simp [inB, timeB]; (repeat' split) <;> first | rfl | omega | (simp_all; done) | (simp_all; omega) | (rw [Option.some.injEq, Bool.eq_iff_iff]; simp_all; done) | (rw [Option.some.injEq, Bool.eq_iff_iff]; simp_all; omega)
  by_cases h5 : a = 5
  · subst h5; simp [inB, timeB]; (repeat' split) <;> first | rfl | omega | (simp_all; done) | (simp_all; omega) | (rw [Option.some.injEq, Bool.eq_iff_iff]; simp_all; done) | (rw [Option.some.injEq, Bool.eq_iff_iff]; simp_all; omega)
  by_cases h6 : a = 6
  · subst h6; simp [inB, timeB]; (repeat' split) <;> first | rfl | omega | (simp_all; done) | (simp_all; omega) | (rw [Option.some.injEq, Bool.eq_iff_iff]; simp_all; done) | (rw [Option.some.injEq, Bool.eq_iff_iff]; simp_all; omega)
  by_cases h7 : a = 7
  · subst h7; simp [inB, timeB]; (repeat' split) <;> first | rfl | omega | (simp_all; done) | (simp_all; omega) | (rw [Option.some.injEq, Bool.eq_iff_iff]; simp_all; done) | (rw [Option.some.injEq, Bool.eq_iff_iff]; simp_all; omega)
  by_cases h8 : a = 8
  · subst h8; simp [inB, timeB]; (repeat' split) <;> first | rfl | omega | (simp_all; done) | (simp_all; omega) | (rw [Option.some.injEq, Bool.eq_iff_iff]; simp_all; done) | (rw [Option.some.injEq, Bool.eq_iff_iff]; simp_all; omega)
  by_cases h9 : a = 9
  · subst h9; simp [inB, timeB]; (repeat' split) <;> first | rfl | omega | (simp_all; done) | (simp_all; omega) | (rw [Option.some.injEq, Bool.eq_iff_iff]; simp_all; done) | (rw [Option.some.injEq, Bool.eq_iff_iff]; simp_all; omega)
  simp [h1, h2, h3, h4, h5, h6, h7, h8, h9, inB, timeB]; (repeat' split) <;> (try simp only [Option.bind_some]) <;> (repeat' split) <;> first | rfl | omega | (simp_all; done) | (simp_all; omega) | (rw [Option.some.injEq, Bool.eq_iff_iff]; simp_all; done) | (rw [Option.some.injEq, Bool.eq_iff_iff]; simp_all; omega)
theorem node_some (a b c : Int) (l : List S80) : ∃ t, spec_l15Node.f a b c l = some t := by
  have ha : ∃ m, spec_ArityOf.f a = some m := by
    unfold spec_ArityOf.f
    (repeat' split) <;> exact ⟨_, rfl⟩
  obtain ⟨m, hm⟩ := ha
  unfold spec_l15Node.f
  simp only [spec_l1In_eq, spec_IsTime_eq, hm, Option.bind_some]
  (repeat' split) <;> exact ⟨_, rfl⟩
theorem idxV_anyI {α : Type} (q : α → Bool) : ∀ (l : List α) (i : Int), 0 ≤ i → decide (idxV q l i ≥ 0) = l.any q
  | [], i, _ => by simp [idxV]
  | x :: l, i, h => by
    unfold idxV
    rw [List.any_cons]
    cases c : q x with
    | true => simp only [if_true, Bool.true_or]; exact decide_eq_true h
    | false => simp only [Bool.false_eq_true, if_false, Bool.false_or]; exact idxV_anyI q l (i + 1) (by omega)
mutual
def vldC : S80 → Bool
  | ⟨a, b, c, l⟩ => (spec_l15Node.f a b c l).getD false && vldL l
def vldL : List S80 → Bool
  | [] => true
  | x :: l => vldC x && vldL l
end
theorem vldL_eq : ∀ l : List S80, vldL l = l.all vldC
  | [] => by simp [vldL]
  | x :: l => by simp [vldL, vldL_eq l]
theorem vldC_f (x : S80) : vldC x = ((spec_l15Node.f x.f0 x.f1 x.f2 x.f3).getD false && x.f3.all vldC) := by
  cases x
  simp only [vldC, vldL_eq]
def bothV (x : S80) (b : Bool) : Prop := Ev (fun k => spec_l15Valid.f k x.f0 x.f1 x.f2 x.f3) b ∧ Ev (fun k => impl_areNodes.f k x.f0 x.f1 x.f2 x.f3) b
theorem valid_evN (N : Nat) : ∀ x : S80, n80 x ≤ N → N ≤ 2097152 → bothV x (vldC x) := by
  induction N using Nat.strongRecOn with
  | _ N ih =>
  intro x hx hN
  rw [n80_f] at hx
  obtain ⟨t, ht⟩ := node_some x.f0 x.f1 x.f2 x.f3
  have hti := (node_eq x.f0 x.f1 x.f2 x.f3).trans ht
  rw [vldC_f, ht, Option.getD_some]
  cases t with
  | false => exact ⟨Ev.succ (by simp only [spec_l15Valid.f, ht, Option.bind_some, Bool.false_eq_true, if_false, Bool.false_and]; exact Ev.now _), Ev.succ (by simp only [impl_areNodes.f, hti, Option.bind_some, Bool.false_eq_true, if_false, Bool.false_and]; exact Ev.now _)⟩
  | true =>
  have hp : ∀ y ∈ x.f3, bothV y (vldC y) := fun y hy => by
    obtain ⟨i, hi, rfl⟩ := List.getElem_of_mem hy
    have hn := le_sum n80 (List.getElem?_eq_getElem hi)
    exact ih (n80 x.f3[i]) (by omega) _ (Nat.le_refl _) (by omega)
  rw [Bool.true_and]
  refine ⟨Ev.succ ?_, Ev.succ ?_⟩
  · simp only [spec_l15Valid.f, ht, Option.bind_some, if_true]
    have key : ∀ d i : Nat, x.f3.length - i = d → i ≤ x.f3.length → Ev (fun k => spec_l15Valid.l0 k x.f0 x.f1 x.f2 x.f3 (i : Int)) ((x.f3.drop i).all vldC) := by
      intro d
      induction d with
      | zero =>
        intro i hd hi
        obtain rfl : i = x.f3.length := by omega
        refine Ev.succ ?_
        simp only [spec_l15Valid.l0, Int.lt_irrefl, if_false, List.drop_length, List.all_nil]
        exact Ev.now _
      | succ d ih2 =>
        intro i hd hi
        have hi' : i < x.f3.length := by omega
        have hy : x.f3[i]? = some x.f3[i] := List.getElem?_eq_getElem hi'
        have hb := (hp x.f3[i] (List.getElem_mem hi')).1
        rw [List.drop_eq_getElem_cons hi', List.all_cons]
        generalize x.f3[i] = y at hy hb ⊢
        have h1 : ((i : Int) < (x.f3.length : Int)) = True := eq_true (by omega)
        have h2 : (0 ≤ (i : Int)) = True := eq_true (by omega)
        refine Ev.succ ?_
        simp only [spec_l15Valid.l0, h1, h2, if_true, rd_at_T80 hy, wr1 hi' (by omega)]
        refine Ev.bind hb ?_
        cases vldC y with
        | true => simp only [if_true, Bool.true_and]; exact ih2 (i + 1) (by omega) (by omega)
        | false => simp only [Bool.false_eq_true, if_false, Bool.false_and]; exact Ev.now _
    exact Ev.eqv (by rw [List.drop_zero]) (key x.f3.length 0 (by omega) (by omega))
  · simp only [impl_areNodes.f, hti, Option.bind_some, if_true]
    have hI : Ev (fun k => slices_IndexFunc135_132.f k x.f3) (idxV (fun y => !vldC y) x.f3 0) := by
      refine Ev.succ ?_
      simp only [slices_IndexFunc135_132.f]
      refine idx_ev (fun k i => slices_IndexFunc135_132.l0 k x.f3 (x.f3.length : Int) i) (fun y => !vldC y) x.f3 0 x.f3.length (by omega) ?_ ?_
      · refine Ev.succ ?_
        simp only [slices_IndexFunc135_132.l0, Int.lt_irrefl, if_false]
        exact Ev.now _
      · intro j y r _ hy
        rw [Nat.sub_zero] at hy
        have hj := lt_of_get hy
        have h1 : ((j : Int) < (x.f3.length : Int)) = True := eq_true (by omega)
        have h2 : (0 ≤ (j : Int)) = True := eq_true (by omega)
        have hc : Ev (fun k => cl132.f k y.f0 y.f1 y.f2 y.f3) (!vldC y) := by
          refine Ev.succ ?_
          simp only [cl132.f]
          exact Ev.bind (hp y (List.mem_of_getElem? hy)).2 (Ev.now _)
        constructor
        · intro hq
          refine Ev.succ ?_
          simp only [slices_IndexFunc135_132.l0, h1, h2, if_true, rd_at_T80 hy]
          refine Ev.bind hc ?_
          simp only [hq, if_true]
          exact Ev.now _
        · intro hq he
          refine Ev.succ ?_
          simp only [slices_IndexFunc135_132.l0, h1, h2, if_true, rd_at_T80 hy, wr1 hj (by omega)]
          refine Ev.bind hc ?_
          simp only [hq, Bool.false_eq_true, if_false]
          exact he
    have hC : Ev (fun k => slices_ContainsFunc131_132.f k x.f3) (x.f3.any (fun y => !vldC y)) := by
      refine Ev.succ ?_
      simp only [slices_ContainsFunc131_132.f]
      exact Ev.bind hI (Ev.eqv (idxV_anyI (fun y => !vldC y) x.f3 0 (by omega)) (Ev.now _))
    refine Ev.bind hC ?_
    refine Ev.eqv ?_ (Ev.now _)
    simp [List.any_eq_not_all_not]
/-- A condition is in order: not too many nodes, each of them right. -/
def condB (x : S80) : Bool := decide (1 + (n80 x : Int) ≤ 15) && vldC x
theorem spec_IsCond_ev (x : S80) (h : n80 x ≤ 2097152) : Ev (fun k => spec_IsCond.f k x.f0 x.f1 x.f2 x.f3) (condB x) := by
  have hv := (valid_evN _ x (Nat.le_refl _) h).1
  obtain ⟨r, hr, _, r1, r2⟩ := spec_l15Left_evN _ x 15 (Nat.le_refl _) h (by omega) (by omega)
  unfold spec_IsCond.f condB
  by_cases c : 1 + (n80 x : Int) ≤ 15
  · have q := r1 c
    refine Ev.bind hr ?_
    simp only [if_pos (show r ≥ 0 by omega), decide_eq_true c, Bool.true_and]
    exact Ev.bind hv (Ev.now _)
  · have q := r2 (by omega)
    refine Ev.bind hr ?_
    simp only [if_neg (show ¬ r ≥ 0 by omega), decide_eq_false c, Bool.false_and]
    exact Ev.now _

-- spec_IsName
theorem spec_IsName_eq (a : Int) : spec_IsName.f a = some (nameB a) := by
  unfold spec_IsName.f
  rw [spec_l1In_eq]; rfl

-- spec_HasKind
theorem spec_HasKind_eq (a b : Int) : spec_HasKind.f a b = some (kindB a b) := by
  unfold spec_HasKind.f kindB
  rw [spec_IsName_eq, Option.bind_some]
  cases h : nameB a with
  | true => simp only [if_true, name_div h, Bool.true_and]; rfl
  | false => rfl

-- spec_IsRule
def ruleB (r : S82) : Bool := inB r.f0 0 1 && (inB r.f1 (-1) 5 && ((r.f2 == -1 || kindB r.f2 4) && condB r.f3))
def policyB (p : S113) : Bool := inB p.f0 0 999 && (decide ((p.f1.length : Int) ≤ 8) && p.f1.all ruleB)
theorem rule_n (r : S82) : n80 r.f3 ≤ n82 r := by unfold n82; omega
theorem spec_IsRule_ev (r : S82) (h : n82 r ≤ 2097152) : Ev (fun k => spec_IsRule.f k r.f0 r.f1 r.f2 r.f3.f0 r.f3.f1 r.f3.f2 r.f3.f3) (ruleB r) := by
  have hc := spec_IsCond_ev r.f3 (by have := rule_n r; omega)
  unfold spec_IsRule.f ruleB
  simp only [spec_l1In_eq, spec_HasKind_eq, Option.bind_some]
  refine Ev.bifT fun _ => Ev.bifT fun _ => ?_
  by_cases c : r.f2 = -1
  · simp only [if_pos c, beq_iff_eq.2 c, Bool.true_or, Bool.true_and]
    exact Ev.bind hc (Ev.now _)
  · simp only [if_neg c, beq_eq_false_iff_ne.2 c, Bool.false_or]
    exact Ev.bifT fun _ => Ev.bind hc (Ev.now _)

-- spec_IsPolicy
theorem spec_IsPolicy_ev (p : S113) (h : n113 p ≤ 2097152) : Ev (fun k => spec_IsPolicy.f k p.f0 p.f1) (policyB p) := by
  unfold n113 at h
  unfold spec_IsPolicy.f policyB
  have key : ∀ d i : Nat, p.f1.length - i = d → i ≤ p.f1.length → Ev (fun k => spec_IsPolicy.l0 k p.f0 p.f1 (i : Int)) ((p.f1.drop i).all ruleB && (inB p.f0 0 999 && decide ((p.f1.length : Int) ≤ 8))) := by
    intro d
    induction d with
    | zero =>
      intro i hd hi
      obtain rfl : i = p.f1.length := by omega
      refine Ev.succ ?_
      simp only [spec_IsPolicy.l0, Int.lt_irrefl, if_false, List.drop_length, List.all_nil, Bool.true_and, spec_l1In_eq, Option.bind_some]
      exact Ev.bifT fun _ => Ev.now _
    | succ d ih =>
      intro i hd hi
      have hi' : i < p.f1.length := by omega
      have hx : p.f1[i]? = some p.f1[i] := List.getElem?_eq_getElem hi'
      have hr := ih (i + 1) (by omega) (by omega)
      have hn := le_sum n82 hx
      rw [List.drop_eq_getElem_cons hi', List.all_cons, Bool.and_assoc]
      generalize p.f1[i] = x at hx hn ⊢
      have h1 : ((i : Int) < (p.f1.length : Int)) = True := eq_true (by omega)
      have h2 : (0 ≤ (i : Int)) = True := eq_true (by omega)
      refine Ev.succ ?_
      simp only [spec_IsPolicy.l0, h1, h2, if_true, rd_at_T82 hx, wr1 hi' (show p.f1.length ≤ 9223372036854775807 by omega)]
      exact Ev.band (spec_IsRule_ev x (by omega)) fun _ => hr
  refine Ev.eqv ?_ (key p.f1.length 0 (by omega) (by omega))
  rw [List.drop_zero]
  cases p.f1.all ruleB <;> cases inB p.f0 0 999 <;> simp

-- spec_IsEpoch
/-- Each element is in order (p), and with the one ahead of it (q). -/
def adjT {α : Type} (p : α → Bool) (q : α → α → Bool) : α → List α → Bool
  | _, [] => true
  | y, x :: t => p x && (q y x && adjT p q x t)
def adjB {α : Type} (p : α → Bool) (q : α → α → Bool) : List α → Bool
  | [] => true
  | x :: t => p x && adjT p q x t
theorem ev_adj {α : Type} (l : List α) (p : α → Bool) (q : α → α → Bool) (fin : Bool) (L : Nat → Int → Option Bool) (hend : Ev (fun k => L k (l.length : Int)) fin)
    (hs0 : ∀ x r, l[0]? = some x → Ev (fun k => L k ((0 + 1 : Nat) : Int)) r → Ev (fun k => L k 0) (p x && r))
    (hs : ∀ (i : Nat) y x r, l[i]? = some y → l[i + 1]? = some x → Ev (fun k => L k ((i + 1 + 1 : Nat) : Int)) r → Ev (fun k => L k ((i + 1 : Nat) : Int)) (p x && (q y x && r))) : Ev (fun k => L k 0) (adjB p q l && fin) := by
  have key : ∀ (d i : Nat) (y : α), l[i]? = some y → l.length - (i + 1) = d → Ev (fun k => L k ((i + 1 : Nat) : Int)) (adjT p q y (l.drop (i + 1)) && fin) := by
    intro d
    induction d with
    | zero =>
      intro i y hy hd
      have hi := lt_of_get hy
      have e : i + 1 = l.length := by omega
      rw [e, List.drop_length]
      exact hend
    | succ d ih =>
      intro i y hy hd
      have hi : i + 1 < l.length := by omega
      have hx : l[i + 1]? = some l[i + 1] := List.getElem?_eq_getElem hi
      have h := hs i y l[i + 1] _ hy hx (ih (i + 1) l[i + 1] hx (by omega))
      rw [List.drop_eq_getElem_cons hi]
      simp only [adjT, Bool.and_assoc]
      exact h
  cases l with
  | nil => exact hend
  | cons x t =>
    have h := hs0 x _ rfl (key _ 0 x rfl rfl)
    simp only [adjB, Bool.and_assoc]
    exact h
theorem wrp {i n : Nat} (h : i + 1 < n) (hn : n ≤ 9223372036854775807) : wrap64 (((i + 1 : Nat) : Int) - 1) = (i : Int) := by rw [wr (by omega) (by omega)]; omega
def epochB (e : S115) : Bool := inB e.f0 0 999 && (timeB e.f1 && (pairsB e.f2 && (policyB e.f3 && (e.f3.f0 == e.f0))))
def epochQ (y x : S115) : Bool := !decide (y.f0 ≥ x.f0) && !decide (y.f1 > x.f1)
def epochsB (l : List S115) : Bool := adjB epochB epochQ l && decide ((l.length : Int) ≤ 6)
theorem epochQ_step {y x : S115} {g : Nat → Option Bool} {r : Bool} (h : epochQ y x = true → Ev g r) : Ev (fun k => if y.f0 ≥ x.f0 then some false else if y.f1 > x.f1 then some false else g k) (epochQ y x && r) := by
  unfold epochQ at h ⊢
  rw [Bool.and_assoc]
  exact Ev.dnot fun a => Ev.dnot fun b => h (by rw [decide_eq_false a, decide_eq_false b]; rfl)
theorem spec_IsEpoch_ev (e : S115) (h : n115 e ≤ 2097152) : Ev (fun k => spec_IsEpoch.f k e.f0 e.f1 e.f2 e.f3.f0 e.f3.f1) (epochB e) := by
  unfold n115 at h
  unfold spec_IsEpoch.f epochB
  simp only [spec_l1In_eq, spec_IsTime_eq, Option.bind_some]
  exact Ev.bifT fun _ => Ev.bifT fun _ => Ev.band (spec_ArePairs_ev e.f2 (by omega)) fun _ => Ev.band (spec_IsPolicy_ev e.f3 (by omega)) fun _ => Ev.now _

-- spec_AreEpochs
theorem spec_AreEpochs_ev (l : List S115) (h : l.length + (l.map n115).sum ≤ 2097152) : Ev (fun k => spec_AreEpochs.f k l) (epochsB l) := by
  unfold spec_AreEpochs.f epochsB
  refine ev_adj l epochB epochQ _ (fun k i => spec_AreEpochs.l0 k l i) ?_ ?_ ?_
  · refine Ev.succ ?_
    simp only [spec_AreEpochs.l0, Int.lt_irrefl, if_false]
    exact Ev.now _
  · intro x r hx hr
    have hi := lt_of_get hx
    have h1 : ((0 : Int) < (l.length : Int)) = True := eq_true (by omega)
    have e := rd_at_T115 hx
    have e2 := wr1 hi (show l.length ≤ 9223372036854775807 by omega)
    simp only [Int.ofNat_zero, Int.natCast_zero] at e e2
    refine Ev.succ ?_
    simp only [spec_AreEpochs.l0, h1, if_true, Int.le_refl, gt_iff_lt, Int.lt_irrefl, if_false, e, e2, Option.bind_some]
    exact Ev.band (spec_IsEpoch_ev x (by have := le_sum n115 hx; omega)) fun _ => hr
  · intro i y x r hy hx hr
    have hi := lt_of_get hx
    have h1 : (((i + 1 : Nat) : Int) < (l.length : Int)) = True := eq_true (by omega)
    have h2 : (0 ≤ ((i + 1 : Nat) : Int)) = True := eq_true (by omega)
    have h3 : (((i + 1 : Nat) : Int) > 0) = True := eq_true (by omega)
    have h4 : (0 ≤ (i : Int)) = True := eq_true (by omega)
    have h5 : ((i : Int) < (l.length : Int)) = True := eq_true (by omega)
    refine Ev.succ ?_
    simp only [spec_AreEpochs.l0, h1, h2, h3, h4, h5, if_true, rd_at_T115 hx, rd_at_T115 hy, wr1 hi (show l.length ≤ 9223372036854775807 by omega), wrp hi (show l.length ≤ 9223372036854775807 by omega), Option.bind_some]
    exact Ev.band (spec_IsEpoch_ev x (by have := le_sum n115 hx; omega)) fun _ => epochQ_step fun _ => hr

-- spec_NewestNumber
def newestV (l : List S115) : Int := (spec_NewestNumber.f l).getD 0
theorem newest_eq (l : List S115) (h : l.length ≤ 2097152) : spec_NewestNumber.f l = some (newestV l) := by
  have : ∃ v, spec_NewestNumber.f l = some v := by
    unfold spec_NewestNumber.f
    by_cases c : (l.length : Int) = 0
    · exact ⟨_, if_pos c⟩
    · have w : wrap64 ((l.length : Int) - 1) = (l.length : Int) - 1 := wr (by omega) (by omega)
      rw [if_neg c, w, if_pos (by omega), if_pos (by omega)]
      exact ⟨_, rfl⟩
  obtain ⟨v, hv⟩ := this
  unfold newestV
  rw [hv]
  rfl
/-- The epoch that is put at a list's end. -/
def pubE (l : List S115) (p : List S75) (q : List S82) (a : Int) : S115 := ⟨wrap64 (newestV l + 1), a, p, ⟨wrap64 (newestV l + 1), q⟩⟩
def pubL (l : List S115) (e : S115) : List S115 := if l.length + 1 > 6 then (l ++ [e]).drop 1 else l ++ [e]
def publishV (l : List S115) (p : List S75) (q : List S82) (a : Int) : List S115 × Bool :=
  if epochsB l = true ∧ epochsB (pubL l (pubE l p q a)) = true then (pubL l (pubE l p q a), true) else (l, false)
theorem pubE_n (l : List S115) (p : List S75) (q : List S82) (a : Int) : n115 (pubE l p q a) = p.length + (q.length + (q.map n82).sum) := rfl
theorem pubL_n (l : List S115) (e : S115) : (pubL l e).length + ((pubL l e).map n115).sum ≤ l.length + (l.map n115).sum + 1 + n115 e := by
  unfold pubL
  split
  · cases l with
    | nil => simp
    | cons y l => simp only [List.cons_append, List.drop_one, List.tail_cons, List.length_append, List.length_cons, List.length_nil, List.map_append, List.map_cons, List.map_nil, List.sum_append, List.sum_cons, List.sum_nil]; omega
  · simp only [List.length_append, List.length_cons, List.length_nil, List.map_append, List.map_cons, List.map_nil, List.sum_append, List.sum_cons, List.sum_nil]; omega
theorem publish_n (l : List S115) (p : List S75) (q : List S82) (a : Int) : (publishV l p q a).1.length + ((publishV l p q a).1.map n115).sum ≤ l.length + (l.map n115).sum + 1 + (p.length + (q.length + (q.map n82).sum)) := by
  have h := pubL_n l (pubE l p q a)
  rw [pubE_n] at h
  unfold publishV
  split
  · exact h
  · simp only []; omega
theorem spec_NewestNumber_eq (l : List S115) (h : l.length ≤ 2097152) : spec_NewestNumber.f l = some (newestV l) := newest_eq l h

-- spec_PublishEpoch
theorem spec_PublishEpoch_ev (l : List S115) (p : List S75) (q : List S82) (a : Int) (h : l.length + (l.map n115).sum + 1 + (p.length + (q.length + (q.map n82).sum)) ≤ 2097152) : Ev (fun k => spec_PublishEpoch.f k l p q a) (publishV l p q a) := by
  have hn : ∀ x ∈ l, n115 x ≤ 2097152 := fun x hx => by
    obtain ⟨j, hj⟩ := List.getElem?_of_mem hx
    have := le_sum n115 hj
    omega
  have he : n115 (pubE l p q a) ≤ 2097152 := by rw [pubE_n]; omega
  have ha := spec_AreEpochs_ev l (by omega)
  have ho := spec_AreEpochs_ev (pubL l (pubE l p q a)) (by have := pubL_n l (pubE l p q a); rw [pubE_n] at this; omega)
  have hc := spec_l24All_ev l (by omega) hn
  unfold spec_PublishEpoch.f publishV
  simp only [spec_NewestNumber_eq l (by omega), Option.bind_some]
  refine Ev.bind ha ?_
  by_cases hb : epochsB l = true
  · simp only [if_pos hb, hb, true_and]
    refine Ev.bind hc (Ev.bind (spec_l24Copy_ev (pubE l p q a) he) ?_)
    generalize pubE l p q a = E at ho ⊢
    obtain ⟨e0, e1, e2, e3, e4⟩ := E
    simp only []
    generalize (⟨e0, e1, e2, ⟨e3, e4⟩⟩ : S115) = E at ho ⊢
    have hl2 : (l ++ [E]).length = l.length + 1 := by simp
    refine Ev.pos (by omega) ?_
    by_cases c : l.length + 1 > 6
    · have eP : pubL l E = (l ++ [E]).drop 1 := if_pos c
      rw [eP] at ho ⊢
      refine Ev.pos (by omega) (Ev.pos (by omega) (Ev.bind ho ?_))
      by_cases b : epochsB ((l ++ [E]).drop 1) = true
      · simp only [if_pos b]; exact Ev.now _
      · simp only [if_neg b]; exact Ev.bind hc (Ev.now _)
    · have eP : pubL l E = l ++ [E] := if_neg c
      rw [eP] at ho ⊢
      refine Ev.neg (by omega) (Ev.bind ho ?_)
      by_cases b : epochsB (l ++ [E]) = true
      · simp only [if_pos b]; exact Ev.now _
      · simp only [if_neg b]; exact Ev.bind hc (Ev.now _)
  · have er : (if epochsB l = true ∧ epochsB (pubL l (pubE l p q a)) = true then (pubL l (pubE l p q a), true) else (l, false)) = (l, false) := if_neg (fun x => hb x.1)
    rw [er]
    simp only [if_neg hb]
    exact Ev.bind hc (Ev.now _)

-- spec_CenterPublish
theorem spec_CenterPublish_ev (x : S40) (p : List S75) (q : List S82) (a : Int) (h : n40 x + 1 + (p.length + (q.length + (q.map n82).sum)) ≤ 2097152) : Ev (fun k => spec_CenterPublish.f k x.f0 x.f1 x.f2 x.f3 x.f4 x.f5 p q a) (x.f0, (publishV x.f1 p q a).1, x.f2, x.f3, x.f4, x.f5, (publishV x.f1 p q a).2) := by
  have hx := h
  unfold n40 at hx
  unfold spec_CenterPublish.f
  exact Ev.bind (spec_l28Copy_ev x (by omega)) (Ev.bind (spec_PublishEpoch_ev x.f1 p q a (by omega)) (Ev.now _))

-- impl_copyCond
theorem copyI_evN (N : Nat) : ∀ x : S80, n80 x ≤ N → N ≤ 2097152 → Ev (fun k => impl_copyCond.f k x.f0 x.f1 x.f2 x.f3) (x.f0, x.f1, x.f2, x.f3) := by
  induction N using Nat.strongRecOn with
  | _ N ih =>
  intro x h hN
  rw [n80_f] at h
  refine Ev.succ ?_
  simp only [impl_copyCond.f]
  have key : ∀ (d i : Nat), x.f3.length - i = d → i ≤ x.f3.length → Ev (fun k => impl_copyCond.l0 k 0 0 0 [] x.f0 x.f1 x.f2 (x.f3.take i) x.f3 (x.f3.length : Int) (i : Int)) (x.f0, x.f1, x.f2, x.f3) := by
    intro d
    induction d with
    | zero =>
      intro i hd hi
      obtain rfl : i = x.f3.length := by omega
      refine Ev.succ ?_
      simp only [impl_copyCond.l0, Int.lt_irrefl, if_false, List.take_length]
      exact Ev.now _
    | succ d ihd =>
      intro i hd hi
      have hi' : i < x.f3.length := by omega
      obtain ⟨y, hy⟩ := getAt (l := x.f3) (i := i) hi'
      have hn := le_sum n80 hy
      have h1 : ((i : Int) < (x.f3.length : Int)) = True := eq_true (by omega)
      have h2 : (0 ≤ (i : Int)) = True := eq_true (by omega)
      have h3 : ((x.f3.take i).length < 2932031007402) = True := eq_true (by rw [List.length_take]; omega)
      have e := ih (n80 y) (by omega) y (Nat.le_refl _) (by omega)
      have e3 : x.f3.take i ++ [y] = x.f3.take (i + 1) := by rw [List.take_add_one, hy]; rfl
      refine Ev.succ ?_
      simp only [impl_copyCond.l0, h1, h2, if_true, rd_at_T80 hy, wr1 hi' (by omega)]
      refine Ev.bind e ?_
      simp only [h3, if_true, eta80, e3]
      exact ihd (i + 1) (by omega) (by omega)
  exact key x.f3.length 0 (by omega) (by omega)
theorem impl_copyCond_ev (x : S80) (h : n80 x ≤ 2097152) : Ev (fun k => impl_copyCond.f k x.f0 x.f1 x.f2 x.f3) (x.f0, x.f1, x.f2, x.f3) := copyI_evN _ x (Nat.le_refl _) h

-- impl_copyRules
theorem impl_copyRules_ev (l : List S82) (h : l.length ≤ 2097152) (hn : ∀ x ∈ l, n80 x.f3 ≤ 2097152) : Ev (fun k => impl_copyRules.f k l) l := by
  unfold impl_copyRules.f
  have key : ∀ (d i : Nat), l.length - i = d → i ≤ l.length → Ev (fun k => impl_copyRules.l0 k (l.take i) l (l.length : Int) (i : Int)) l := by
    intro d
    induction d with
    | zero =>
      intro i hd hi
      obtain rfl : i = l.length := by omega
      refine Ev.succ ?_
      simp only [impl_copyRules.l0, Int.lt_irrefl, if_false, List.take_length]
      exact Ev.now _
    | succ d ihd =>
      intro i hd hi
      have hi' : i < l.length := by omega
      obtain ⟨y, hy⟩ := getAt (l := l) (i := i) hi'
      have h1 : ((i : Int) < (l.length : Int)) = True := eq_true (by omega)
      have h2 : (0 ≤ (i : Int)) = True := eq_true (by omega)
      have h3 : ((l.take i).length < 1954687338268) = True := eq_true (by rw [List.length_take]; omega)
      have e3 : l.take i ++ [y] = l.take (i + 1) := by rw [List.take_add_one, hy]; rfl
      refine Ev.succ ?_
      simp only [impl_copyRules.l0, h1, h2, if_true, rd_at_T82 hy, wr1 hi' (by omega)]
      refine Ev.bind (impl_copyCond_ev y.f3 (hn y (List.mem_of_getElem? hy))) ?_
      simp only [h3, if_true, eta80, e3]
      exact ihd (i + 1) (by omega) (by omega)
  exact key l.length 0 (by omega) (by omega)

-- impl_copyPolicy
theorem impl_copyPolicy_ev (v : Int) (l : List S82) (h : l.length ≤ 2097152) (hn : ∀ x ∈ l, n80 x.f3 ≤ 2097152) : Ev (fun k => impl_copyPolicy.f k v l) (v, l) := by
  unfold impl_copyPolicy.f
  exact Ev.bind (impl_copyRules_ev l h hn) (Ev.now _)

-- impl_copyEpoch
theorem impl_copyEpoch_ev (x : S115) (h : n115 x ≤ 2097152) : Ev (fun k => impl_copyEpoch.f k x.f0 x.f1 x.f2 x.f3.f0 x.f3.f1) (x.f0, x.f1, x.f2, x.f3.f0, x.f3.f1) := by
  obtain ⟨h1, h2, h3⟩ := epN h
  unfold impl_copyEpoch.f
  refine Ev.pos (by omega) ?_
  exact Ev.bind (impl_copyPolicy_ev x.f3.f0 x.f3.f1 h2 h3) (Ev.now _)

-- impl_copyEpochs
theorem impl_copyEpochs_ev (l : List S115) (h : l.length ≤ 2097152) (hn : ∀ x ∈ l, n115 x ≤ 2097152) : Ev (fun k => impl_copyEpochs.f k l) l := by
  unfold impl_copyEpochs.f
  have key : ∀ (d i : Nat), l.length - i = d → i ≤ l.length → Ev (fun k => impl_copyEpochs.l0 k (l.take i) l (l.length : Int) (i : Int)) l := by
    intro d
    induction d with
    | zero =>
      intro i hd hi
      obtain rfl : i = l.length := by omega
      refine Ev.succ ?_
      simp only [impl_copyEpochs.l0, Int.lt_irrefl, if_false, List.take_length]
      exact Ev.now _
    | succ d ihd =>
      intro i hd hi
      have hi' : i < l.length := by omega
      obtain ⟨y, hy⟩ := getAt (l := l) (i := i) hi'
      have h1 : ((i : Int) < (l.length : Int)) = True := eq_true (by omega)
      have h2 : (0 ≤ (i : Int)) = True := eq_true (by omega)
      have h3 : ((l.take i).length < 1954687338268) = True := eq_true (by rw [List.length_take]; omega)
      have e3 : l.take i ++ [y] = l.take (i + 1) := by rw [List.take_add_one, hy]; rfl
      refine Ev.succ ?_
      simp only [impl_copyEpochs.l0, h1, h2, if_true, rd_at_T115 hy, wr1 hi' (by omega)]
      refine Ev.bind (impl_copyEpoch_ev y (hn y (List.mem_of_getElem? hy))) ?_
      simp only [h3, if_true, e3]
      exact ihd (i + 1) (by omega) (by omega)
  exact key l.length 0 (by omega) (by omega)

-- impl_copyFacts
theorem impl_copyFacts_eq (l : List S121) (h : l.length ≤ 2097152) : impl_copyFacts.f l = some l := by
  unfold impl_copyFacts.f
  rw [if_pos (by omega)]; rfl

-- impl_copyCenter
theorem copyCenter_loop_ev (l : List S117) (a : List S115) (b : List S121) (c : List S125) (s : Int) (e : List S129) (h : l.length ≤ 2097152) (hn : ∀ x ∈ l, x.f1.length ≤ 2097152) : Ev (fun k => impl_copyCenter.l0 k [] [] [] [] 0 [] [] a b c s e l (l.length : Int) 0) (l, a, b, c, s, e) := by
  have key : ∀ (d i : Nat), l.length - i = d → i ≤ l.length → Ev (fun k => impl_copyCenter.l0 k [] [] [] [] 0 [] (l.take i) a b c s e l (l.length : Int) (i : Int)) (l, a, b, c, s, e) := by
    intro d
    induction d with
    | zero =>
      intro i hd hi
      obtain rfl : i = l.length := by omega
      refine Ev.succ ?_
      simp only [impl_copyCenter.l0, Int.lt_irrefl, if_false, List.take_length]
      exact Ev.now _
    | succ d ihd =>
      intro i hd hi
      have hi' : i < l.length := by omega
      obtain ⟨y, hy⟩ := getAt (l := l) (i := i) hi'
      have h1 : ((i : Int) < (l.length : Int)) = True := eq_true (by omega)
      have h2 : (0 ≤ (i : Int)) = True := eq_true (by omega)
      have h3 : ((l.take i).length < 3518437208883) = True := eq_true (by rw [List.length_take]; omega)
      have h4 : (0 + y.f1.length ≤ 17592186044416) = True := eq_true (by have := hn y (List.mem_of_getElem? hy); omega)
      have e3 : l.take i ++ [y] = l.take (i + 1) := by rw [List.take_add_one, hy]; rfl
      refine Ev.succ ?_
      simp only [impl_copyCenter.l0, h1, h2, h3, h4, if_true, rd_at_T117 hy, wr1 hi' (by omega), List.nil_append, e3]
      exact ihd (i + 1) (by omega) (by omega)
  exact key l.length 0 (by omega) (by omega)
theorem impl_copyCenter_ev (x : S40) (h : n40 x ≤ 2097152) : Ev (fun k => impl_copyCenter.f k x.f0 x.f1 x.f2 x.f3 x.f4 x.f5) (x.f0, x.f1, x.f2, x.f3, x.f4, x.f5) := by
  obtain ⟨h0, h0', h1, h1', h2, h3, h5⟩ := ctN h
  unfold impl_copyCenter.f
  refine Ev.bind (impl_copyEpochs_ev x.f1 h1 h1') ?_
  simp only [impl_copyFacts_eq x.f2 h2, Option.bind_some, List.nil_append]
  exact Ev.pos (by omega) (Ev.pos (by omega) (copyCenter_loop_ev x.f0 x.f1 x.f2 x.f3 x.f4 x.f5 h0 h0'))

-- impl_NewestNumber
theorem impl_NewestNumber_eq (l : List S115) (h : l.length ≤ 2097152) : impl_NewestNumber.f l = some (newestV l) := newest_eq l h

-- impl_InRange


-- impl_IsTime
theorem impl_IsTime_eq (a : Int) : impl_IsTime.f a = some (timeB a) := by
  unfold impl_IsTime.f
  rw [impl_InRange_eq]; rfl

-- impl_isRole
-- told elsewhere

-- impl_below
theorem popX_len2 (l : List S75) (a : Int) : ∀ s : List Bool × List Int, (popX l a s).2.length ≤ s.2.length + l.length := by
  unfold popX
  induction l with
  | nil => intro s; simp
  | cons x l ih =>
    intro s
    rw [List.foldl_cons]
    have := ih (visX a s x)
    have h : (visX a s x).2.length ≤ s.2.length + 1 := by
      unfold visX; split
      · simp
      · omega
    simp only [List.length_cons]
    omega
theorem isRole_role (a : Int) : impl_isRole.f a = some (roleB a) := by
  unfold impl_isRole.f
  rw [impl_InRange_eq]; rfl
theorem below_in (l : List S75) (hl : l.length ≤ 2097152) (a : Int) (c0 c1 c2 c3 c4 c5 : Bool) (r : Bool × Bool × Bool × Bool × Bool × Bool) : ∀ (d i : Nat) (b0 b1 b2 b3 b4 b5 : Bool) (q : List Int), i + d = l.length → q.length + d ≤ 200000000 →
    (∀ (e0 e1 e2 e3 e4 e5 : Bool) (q' : List Int), popX (l.drop i) a ([b0, b1, b2, b3, b4, b5], q) = ([e0, e1, e2, e3, e4, e5], q') → Ev (fun k => impl_below.l0 k l c0 c1 c2 c3 c4 c5 e0 e1 e2 e3 e4 e5 q') r) →
    Ev (fun k => impl_below.l1 k l c0 c1 c2 c3 c4 c5 b0 b1 b2 b3 b4 b5 q a l (l.length : Int) (i : Int)) r := by
  intro d
  induction d with
  | zero =>
    intro i b0 b1 b2 b3 b4 b5 q hi hq h
    obtain rfl : i = l.length := by omega
    refine Ev.succ ?_
    simp only [impl_below.l1, Int.lt_irrefl, if_false]
    exact h _ _ _ _ _ _ _ (by rw [List.drop_length]; rfl)
  | succ d ih =>
    intro i b0 b1 b2 b3 b4 b5 q hi hq h
    have hil : i < l.length := by omega
    obtain ⟨x, hx⟩ := getAt (l := l) (i := i) hil
    have hd : l.drop i = x :: l.drop (i + 1) := by
      rw [List.drop_eq_getElem_cons hil]
      rw [List.getElem?_eq_getElem hil] at hx
      rw [Option.some.inj hx]
    have h1 : ((i : Int) < (l.length : Int)) = True := eq_true (by omega)
    have h2 : (0 ≤ (i : Int)) = True := eq_true (by omega)
    have h3 : (q.length < 17592186044416) = True := eq_true (by omega)
    have go : ∀ (b0 b1 b2 b3 b4 b5 : Bool) (q2 : List Int), q2.length ≤ q.length + 1 → visX a ([b0, b1, b2, b3, b4, b5], q2) x = ([b0, b1, b2, b3, b4, b5], q2) ∨ True → True := fun _ _ _ _ _ _ _ _ _ => trivial
    clear go
    have keep : visX a ([b0, b1, b2, b3, b4, b5], q) x = ([b0, b1, b2, b3, b4, b5], q) → Ev (fun k => impl_below.l1 k l c0 c1 c2 c3 c4 c5 b0 b1 b2 b3 b4 b5 q a l (l.length : Int) ((i + 1 : Nat) : Int)) r := by
      intro hv
      refine ih (i + 1) _ _ _ _ _ _ q (by omega) (by omega) fun e0 e1 e2 e3 e4 e5 q' he => h _ _ _ _ _ _ _ ?_
      rw [hd]
      show popX (l.drop (i + 1)) a (visX a ([b0, b1, b2, b3, b4, b5], q) x) = _
      rw [hv]; exact he
    have put : ∀ (f0 f1 f2 f3 f4 f5 : Bool), visX a ([b0, b1, b2, b3, b4, b5], q) x = ([f0, f1, f2, f3, f4, f5], q ++ [x.f1]) → Ev (fun k => impl_below.l1 k l c0 c1 c2 c3 c4 c5 f0 f1 f2 f3 f4 f5 (q ++ [x.f1]) a l (l.length : Int) ((i + 1 : Nat) : Int)) r := by
      intro f0 f1 f2 f3 f4 f5 hv
      refine ih (i + 1) _ _ _ _ _ _ _ (by omega) (by rw [List.length_append, List.length_singleton]; omega) fun e0 e1 e2 e3 e4 e5 q' he => h _ _ _ _ _ _ _ ?_
      rw [hd]
      show popX (l.drop (i + 1)) a (visX a ([b0, b1, b2, b3, b4, b5], q) x) = _
      rw [hv]; exact he
    refine Ev.succ ?_
    simp only [impl_below.l1, h1, h2, h3, if_true, rd_at_T75 hx, wr1 hil (by omega), isRole_role, Option.bind_some]
    by_cases ca : x.f0 = a
    · simp only [if_pos ca]
      cases hr : roleB x.f1 with
      | false =>
        simp only [Bool.false_eq_true, if_false, ca, if_true]
        exact keep (by unfold visX; simp [hr])
      | true =>
        have hr' := roleB_iff.1 hr
        have hc : x.f1 = 0 ∨ x.f1 = 1 ∨ x.f1 = 2 ∨ x.f1 = 3 ∨ x.f1 = 4 ∨ x.f1 = 5 := by omega
        rcases hc with e | e | e | e | e | e <;> simp only [e, if_true, Int.reduceEq, if_false] at put ⊢
        · cases b0 with
          | true => simp only [if_true]; exact keep (by unfold visX; simp [mkR, e])
          | false => simp only [Bool.false_eq_true, if_false]; exact put _ _ _ _ _ _ (by unfold visX; simp [mkR, e, ca, roleB])
        · cases b1 with
          | true => simp only [if_true]; exact keep (by unfold visX; simp [mkR, e])
          | false => simp only [Bool.false_eq_true, if_false]; exact put _ _ _ _ _ _ (by unfold visX; simp [mkR, e, ca, roleB])
        · cases b2 with
          | true => simp only [if_true]; exact keep (by unfold visX; simp [mkR, e])
          | false => simp only [Bool.false_eq_true, if_false]; exact put _ _ _ _ _ _ (by unfold visX; simp [mkR, e, ca, roleB])
        · cases b3 with
          | true => simp only [if_true]; exact keep (by unfold visX; simp [mkR, e])
          | false => simp only [Bool.false_eq_true, if_false]; exact put _ _ _ _ _ _ (by unfold visX; simp [mkR, e, ca, roleB])
        · cases b4 with
          | true => simp only [if_true]; exact keep (by unfold visX; simp [mkR, e])
          | false => simp only [Bool.false_eq_true, if_false]; exact put _ _ _ _ _ _ (by unfold visX; simp [mkR, e, ca, roleB])
        · cases b5 with
          | true => simp only [if_true]; exact keep (by unfold visX; simp [mkR, e])
          | false => simp only [Bool.false_eq_true, if_false]; exact put _ _ _ _ _ _ (by unfold visX; simp [mkR, e, ca, roleB])
    · simp only [if_neg ca]
      exact keep (by unfold visX; simp [ca])
theorem below_out (l : List S75) (hl : l.length ≤ 2097152) (c0 c1 c2 c3 c4 c5 r0 r1 r2 r3 r4 r5 : Bool) : ∀ (n : Nat) (q : List Int) (b0 b1 b2 b3 b4 b5 : Bool), q.length + n * 2097152 ≤ 150000000 → bfsX l n q [b0, b1, b2, b3, b4, b5] = some [r0, r1, r2, r3, r4, r5] →
    Ev (fun k => impl_below.l0 k l c0 c1 c2 c3 c4 c5 b0 b1 b2 b3 b4 b5 q) (r0, r1, r2, r3, r4, r5) := by
  intro n
  induction n with
  | zero => intro q b0 b1 b2 b3 b4 b5 hq h; cases h
  | succ n ih =>
    intro q b0 b1 b2 b3 b4 b5 hq h
    cases q with
    | nil =>
      cases h
      refine Ev.succ ?_
      simp only [impl_below.l0, List.length_nil, Int.ofNat_eq_natCast, Int.natCast_zero, gt_iff_lt, Int.lt_irrefl, if_false]
      exact Ev.now _
    | cons a rest =>
      simp only [List.length_cons] at hq
      have h1 : (((a :: rest).length : Int) > 0) = True := eq_true (by simp only [List.length_cons]; omega)
      have h2 : (0 < ((a :: rest).length : Int)) = True := eq_true (by simp only [List.length_cons]; omega)
      have h3 : (1 ≤ ((a :: rest).length : Int)) = True := eq_true (by simp only [List.length_cons]; omega)
      refine Ev.succ ?_
      simp only [impl_below.l0, h1, h2, h3, if_true]
      have hrd : rd (a :: rest) 0 = a := rfl
      have hdr : (a :: rest).drop 1 = rest := rfl
      rw [hrd, hdr]
      refine below_in l hl a c0 c1 c2 c3 c4 c5 _ l.length 0 b0 b1 b2 b3 b4 b5 rest (by omega) (by omega) fun e0 e1 e2 e3 e4 e5 q' he => ?_
      rw [List.drop_zero] at he
      have hp := popX_len2 l a ([b0, b1, b2, b3, b4, b5], rest)
      rw [he] at hp
      simp only at hp
      refine ih q' e0 e1 e2 e3 e4 e5 (by omega) ?_
      have h' : bfsX l n (popX l a ([b0, b1, b2, b3, b4, b5], rest)).2 (popX l a ([b0, b1, b2, b3, b4, b5], rest)).1 = some [r0, r1, r2, r3, r4, r5] := h
      rw [he] at h'
      exact h'
theorem six {r : List Bool} (h : r.length = 6) : ∃ r0 r1 r2 r3 r4 r5, r = [r0, r1, r2, r3, r4, r5] := by
  match r, h with
  | [a, b, c, d, e, f], _ => exact ⟨a, b, c, d, e, f, rfl⟩
theorem impl_below_ev (l : List S75) (hl : l.length ≤ 2097152) (a : Int) (ha : roleB a = true) : ∃ r0 r1 r2 r3 r4 r5, Ev (fun k => impl_below.f k l a) (r0, r1, r2, r3, r4, r5) ∧ bfsX l 8 [a] (List.replicate 6 false) = some [r0, r1, r2, r3, r4, r5] := by
  obtain ⟨r, e, hr, -⟩ := below_spec l a ha 8 (by omega)
  obtain ⟨r0, r1, r2, r3, r4, r5, rfl⟩ := six hr
  exact ⟨r0, r1, r2, r3, r4, r5, below_out l hl _ _ _ _ _ _ _ _ _ _ _ _ 8 [a] _ _ _ _ _ _ (by simp) e, e⟩

-- impl_ArePairs
theorem impl_ArePairs_ev (l : List S75) (h : l.length ≤ 2097152) : Ev (fun k => impl_ArePairs.f k l) (pairsB l) := by
  have hb := fun r hr => below_spec l r hr 8 (by omega)
  have e0 : (l.all (fun x => roleB x.f0 && (roleB x.f1 && !mkR ((bfsX l 8 [x.f0] (List.replicate 6 false)).getD []) x.f0)) && decide ((l.length : Int) ≤ 10)) = pairsB l := by
    rw [pairs_alike l]
    · rfl
    intro x
    simp only [Bool.and_eq_true, Bool.not_eq_true']
    constructor
    · rintro ⟨h1, h2, h3⟩
      obtain ⟨m, e, _, hm⟩ := hb x.f0 h1
      rw [e, Option.getD_some] at h3
      exact ⟨h1, h2, fun hc => by rw [(hm _ h1).2 hc] at h3; cases h3⟩
    · rintro ⟨h1, h2, h3⟩
      obtain ⟨m, e, _, hm⟩ := hb x.f0 h1
      rw [e, Option.getD_some]
      refine ⟨h1, h2, ?_⟩
      cases hc : mkR m x.f0 with
      | false => rfl
      | true => exact absurd ((hm _ h1).1 hc) h3
  rw [← e0]
  unfold impl_ArePairs.f
  have key : ∀ (d i : Nat), i + d = l.length → Ev (fun k => impl_ArePairs.l0 k l l (l.length : Int) (i : Int)) ((l.drop i).all (fun x => roleB x.f0 && (roleB x.f1 && !mkR ((bfsX l 8 [x.f0] (List.replicate 6 false)).getD []) x.f0)) && decide ((l.length : Int) ≤ 10)) := by
    intro d
    induction d with
    | zero =>
      intro i hi
      obtain rfl : i = l.length := by omega
      refine Ev.succ ?_
      simp only [impl_ArePairs.l0, Int.lt_irrefl, if_false, List.drop_length, List.all_nil, Bool.true_and]
      exact Ev.now _
    | succ d ih =>
      intro i hi
      have hil : i < l.length := by omega
      obtain ⟨x, hx⟩ := getAt (l := l) (i := i) hil
      have hd : l.drop i = x :: l.drop (i + 1) := by
        rw [List.drop_eq_getElem_cons hil]
        rw [List.getElem?_eq_getElem hil] at hx
        rw [Option.some.inj hx]
      have h1 : ((i : Int) < (l.length : Int)) = True := eq_true (by omega)
      have h2 : (0 ≤ (i : Int)) = True := eq_true (by omega)
      have ih := ih (i + 1) (by omega)
      rw [hd, List.all_cons]
      refine Ev.succ ?_
      simp only [impl_ArePairs.l0, h1, h2, if_true, rd_at_T75 hx, wr1 hil (by omega), isRole_role, Option.bind_some]
      cases q1 : roleB x.f0 with
      | false => simp only [Bool.false_eq_true, if_false, Bool.false_and]; exact Ev.now _
      | true =>
        cases q2 : roleB x.f1 with
        | false => simp only [Bool.false_eq_true, if_false, if_true, Bool.false_and, Bool.true_and]; exact Ev.now _
        | true =>
          obtain ⟨r0, r1, r2, r3, r4, r5, ev, eb⟩ := impl_below_ev l h x.f0 q1
          simp only [if_true, Bool.true_and, eb, Option.getD_some]
          refine Ev.bind ev ?_
          have hr' := roleB_iff.1 q1
          have hc : x.f0 = 0 ∨ x.f0 = 1 ∨ x.f0 = 2 ∨ x.f0 = 3 ∨ x.f0 = 4 ∨ x.f0 = 5 := by omega
          have fin : ∀ (b : Bool), mkR [r0, r1, r2, r3, r4, r5] x.f0 = b → Ev (fun k => if b = true then some false else impl_ArePairs.l0 k l l (l.length : Int) ((i + 1 : Nat) : Int)) ((!mkR [r0, r1, r2, r3, r4, r5] x.f0 && (l.drop (i + 1)).all (fun x => roleB x.f0 && (roleB x.f1 && !mkR ((bfsX l 8 [x.f0] (List.replicate 6 false)).getD []) x.f0))) && decide ((l.length : Int) ≤ 10)) := by
            intro b hb
            rw [hb]
            cases b with
            | true => simp only [if_true, Bool.not_true, Bool.false_and]; exact Ev.now _
            | false => simp only [Bool.false_eq_true, if_false, Bool.not_false, Bool.true_and]; exact ih
          rcases hc with e | e | e | e | e | e <;> simp only [e, if_true, Int.reduceEq, if_false] <;> (rw [e] at fin) <;> exact fin _ rfl
  have := key l.length 0 (by omega)
  rwa [List.drop_zero] at this

-- impl_SizeOf
theorem impl_SizeOf_evN (N : Nat) : ∀ x : S80, n80 x ≤ N → N ≤ 2097152 → Ev (fun k => impl_SizeOf.f k x.f0 x.f1 x.f2 x.f3) (1 + (n80 x : Int)) := by
  induction N using Nat.strongRecOn with
  | _ N ih =>
  intro x hx hN
  rw [n80_f] at hx ⊢
  have key : ∀ (d i : Nat) (s : Int), x.f3.length - i = d → i ≤ x.f3.length → 0 ≤ s → s + (((x.f3.drop i).length + ((x.f3.drop i).map n80).sum : Nat) : Int) ≤ 4000000 → Ev (fun k => impl_SizeOf.l0 k s x.f3 (x.f3.length : Int) (i : Int)) (s + (((x.f3.drop i).length + ((x.f3.drop i).map n80).sum : Nat) : Int)) := by
    intro d
    induction d with
    | zero =>
      intro i s hd hi h0 hs
      obtain rfl : i = x.f3.length := by omega
      refine Ev.succ ?_
      simp only [impl_SizeOf.l0, Int.lt_irrefl, if_false, List.drop_length, List.length_nil, List.map_nil, List.sum_nil]
      exact Ev.eqv (by omega) (Ev.now _)
    | succ d ih2 =>
      intro i s hd hi h0 hs
      have hi' : i < x.f3.length := by omega
      have hy : x.f3[i]? = some x.f3[i] := List.getElem?_eq_getElem hi'
      have hn := le_sum n80 hy
      rw [List.drop_eq_getElem_cons hi'] at hs ⊢
      simp only [List.length_cons, List.map_cons, List.sum_cons] at hs ⊢
      generalize x.f3[i] = y at hy hn hs ⊢
      have e := ih (n80 y) (by omega) y (Nat.le_refl _) (by omega)
      have h1 : ((i : Int) < (x.f3.length : Int)) = True := eq_true (by omega)
      have h2 : (0 ≤ (i : Int)) = True := eq_true (by omega)
      refine Ev.succ ?_
      simp only [impl_SizeOf.l0, h1, h2, if_true, rd_at_T80 hy, wr1 hi' (by omega)]
      refine Ev.bind e ?_
      rw [wr (show (-9223372036854775808 : Int) ≤ s + (1 + (n80 y : Int)) by omega) (by omega)]
      exact Ev.eqv (by omega) (ih2 (i + 1) (s + (1 + (n80 y : Int))) (by omega) (by omega) (by omega) (by omega))
  refine Ev.succ ?_
  simp only [impl_SizeOf.f]
  exact Ev.eqv (by rw [List.drop_zero]) (key x.f3.length 0 1 (by omega) (by omega) (by omega) (by rw [List.drop_zero]; omega))
theorem impl_SizeOf_ev (x : S80) (h : n80 x ≤ 2097152) : Ev (fun k => impl_SizeOf.f k x.f0 x.f1 x.f2 x.f3) (1 + (n80 x : Int)) := impl_SizeOf_evN _ x (Nat.le_refl _) h

-- impl_ArityOf
-- told elsewhere

-- impl_isNode
-- told elsewhere

-- impl_areNodes
-- told elsewhere

-- impl_IsCond
theorem impl_IsCond_ev (x : S80) (h : n80 x ≤ 2097152) : Ev (fun k => impl_IsCond.f k x.f0 x.f1 x.f2 x.f3) (condB x) := by
  have hv := (valid_evN _ x (Nat.le_refl _) h).2
  unfold impl_IsCond.f condB
  refine Ev.bind (impl_SizeOf_ev x h) ?_
  by_cases c : 1 + (n80 x : Int) ≤ 15
  · simp only [if_pos c, decide_eq_true c, Bool.true_and]
    exact Ev.bind hv (Ev.now _)
  · simp only [if_neg c, decide_eq_false c, Bool.false_and]
    exact Ev.now _

-- impl_IsName
theorem impl_IsName_eq (a : Int) : impl_IsName.f a = some (nameB a) := by
  unfold impl_IsName.f
  rw [impl_InRange_eq]; rfl

-- impl_KindOf
theorem impl_KindOf_eq (a : Int) : impl_KindOf.f a = some (if nameB a = true then a / 10 else 0) := by
  unfold impl_KindOf.f
  rw [impl_IsName_eq, Option.bind_some]
  cases h : nameB a with
  | true => simp only [if_true, name_div h]
  | false => rfl

-- impl_HasKind
theorem impl_HasKind_eq (a b : Int) : impl_HasKind.f a b = some (kindB a b) := by
  unfold impl_HasKind.f kindB
  rw [impl_IsName_eq, impl_KindOf_eq, Option.bind_some]
  cases h : nameB a with
  | true => simp only [if_true, Option.bind_some, Bool.true_and]; rfl
  | false => rfl

-- impl_IsRule
theorem impl_IsRule_ev (r : S82) (h : n82 r ≤ 2097152) : Ev (fun k => impl_IsRule.f k r.f0 r.f1 r.f2 r.f3.f0 r.f3.f1 r.f3.f2 r.f3.f3) (ruleB r) := by
  have hc := impl_IsCond_ev r.f3 (by have := rule_n r; omega)
  unfold impl_IsRule.f ruleB
  simp only [impl_InRange_eq, impl_HasKind_eq, Option.bind_some]
  refine Ev.bifT fun _ => Ev.bifT fun _ => ?_
  by_cases c : r.f2 = -1
  · simp only [if_pos c, beq_iff_eq.2 c, Bool.true_or, Bool.true_and]
    exact Ev.bind hc (Ev.now _)
  · simp only [if_neg c, beq_eq_false_iff_ne.2 c, Bool.false_or]
    exact Ev.bifT fun _ => Ev.bind hc (Ev.now _)

-- impl_IsPolicy
theorem impl_IsPolicy_ev (p : S113) (h : n113 p ≤ 2097152) : Ev (fun k => impl_IsPolicy.f k p.f0 p.f1) (policyB p) := by
  unfold n113 at h
  unfold impl_IsPolicy.f policyB
  simp only [impl_InRange_eq, Option.bind_some]
  have hI : Ev (fun k => slices_IndexFunc119_115.f k p.f1) (idxV (fun x => !ruleB x) p.f1 0) := by
    unfold slices_IndexFunc119_115.f
    refine idx_ev (fun k i => slices_IndexFunc119_115.l0 k p.f1 (p.f1.length : Int) i) (fun x => !ruleB x) p.f1 0 p.f1.length (by omega) ?_ ?_
    · refine Ev.succ ?_
      simp only [slices_IndexFunc119_115.l0, Int.lt_irrefl, if_false]
      exact Ev.now _
    · intro j x r _ hx
      rw [Nat.sub_zero] at hx
      have hj := lt_of_get hx
      have hn := le_sum n82 hx
      have h1 : ((j : Int) < (p.f1.length : Int)) = True := eq_true (by omega)
      have h2 : (0 ≤ (j : Int)) = True := eq_true (by omega)
      have hc : Ev (fun k => cl115.f k x.f0 x.f1 x.f2 x.f3.f0 x.f3.f1 x.f3.f2 x.f3.f3) (!ruleB x) := by
        unfold cl115.f
        exact Ev.bind (impl_IsRule_ev _ (by omega)) (Ev.now _)
      constructor
      · intro hq
        refine Ev.succ ?_
        simp only [slices_IndexFunc119_115.l0, h1, h2, if_true, rd_at_T82 hx]
        refine Ev.bind hc ?_
        simp only [hq, if_true]
        exact Ev.now _
      · intro hq he
        refine Ev.succ ?_
        simp only [slices_IndexFunc119_115.l0, h1, h2, if_true, rd_at_T82 hx, wr1 hj (by omega)]
        refine Ev.bind hc ?_
        simp only [hq, Bool.false_eq_true, if_false]
        exact he
  refine Ev.bifT fun _ => Ev.dand fun _ => ?_
  have hC : Ev (fun k => slices_ContainsFunc114_115.f k p.f1) (p.f1.any (fun x => !ruleB x)) := by
    unfold slices_ContainsFunc114_115.f
    exact Ev.bind hI (Ev.eqv (idxV_anyI (fun x => !ruleB x) p.f1 0 (by omega)) (Ev.now _))
  refine Ev.bind hC ?_
  refine Ev.eqv ?_ (Ev.now _)
  simp [List.any_eq_not_all_not]

-- impl_IsEpoch
theorem impl_IsEpoch_ev (e : S115) (h : n115 e ≤ 2097152) : Ev (fun k => impl_IsEpoch.f k e.f0 e.f1 e.f2 e.f3.f0 e.f3.f1) (epochB e) := by
  unfold n115 at h
  unfold impl_IsEpoch.f epochB
  simp only [impl_InRange_eq, impl_IsTime_eq, Option.bind_some]
  exact Ev.bifT fun _ => Ev.bifT fun _ => Ev.band (impl_ArePairs_ev e.f2 (by omega)) fun _ => Ev.band (impl_IsPolicy_ev e.f3 (by omega)) fun _ => Ev.now _

-- impl_AreEpochs
theorem impl_AreEpochs_ev (l : List S115) (h : l.length + (l.map n115).sum ≤ 2097152) : Ev (fun k => impl_AreEpochs.f k l) (epochsB l) := by
  unfold impl_AreEpochs.f epochsB
  refine ev_adj l epochB epochQ _ (fun k i => impl_AreEpochs.l0 k l l (l.length : Int) i) ?_ ?_ ?_
  · refine Ev.succ ?_
    simp only [impl_AreEpochs.l0, Int.lt_irrefl, if_false]
    exact Ev.now _
  · intro x r hx hr
    have hi := lt_of_get hx
    have h1 : ((0 : Int) < (l.length : Int)) = True := eq_true (by omega)
    have e := rd_at_T115 hx
    have e2 := wr1 hi (show l.length ≤ 9223372036854775807 by omega)
    simp only [Int.ofNat_zero, Int.natCast_zero] at e e2
    refine Ev.succ ?_
    simp only [impl_AreEpochs.l0, h1, if_true, Int.le_refl, gt_iff_lt, Int.lt_irrefl, if_false, e, e2, Option.bind_some]
    exact Ev.band (impl_IsEpoch_ev x (by have := le_sum n115 hx; omega)) fun _ => hr
  · intro i y x r hy hx hr
    have hi := lt_of_get hx
    have h1 : (((i + 1 : Nat) : Int) < (l.length : Int)) = True := eq_true (by omega)
    have h2 : (0 ≤ ((i + 1 : Nat) : Int)) = True := eq_true (by omega)
    have h3 : (((i + 1 : Nat) : Int) > 0) = True := eq_true (by omega)
    have h4 : (0 ≤ (i : Int)) = True := eq_true (by omega)
    have h5 : ((i : Int) < (l.length : Int)) = True := eq_true (by omega)
    refine Ev.succ ?_
    simp only [impl_AreEpochs.l0, h1, h2, h3, h4, h5, if_true, rd_at_T115 hx, rd_at_T115 hy, wr1 hi (show l.length ≤ 9223372036854775807 by omega), wrp hi (show l.length ≤ 9223372036854775807 by omega), Option.bind_some]
    exact Ev.band (impl_IsEpoch_ev x (by have := le_sum n115 hx; omega)) fun _ => epochQ_step fun _ => hr

-- impl_PublishEpoch
theorem impl_PublishEpoch_ev (l : List S115) (p : List S75) (q : List S82) (a : Int) (h : l.length + (l.map n115).sum + 1 + (p.length + (q.length + (q.map n82).sum)) ≤ 2097152) : Ev (fun k => impl_PublishEpoch.f k l p q a) (publishV l p q a) := by
  have hn : ∀ x ∈ l, n115 x ≤ 2097152 := fun x hx => by
    obtain ⟨j, hj⟩ := List.getElem?_of_mem hx
    have := le_sum n115 hj
    omega
  have he : n115 (pubE l p q a) ≤ 2097152 := by rw [pubE_n]; omega
  have ha := impl_AreEpochs_ev l (by omega)
  have ho := impl_AreEpochs_ev (pubL l (pubE l p q a)) (by have := pubL_n l (pubE l p q a); rw [pubE_n] at this; omega)
  have hc := impl_copyEpochs_ev l (by omega) hn
  unfold impl_PublishEpoch.f publishV
  simp only [impl_NewestNumber_eq l (by omega), Option.bind_some]
  refine Ev.bind hc (Ev.bind (impl_copyEpoch_ev (pubE l p q a) he) ?_)
  generalize pubE l p q a = E at ho ⊢
  obtain ⟨e0, e1, e2, e3, e4⟩ := E
  simp only []
  generalize (⟨e0, e1, e2, ⟨e3, e4⟩⟩ : S115) = E at ho ⊢
  have hl2 : (l ++ [E]).length = l.length + 1 := by simp
  refine Ev.pos (by omega) ?_
  cases hb : epochsB l with
  | false =>
    rw [hb] at ha
    have er : (if false = true ∧ epochsB (pubL l E) = true then (pubL l E, true) else (l, false)) = (l, false) := if_neg (by simp)
    rw [er]
    by_cases c : ((l ++ [E]).length : Int) = 7
    · refine Ev.pos c (Ev.pos (by omega) (Ev.bind ha ?_))
      simp only [Bool.false_eq_true, if_false]
      exact Ev.bind hc (Ev.now _)
    · refine Ev.neg c (Ev.bind ha ?_)
      simp only [Bool.false_eq_true, if_false]
      exact Ev.bind hc (Ev.now _)
  | true =>
    rw [hb] at ha
    have h6 : (l.length : Int) ≤ 6 := by
      unfold epochsB at hb
      rw [Bool.and_eq_true] at hb
      exact of_decide_eq_true hb.2
    by_cases c : l.length + 1 > 6
    · have eP : pubL l E = (l ++ [E]).drop 1 := if_pos c
      rw [eP] at ho ⊢
      refine Ev.pos (by omega) (Ev.pos (by omega) (Ev.bind ha ?_))
      simp only [if_true, true_and]
      refine Ev.bind ho ?_
      by_cases b : epochsB ((l ++ [E]).drop 1) = true
      · simp only [if_pos b]; exact Ev.now _
      · simp only [if_neg b]; exact Ev.bind hc (Ev.now _)
    · have eP : pubL l E = l ++ [E] := if_neg c
      rw [eP] at ho ⊢
      refine Ev.neg (by omega) (Ev.bind ha ?_)
      simp only [if_true, true_and]
      refine Ev.bind ho ?_
      by_cases b : epochsB (l ++ [E]) = true
      · simp only [if_pos b]; exact Ev.now _
      · simp only [if_neg b]; exact Ev.bind hc (Ev.now _)

-- impl_CenterPublish
theorem impl_CenterPublish_ev (x : S40) (p : List S75) (q : List S82) (a : Int) (h : n40 x + 1 + (p.length + (q.length + (q.map n82).sum)) ≤ 2097152) : Ev (fun k => impl_CenterPublish.f k x.f0 x.f1 x.f2 x.f3 x.f4 x.f5 p q a) (x.f0, (publishV x.f1 p q a).1, x.f2, x.f3, x.f4, x.f5, (publishV x.f1 p q a).2) := by
  have hx := h
  unfold n40 at hx
  unfold impl_CenterPublish.f
  exact Ev.bind (impl_copyCenter_ev x (by omega)) (Ev.bind (impl_PublishEpoch_ev x.f1 p q a (by omega)) (Ev.now _))

-- laws_eqIntS
theorem laws_eqIntS_refl (l : List Int) (h : l.length ≤ 2097152) : Ev (fun k => laws_eqIntS.f k l l) true := by
  unfold laws_eqIntS.f
  refine Ev.pos rfl ?_
  refine ev_walk l (fun k i => laws_eqIntS.l0 k l l i) true ?_ ?_
  · refine Ev.succ ?_
    simp only [laws_eqIntS.l0, Int.lt_irrefl, if_false]
    exact Ev.now _
  · intro i x hx hr
    have hi := lt_of_get hx
    have h1 : ((i : Int) < (l.length : Int)) = True := eq_true (by omega)
    have h2 : (0 ≤ (i : Int)) = True := eq_true (by omega)
    refine Ev.succ ?_
    simp only [laws_eqIntS.l0, h1, h2, if_true, rd_nat l i x hx, wr1 hi (by omega)]
    exact hr

-- laws_eqIssuer
theorem laws_eqIssuer_refl (x : S117) (h : n117 x ≤ 2097152) : Ev (fun k => laws_eqIssuer.f k x.f0 x.f1 x.f2 x.f0 x.f1 x.f2) true := by
  unfold n117 at h
  unfold laws_eqIssuer.f
  simp only [if_true, bne_self_eq_false, Bool.false_eq_true, if_false]
  repeat (first | exact Ev.now _ | (refine Ev.bind (laws_eqIntS_refl _ (by omega)) ?_; simp only [if_true, bne_self_eq_false, Bool.false_eq_true, if_false]))

-- laws_eqIssuerS
theorem laws_eqIssuerS_refl (l : List (S117)) (h : l.length + (l.map n117).sum ≤ 2097152) : Ev (fun k => laws_eqIssuerS.f k l l) true := by
  unfold laws_eqIssuerS.f
  refine Ev.pos rfl ?_
  refine ev_walk l (fun k i => laws_eqIssuerS.l0 k l l i) true ?_ ?_
  · refine Ev.succ ?_
    simp only [laws_eqIssuerS.l0, Int.lt_irrefl, if_false]
    exact Ev.now _
  · intro i x hx hr
    have hi := lt_of_get hx
    have h1 : ((i : Int) < (l.length : Int)) = True := eq_true (by omega)
    have h2 : (0 ≤ (i : Int)) = True := eq_true (by omega)
    refine Ev.succ ?_
    simp only [laws_eqIssuerS.l0, h1, h2, if_true, rd_at_T117 hx, wr1 hi (by omega)]
    refine Ev.bind (laws_eqIssuer_refl x (by have := le_sum n117 hx; omega)) ?_
    simp only [if_true]
    exact hr

-- laws_eqIncludes
theorem laws_eqIncludes_refl (x : S75) : laws_eqIncludes.f x.f0 x.f1 x.f0 x.f1 = some true := by
  unfold laws_eqIncludes.f
  simp

-- laws_eqIncludesS
theorem laws_eqIncludesS_refl (l : List (S75)) (h : l.length ≤ 2097152) : Ev (fun k => laws_eqIncludesS.f k l l) true := by
  unfold laws_eqIncludesS.f
  refine Ev.pos rfl ?_
  refine ev_walk l (fun k i => laws_eqIncludesS.l0 k l l i) true ?_ ?_
  · refine Ev.succ ?_
    simp only [laws_eqIncludesS.l0, Int.lt_irrefl, if_false]
    exact Ev.now _
  · intro i x hx hr
    have hi := lt_of_get hx
    have h1 : ((i : Int) < (l.length : Int)) = True := eq_true (by omega)
    have h2 : (0 ≤ (i : Int)) = True := eq_true (by omega)
    refine Ev.succ ?_
    simp only [laws_eqIncludesS.l0, h1, h2, if_true, rd_at_T75 hx, wr1 hi (by omega), laws_eqIncludes_refl x, Option.bind_some]
    exact hr

-- laws_eqCondS
theorem laws_eqCondS_reflN (N : Nat) : ∀ l : List S80, l.length + (l.map n80).sum ≤ N → N ≤ 2097152 → Ev (fun k => laws_eqCondS.f k l l) true := by
  induction N using Nat.strongRecOn with
  | _ N ih =>
  intro l h hN
  refine Ev.succ ?_
  simp only [laws_eqCondS.f]
  refine Ev.pos (by first | trivial | rfl) ?_
  refine ev_walk l (fun k i => laws_eqCondS.l0 k l l i) true ?_ ?_
  · refine Ev.succ ?_
    simp only [laws_eqCondS.l0, Int.lt_irrefl, if_false]
    exact Ev.now _
  · intro i x hx hr
    have hi := lt_of_get hx
    have h1 : ((i : Int) < (l.length : Int)) = True := eq_true (by omega)
    have h2 : (0 ≤ (i : Int)) = True := eq_true (by omega)
    have hn := le_sum n80 hx
    rw [n80_f] at hn
    have e := ih (x.f3.length + (x.f3.map n80).sum) (by omega) x.f3 (Nat.le_refl _) (by omega)
    have e' : Ev (fun k => laws_eqCond.f k x.f0 x.f1 x.f2 x.f3 x.f0 x.f1 x.f2 x.f3) true := by
      refine Ev.succ ?_
      simp only [laws_eqCond.f, if_true]
      refine Ev.bind e ?_
      simp only [if_true]
      exact Ev.now _
    refine Ev.succ ?_
    simp only [laws_eqCondS.l0, h1, h2, if_true, rd_at_T80 hx, wr1 hi (by omega)]
    refine Ev.bind e' ?_
    simp only [if_true]
    exact hr
theorem laws_eqCondS_refl (l : List S80) (h : l.length + (l.map n80).sum ≤ 2097152) : Ev (fun k => laws_eqCondS.f k l l) true := laws_eqCondS_reflN _ l (Nat.le_refl _) h
theorem laws_eqCond_refl (x : S80) (h : n80 x ≤ 2097152) : Ev (fun k => laws_eqCond.f k x.f0 x.f1 x.f2 x.f3 x.f0 x.f1 x.f2 x.f3) true := by
  rw [n80_f] at h
  refine Ev.succ ?_
  simp only [laws_eqCond.f, if_true]
  refine Ev.bind (laws_eqCondS_refl x.f3 h) ?_
  simp only [if_true]
  exact Ev.now _

-- laws_eqCond


-- laws_eqRule
theorem laws_eqRule_refl (x : S82) (h : n82 x ≤ 2097152) : Ev (fun k => laws_eqRule.f k x.f0 x.f1 x.f2 x.f3.f0 x.f3.f1 x.f3.f2 x.f3.f3 x.f0 x.f1 x.f2 x.f3.f0 x.f3.f1 x.f3.f2 x.f3.f3) true := by
  unfold n82 at h
  unfold laws_eqRule.f
  simp only [if_true, bne_self_eq_false, Bool.false_eq_true, if_false]
  repeat (first | exact Ev.now _ | (refine Ev.bind (laws_eqCond_refl _ (by omega)) ?_; simp only [if_true, bne_self_eq_false, Bool.false_eq_true, if_false]))

-- laws_eqRuleS
theorem laws_eqRuleS_refl (l : List (S82)) (h : l.length + (l.map n82).sum ≤ 2097152) : Ev (fun k => laws_eqRuleS.f k l l) true := by
  unfold laws_eqRuleS.f
  refine Ev.pos rfl ?_
  refine ev_walk l (fun k i => laws_eqRuleS.l0 k l l i) true ?_ ?_
  · refine Ev.succ ?_
    simp only [laws_eqRuleS.l0, Int.lt_irrefl, if_false]
    exact Ev.now _
  · intro i x hx hr
    have hi := lt_of_get hx
    have h1 : ((i : Int) < (l.length : Int)) = True := eq_true (by omega)
    have h2 : (0 ≤ (i : Int)) = True := eq_true (by omega)
    refine Ev.succ ?_
    simp only [laws_eqRuleS.l0, h1, h2, if_true, rd_at_T82 hx, wr1 hi (by omega)]
    refine Ev.bind (laws_eqRule_refl x (by have := le_sum n82 hx; omega)) ?_
    simp only [if_true]
    exact hr

-- laws_eqPolicy
theorem laws_eqPolicy_refl (x : S113) (h : n113 x ≤ 2097152) : Ev (fun k => laws_eqPolicy.f k x.f0 x.f1 x.f0 x.f1) true := by
  unfold n113 at h
  unfold laws_eqPolicy.f
  simp only [if_true, bne_self_eq_false, Bool.false_eq_true, if_false]
  repeat (first | exact Ev.now _ | (refine Ev.bind (laws_eqRuleS_refl _ (by omega)) ?_; simp only [if_true, bne_self_eq_false, Bool.false_eq_true, if_false]))

-- laws_eqEpoch
theorem laws_eqEpoch_refl (x : S115) (h : n115 x ≤ 2097152) : Ev (fun k => laws_eqEpoch.f k x.f0 x.f1 x.f2 x.f3.f0 x.f3.f1 x.f0 x.f1 x.f2 x.f3.f0 x.f3.f1) true := by
  unfold n115 at h
  unfold laws_eqEpoch.f
  simp only [if_true, bne_self_eq_false, Bool.false_eq_true, if_false]
  repeat (first | exact Ev.now _ | (refine Ev.bind (laws_eqIncludesS_refl _ (by omega)) ?_; simp only [if_true, bne_self_eq_false, Bool.false_eq_true, if_false]) | (refine Ev.bind (laws_eqPolicy_refl _ (by omega)) ?_; simp only [if_true, bne_self_eq_false, Bool.false_eq_true, if_false]))

-- laws_eqEpochS
theorem laws_eqEpochS_refl (l : List (S115)) (h : l.length + (l.map n115).sum ≤ 2097152) : Ev (fun k => laws_eqEpochS.f k l l) true := by
  unfold laws_eqEpochS.f
  refine Ev.pos rfl ?_
  refine ev_walk l (fun k i => laws_eqEpochS.l0 k l l i) true ?_ ?_
  · refine Ev.succ ?_
    simp only [laws_eqEpochS.l0, Int.lt_irrefl, if_false]
    exact Ev.now _
  · intro i x hx hr
    have hi := lt_of_get hx
    have h1 : ((i : Int) < (l.length : Int)) = True := eq_true (by omega)
    have h2 : (0 ≤ (i : Int)) = True := eq_true (by omega)
    refine Ev.succ ?_
    simp only [laws_eqEpochS.l0, h1, h2, if_true, rd_at_T115 hx, wr1 hi (by omega)]
    refine Ev.bind (laws_eqEpoch_refl x (by have := le_sum n115 hx; omega)) ?_
    simp only [if_true]
    exact hr

-- laws_eqFact
theorem laws_eqFact_refl (x : S121) : laws_eqFact.f x.f0 x.f1 x.f2 x.f3 x.f4 x.f5 x.f0 x.f1 x.f2 x.f3 x.f4 x.f5 = some true := by
  unfold laws_eqFact.f
  simp

-- laws_eqFactS
theorem laws_eqFactS_refl (l : List (S121)) (h : l.length ≤ 2097152) : Ev (fun k => laws_eqFactS.f k l l) true := by
  unfold laws_eqFactS.f
  refine Ev.pos rfl ?_
  refine ev_walk l (fun k i => laws_eqFactS.l0 k l l i) true ?_ ?_
  · refine Ev.succ ?_
    simp only [laws_eqFactS.l0, Int.lt_irrefl, if_false]
    exact Ev.now _
  · intro i x hx hr
    have hi := lt_of_get hx
    have h1 : ((i : Int) < (l.length : Int)) = True := eq_true (by omega)
    have h2 : (0 ≤ (i : Int)) = True := eq_true (by omega)
    refine Ev.succ ?_
    simp only [laws_eqFactS.l0, h1, h2, if_true, rd_at_T121 hx, wr1 hi (by omega), laws_eqFact_refl x, Option.bind_some]
    exact hr

-- laws_eqRevoked
theorem laws_eqRevoked_refl (x : S125) : laws_eqRevoked.f x.f0 x.f1 x.f0 x.f1 = some true := by
  unfold laws_eqRevoked.f
  simp

-- laws_eqRevokedS
theorem laws_eqRevokedS_refl (l : List (S125)) (h : l.length ≤ 2097152) : Ev (fun k => laws_eqRevokedS.f k l l) true := by
  unfold laws_eqRevokedS.f
  refine Ev.pos rfl ?_
  refine ev_walk l (fun k i => laws_eqRevokedS.l0 k l l i) true ?_ ?_
  · refine Ev.succ ?_
    simp only [laws_eqRevokedS.l0, Int.lt_irrefl, if_false]
    exact Ev.now _
  · intro i x hx hr
    have hi := lt_of_get hx
    have h1 : ((i : Int) < (l.length : Int)) = True := eq_true (by omega)
    have h2 : (0 ≤ (i : Int)) = True := eq_true (by omega)
    refine Ev.succ ?_
    simp only [laws_eqRevokedS.l0, h1, h2, if_true, rd_at_T125 hx, wr1 hi (by omega), laws_eqRevoked_refl x, Option.bind_some]
    exact hr

-- laws_eqCert
theorem laws_eqCert_refl (x : S129) : laws_eqCert.f x.f0 x.f1 x.f2 x.f3 x.f4 x.f5 x.f0 x.f1 x.f2 x.f3 x.f4 x.f5 = some true := by
  unfold laws_eqCert.f
  simp

-- laws_eqCertS
theorem laws_eqCertS_refl (l : List (S129)) (h : l.length ≤ 2097152) : Ev (fun k => laws_eqCertS.f k l l) true := by
  unfold laws_eqCertS.f
  refine Ev.pos rfl ?_
  refine ev_walk l (fun k i => laws_eqCertS.l0 k l l i) true ?_ ?_
  · refine Ev.succ ?_
    simp only [laws_eqCertS.l0, Int.lt_irrefl, if_false]
    exact Ev.now _
  · intro i x hx hr
    have hi := lt_of_get hx
    have h1 : ((i : Int) < (l.length : Int)) = True := eq_true (by omega)
    have h2 : (0 ≤ (i : Int)) = True := eq_true (by omega)
    refine Ev.succ ?_
    simp only [laws_eqCertS.l0, h1, h2, if_true, rd_at_T129 hx, wr1 hi (by omega), laws_eqCert_refl x, Option.bind_some]
    exact hr

-- laws_eqCenter
theorem laws_eqCenter_refl (x : S40) (h : n40 x ≤ 2097152) : Ev (fun k => laws_eqCenter.f k x.f0 x.f1 x.f2 x.f3 x.f4 x.f5 x.f0 x.f1 x.f2 x.f3 x.f4 x.f5) true := by
  unfold n40 at h
  unfold laws_eqCenter.f
  simp only [if_true, bne_self_eq_false, Bool.false_eq_true, if_false]
  repeat (first | exact Ev.now _ | (refine Ev.bind (laws_eqIssuerS_refl _ (by omega)) ?_; simp only [if_true, bne_self_eq_false, Bool.false_eq_true, if_false]) | (refine Ev.bind (laws_eqEpochS_refl _ (by omega)) ?_; simp only [if_true, bne_self_eq_false, Bool.false_eq_true, if_false]) | (refine Ev.bind (laws_eqFactS_refl _ (by omega)) ?_; simp only [if_true, bne_self_eq_false, Bool.false_eq_true, if_false]) | (refine Ev.bind (laws_eqRevokedS_refl _ (by omega)) ?_; simp only [if_true, bne_self_eq_false, Bool.false_eq_true, if_false]) | (refine Ev.bind (laws_eqCertS_refl _ (by omega)) ?_; simp only [if_true, bne_self_eq_false, Bool.false_eq_true, if_false]))

-- laws_markIntS
def ctI (x : Int) : Nat := 1
def mkI (x : Int) (n : Int) : Int × Int := (n, n + 1)
theorem mkI_up (x : Int) (n : Int) : (mkI x n).2 = n + (ctI x : Nat) := by
  simp only [mkI, ctI]
  omega
theorem ctI_bd (x : Int) : ctI x ≤ 8 := by simp only [ctI]; omega
theorem laws_markIntS_ev (l : List Int) (h : l.length ≤ 2097152) (n : Int) (h0 : 0 ≤ n) (hB : n + ((l.map ctI).sum : Nat) ≤ 4611686018427387904) : Ev (fun k => laws_markIntS.f k l n) (n + ((l.map ctI).sum : Nat), (acc mkI l n).1) := by
  unfold laws_markIntS.f
  refine Ev.eqv (by rw [acc_up mkI ctI mkI_up]) (ev_markB mkI ctI 4611686018427387904 mkI_up (fun k l n i => laws_markIntS.l0 k l n i) l ?_ ?_ n h0 hB)
  · intro l' n hl
    refine Ev.succ ?_
    simp only [laws_markIntS.l0, hl, Int.lt_irrefl, if_false]
    exact Ev.now _
  · intro l' i x n r hl hm hx h0 hc hr
    have hi := lt_of_get hx
    have h1 : ((i : Int) < (l'.length : Int)) = True := eq_true (by omega)
    have h2 : (0 ≤ (i : Int)) = True := eq_true (by omega)
    simp only [ctI] at hc
    have e0 : wrap64 (n + 1) = n + 1 := wr (by omega) (by omega)
    simp only [mkI] at hr
    refine Ev.succ ?_
    simp only [laws_markIntS.l0, h1, h2, if_true, Option.bind_some, List.length_set, List.set_set, Int.toNat_natCast, wr1 hi (by omega), rd_nat l' i _ hx, List.length_set, e0]
    exact hr

-- laws_markIssuerS
def ct117 (x : S117) : Nat := 2 + (x.f1.map ctI).sum
def mk117 (x : S117) (n : Int) : S117 × Int := ((⟨n, (acc mkI x.f1 (n + 1)).1, n + 1 + ((x.f1.map ctI).sum : Nat)⟩ : S117), n + 1 + ((x.f1.map ctI).sum : Nat) + 1)
theorem mk117_up (x : S117) (n : Int) : (mk117 x n).2 = n + (ct117 x : Nat) := by
  simp only [mk117, ct117]
  omega
theorem ct117_bd (x : S117) : ct117 x ≤ 8 + 8 * n117 x := by
  have b0 := sum_ct0 ctI x.f1 ctI_bd
  simp only [ct117, n117]
  omega
theorem rds_T117 {l : List S117} {i : Nat} {v : S117} (h : i < l.length) : rd_T117 (l.set i v) (i : Int) = v := rd_at_T117 (List.getElem?_set_self h)
theorem laws_markIssuerS_ev (l : List S117) (h : l.length + (l.map n117).sum ≤ 2097152) (n : Int) (h0 : 0 ≤ n) (hB : n + ((l.map ct117).sum : Nat) ≤ 4611686018427387904) : Ev (fun k => laws_markIssuerS.f k l n) (n + ((l.map ct117).sum : Nat), (acc mk117 l n).1) := by
  unfold laws_markIssuerS.f
  refine Ev.eqv (by rw [acc_up mk117 ct117 mk117_up]) (ev_markB mk117 ct117 4611686018427387904 mk117_up (fun k l n i => laws_markIssuerS.l0 k l n i) l ?_ ?_ n h0 hB)
  · intro l' n hl
    refine Ev.succ ?_
    simp only [laws_markIssuerS.l0, hl, Int.lt_irrefl, if_false]
    exact Ev.now _
  · intro l' i x n r hl hm hx h0 hc hr
    have hi := lt_of_get hx
    have h1 : ((i : Int) < (l'.length : Int)) = True := eq_true (by omega)
    have h2 : (0 ≤ (i : Int)) = True := eq_true (by omega)
    simp only [ct117] at hc
    obtain ⟨jm, hjm⟩ := List.getElem?_of_mem hm
    have hn := le_sum n117 hjm
    simp only [n117] at hn
    have e0 : wrap64 (n + 1) = n + 1 := wr (by omega) (by omega)
    have e1 : wrap64 (n + 1 + ((x.f1.map ctI).sum : Nat) + 1) = n + 1 + ((x.f1.map ctI).sum : Nat) + 1 := wr (by omega) (by omega)
    simp only [mk117] at hr
    refine Ev.succ ?_
    simp only [laws_markIssuerS.l0, h1, h2, if_true, Option.bind_some, List.length_set, List.set_set, Int.toNat_natCast, wr1 hi (by omega), rd_at_T117 hx, rds_T117 hi, e0, e1]
    refine Ev.bind (laws_markIntS_ev x.f1 (by omega) (n + 1) (by omega) (by omega)) ?_
    (try simp only [h1, h2, if_true, Option.bind_some, List.length_set, List.set_set, Int.toNat_natCast, wr1 hi (by omega), rd_at_T117 hx, rds_T117 hi, e0, e1])
    exact hr

-- laws_markIncludesS
def ct75 (x : S75) : Nat := 2
def mk75 (x : S75) (n : Int) : S75 × Int := ((⟨n, n + 1⟩ : S75), n + 1 + 1)
theorem mk75_up (x : S75) (n : Int) : (mk75 x n).2 = n + (ct75 x : Nat) := by
  simp only [mk75, ct75]
  omega
theorem ct75_bd (x : S75) : ct75 x ≤ 8 := by simp only [ct75]; omega
theorem rds_T75 {l : List S75} {i : Nat} {v : S75} (h : i < l.length) : rd_T75 (l.set i v) (i : Int) = v := rd_at_T75 (List.getElem?_set_self h)
theorem laws_markIncludesS_ev (l : List S75) (h : l.length ≤ 2097152) (n : Int) (h0 : 0 ≤ n) (hB : n + ((l.map ct75).sum : Nat) ≤ 4611686018427387904) : Ev (fun k => laws_markIncludesS.f k l n) (n + ((l.map ct75).sum : Nat), (acc mk75 l n).1) := by
  unfold laws_markIncludesS.f
  refine Ev.eqv (by rw [acc_up mk75 ct75 mk75_up]) (ev_markB mk75 ct75 4611686018427387904 mk75_up (fun k l n i => laws_markIncludesS.l0 k l n i) l ?_ ?_ n h0 hB)
  · intro l' n hl
    refine Ev.succ ?_
    simp only [laws_markIncludesS.l0, hl, Int.lt_irrefl, if_false]
    exact Ev.now _
  · intro l' i x n r hl hm hx h0 hc hr
    have hi := lt_of_get hx
    have h1 : ((i : Int) < (l'.length : Int)) = True := eq_true (by omega)
    have h2 : (0 ≤ (i : Int)) = True := eq_true (by omega)
    simp only [ct75] at hc
    have e0 : wrap64 (n + 1) = n + 1 := wr (by omega) (by omega)
    have e1 : wrap64 (n + 1 + 1) = n + 1 + 1 := wr (by omega) (by omega)
    simp only [mk75] at hr
    refine Ev.succ ?_
    simp only [laws_markIncludesS.l0, h1, h2, if_true, Option.bind_some, List.length_set, List.set_set, Int.toNat_natCast, wr1 hi (by omega), rd_at_T75 hx, rds_T75 hi, e0, e1]
    exact hr

-- laws_markCondS
mutual
def mk80 : S80 → Int → S80 × Int
  | ⟨_, _, _, l⟩, n => (⟨n, n + 1, n + 1 + 1, (mkL80 l (n + 1 + 1 + 1)).1⟩, n + 1 + 1 + 1 + (ctL80 l : Nat))
def mkL80 : List S80 → Int → List S80 × Int
  | [], n => ([], n)
  | x :: l, n => ((mk80 x n).1 :: (mkL80 l (mk80 x n).2).1, (mkL80 l (mk80 x n).2).2)
def ct80 : S80 → Nat
  | ⟨_, _, _, l⟩ => 3 + ctL80 l
def ctL80 : List S80 → Nat
  | [] => 0
  | x :: l => ct80 x + ctL80 l
end
theorem ctL_eq : ∀ l : List S80, ctL80 l = (l.map ct80).sum
  | [] => by simp [ctL80]
  | x :: l => by simp [ctL80, ctL_eq l]
theorem mkL_eq : ∀ (l : List S80) (n : Int), mkL80 l n = acc mk80 l n
  | [], n => by simp [mkL80, acc]
  | x :: l, n => by simp only [mkL80, acc, mkL_eq l]
theorem ctC_f (x : S80) : ct80 x = 3 + (x.f3.map ct80).sum := by
  cases x
  simp only [ct80, ctL_eq]
theorem mkC_f (x : S80) (n : Int) : mk80 x n = (⟨n, n + 1, n + 1 + 1, (acc mk80 x.f3 (n + 1 + 1 + 1)).1⟩, n + 1 + 1 + 1 + ((x.f3.map ct80).sum : Nat)) := by
  cases x
  simp only [mk80, mkL_eq, ctL_eq]
theorem mk80_up (x : S80) (n : Int) : (mk80 x n).2 = n + (ct80 x : Nat) := by
  rw [mkC_f, ctC_f]
  simp only []
  omega
theorem ctC_bdN (N : Nat) : ∀ x : S80, n80 x ≤ N → ct80 x ≤ 8 + 8 * n80 x := by
  induction N using Nat.strongRecOn with
  | _ N ih =>
  intro x h
  rw [ctC_f]
  rw [n80_f] at h ⊢
  have key : ∀ l : List S80, (∀ y ∈ l, ct80 y ≤ 8 + 8 * n80 y) → (l.map ct80).sum ≤ 8 * (l.length + (l.map n80).sum) := by
    intro l
    induction l with
    | nil => simp
    | cons y l ihl =>
      intro hl
      have h1 := hl y List.mem_cons_self
      have h2 := ihl fun z hz => hl z (List.mem_cons_of_mem _ hz)
      simp only [List.map_cons, List.sum_cons, List.length_cons]
      omega
  have := key x.f3 fun y hy => by
    obtain ⟨j, hj⟩ := List.getElem?_of_mem hy
    have h1 := le_sum n80 hj
    have h2 := lt_of_get hj
    exact ih (n80 y) (by omega) y (Nat.le_refl _)
  omega
theorem ct80_bd (x : S80) : ct80 x ≤ 8 + 8 * n80 x := ctC_bdN _ x (Nat.le_refl _)
theorem rds_T80 {l : List S80} {i : Nat} {v : S80} (h : i < l.length) : rd_T80 (l.set i v) (i : Int) = v := rd_at_T80 (List.getElem?_set_self h)
theorem laws_markCondS_evN (N : Nat) : ∀ (l : List S80) (n : Int), l.length + (l.map n80).sum ≤ N → N ≤ 2097152 → 0 ≤ n → n + ((l.map ct80).sum : Nat) ≤ 4611686018427387904 → Ev (fun k => laws_markCondS.f k l n) (n + ((l.map ct80).sum : Nat), (acc mk80 l n).1) := by
  induction N using Nat.strongRecOn with
  | _ N ih =>
  intro l n h hN h0 hB
  refine Ev.succ ?_
  simp only [laws_markCondS.f]
  refine Ev.eqv (by rw [acc_up mk80 ct80 mk80_up]) (ev_markB mk80 ct80 4611686018427387904 mk80_up (fun k l n i => laws_markCondS.l0 k l n i) l ?_ ?_ n h0 hB)
  · intro l' n hl
    refine Ev.succ ?_
    simp only [laws_markCondS.l0, hl, Int.lt_irrefl, if_false]
    exact Ev.now _
  · intro l' i x n r hl hm hx h0 hc hr
    have hi := lt_of_get hx
    have h1 : ((i : Int) < (l'.length : Int)) = True := eq_true (by omega)
    have h2 : (0 ≤ (i : Int)) = True := eq_true (by omega)
    rw [ctC_f] at hc
    obtain ⟨jm, hjm⟩ := List.getElem?_of_mem hm
    have hn := le_sum n80 hjm
    have hlt := lt_of_get hjm
    rw [n80_f] at hn
    have e0 : wrap64 (n + 1) = n + 1 := wr (by omega) (by omega)
    have e1 : wrap64 (n + 1 + 1) = n + 1 + 1 := wr (by omega) (by omega)
    have e2 : wrap64 (n + 1 + 1 + 1) = n + 1 + 1 + 1 := wr (by omega) (by omega)
    rw [mkC_f] at hr
    refine Ev.succ ?_
    simp only [laws_markCondS.l0, h1, h2, if_true, Option.bind_some, List.length_set, List.set_set, Int.toNat_natCast, wr1 hi (by omega), rd_at_T80 hx, rds_T80 hi, e0, e1, e2]
    refine Ev.bind (ih (x.f3.length + (x.f3.map n80).sum) (by omega) x.f3 (n + 1 + 1 + 1) (Nat.le_refl _) (by omega) (by omega) (by omega)) ?_
    exact hr
theorem laws_markCondS_ev (l : List S80) (h : l.length + (l.map n80).sum ≤ 2097152) (n : Int) (h0 : 0 ≤ n) (hB : n + ((l.map ct80).sum : Nat) ≤ 4611686018427387904) : Ev (fun k => laws_markCondS.f k l n) (n + ((l.map ct80).sum : Nat), (acc mk80 l n).1) := laws_markCondS_evN _ l n (Nat.le_refl _) h h0 hB

-- laws_markRuleS
def ct82 (x : S82) : Nat := 6 + (x.f3.f3.map ct80).sum
def mk82 (x : S82) (n : Int) : S82 × Int := ((⟨n, n + 1, n + 1 + 1, (⟨n + 1 + 1 + 1, n + 1 + 1 + 1 + 1, n + 1 + 1 + 1 + 1 + 1, (acc mk80 x.f3.f3 (n + 1 + 1 + 1 + 1 + 1 + 1)).1⟩ : S80)⟩ : S82), n + 1 + 1 + 1 + 1 + 1 + 1 + ((x.f3.f3.map ct80).sum : Nat))
theorem mk82_up (x : S82) (n : Int) : (mk82 x n).2 = n + (ct82 x : Nat) := by
  simp only [mk82, ct82]
  omega
theorem ct82_bd (x : S82) : ct82 x ≤ 8 + 8 * n82 x := by
  have b0 := sum_ct ct80 x.f3.f3 ct80_bd
  simp only [ct82, n82, n80_f]
  omega
theorem rds_T82 {l : List S82} {i : Nat} {v : S82} (h : i < l.length) : rd_T82 (l.set i v) (i : Int) = v := rd_at_T82 (List.getElem?_set_self h)
theorem laws_markRuleS_ev (l : List S82) (h : l.length + (l.map n82).sum ≤ 2097152) (n : Int) (h0 : 0 ≤ n) (hB : n + ((l.map ct82).sum : Nat) ≤ 4611686018427387904) : Ev (fun k => laws_markRuleS.f k l n) (n + ((l.map ct82).sum : Nat), (acc mk82 l n).1) := by
  unfold laws_markRuleS.f
  refine Ev.eqv (by rw [acc_up mk82 ct82 mk82_up]) (ev_markB mk82 ct82 4611686018427387904 mk82_up (fun k l n i => laws_markRuleS.l0 k l n i) l ?_ ?_ n h0 hB)
  · intro l' n hl
    refine Ev.succ ?_
    simp only [laws_markRuleS.l0, hl, Int.lt_irrefl, if_false]
    exact Ev.now _
  · intro l' i x n r hl hm hx h0 hc hr
    have hi := lt_of_get hx
    have h1 : ((i : Int) < (l'.length : Int)) = True := eq_true (by omega)
    have h2 : (0 ≤ (i : Int)) = True := eq_true (by omega)
    simp only [ct82] at hc
    obtain ⟨jm, hjm⟩ := List.getElem?_of_mem hm
    have hn := le_sum n82 hjm
    simp only [n82, n80_f] at hn
    have e0 : wrap64 (n + 1) = n + 1 := wr (by omega) (by omega)
    have e1 : wrap64 (n + 1 + 1) = n + 1 + 1 := wr (by omega) (by omega)
    have e2 : wrap64 (n + 1 + 1 + 1) = n + 1 + 1 + 1 := wr (by omega) (by omega)
    have e3 : wrap64 (n + 1 + 1 + 1 + 1) = n + 1 + 1 + 1 + 1 := wr (by omega) (by omega)
    have e4 : wrap64 (n + 1 + 1 + 1 + 1 + 1) = n + 1 + 1 + 1 + 1 + 1 := wr (by omega) (by omega)
    have e5 : wrap64 (n + 1 + 1 + 1 + 1 + 1 + 1) = n + 1 + 1 + 1 + 1 + 1 + 1 := wr (by omega) (by omega)
    simp only [mk82] at hr
    refine Ev.succ ?_
    simp only [laws_markRuleS.l0, h1, h2, if_true, Option.bind_some, List.length_set, List.set_set, Int.toNat_natCast, wr1 hi (by omega), rd_at_T82 hx, rds_T82 hi, e0, e1, e2, e3, e4, e5]
    refine Ev.bind (laws_markCondS_ev x.f3.f3 (by omega) (n + 1 + 1 + 1 + 1 + 1 + 1) (by omega) (by omega)) ?_
    (try simp only [h1, h2, if_true, Option.bind_some, List.length_set, List.set_set, Int.toNat_natCast, wr1 hi (by omega), rd_at_T82 hx, rds_T82 hi, e0, e1, e2, e3, e4, e5])
    exact hr

-- laws_markEpochS
def ct115 (x : S115) : Nat := 3 + (x.f2.map ct75).sum + (x.f3.f1.map ct82).sum
def mk115 (x : S115) (n : Int) : S115 × Int := ((⟨n, n + 1, (acc mk75 x.f2 (n + 1 + 1)).1, (⟨n + 1 + 1 + ((x.f2.map ct75).sum : Nat), (acc mk82 x.f3.f1 (n + 1 + 1 + ((x.f2.map ct75).sum : Nat) + 1)).1⟩ : S113)⟩ : S115), n + 1 + 1 + ((x.f2.map ct75).sum : Nat) + 1 + ((x.f3.f1.map ct82).sum : Nat))
theorem mk115_up (x : S115) (n : Int) : (mk115 x n).2 = n + (ct115 x : Nat) := by
  simp only [mk115, ct115]
  omega
theorem ct115_bd (x : S115) : ct115 x ≤ 8 + 8 * n115 x := by
  have b0 := sum_ct0 ct75 x.f2 ct75_bd
  have b1 := sum_ct ct82 x.f3.f1 ct82_bd
  simp only [ct115, n115, n113]
  omega
theorem rds_T115 {l : List S115} {i : Nat} {v : S115} (h : i < l.length) : rd_T115 (l.set i v) (i : Int) = v := rd_at_T115 (List.getElem?_set_self h)
theorem laws_markEpochS_ev (l : List S115) (h : l.length + (l.map n115).sum ≤ 2097152) (n : Int) (h0 : 0 ≤ n) (hB : n + ((l.map ct115).sum : Nat) ≤ 4611686018427387904) : Ev (fun k => laws_markEpochS.f k l n) (n + ((l.map ct115).sum : Nat), (acc mk115 l n).1) := by
  unfold laws_markEpochS.f
  refine Ev.eqv (by rw [acc_up mk115 ct115 mk115_up]) (ev_markB mk115 ct115 4611686018427387904 mk115_up (fun k l n i => laws_markEpochS.l0 k l n i) l ?_ ?_ n h0 hB)
  · intro l' n hl
    refine Ev.succ ?_
    simp only [laws_markEpochS.l0, hl, Int.lt_irrefl, if_false]
    exact Ev.now _
  · intro l' i x n r hl hm hx h0 hc hr
    have hi := lt_of_get hx
    have h1 : ((i : Int) < (l'.length : Int)) = True := eq_true (by omega)
    have h2 : (0 ≤ (i : Int)) = True := eq_true (by omega)
    simp only [ct115] at hc
    obtain ⟨jm, hjm⟩ := List.getElem?_of_mem hm
    have hn := le_sum n115 hjm
    simp only [n115, n113] at hn
    have e0 : wrap64 (n + 1) = n + 1 := wr (by omega) (by omega)
    have e1 : wrap64 (n + 1 + 1) = n + 1 + 1 := wr (by omega) (by omega)
    have e2 : wrap64 (n + 1 + 1 + ((x.f2.map ct75).sum : Nat) + 1) = n + 1 + 1 + ((x.f2.map ct75).sum : Nat) + 1 := wr (by omega) (by omega)
    simp only [mk115] at hr
    refine Ev.succ ?_
    simp only [laws_markEpochS.l0, h1, h2, if_true, Option.bind_some, List.length_set, List.set_set, Int.toNat_natCast, wr1 hi (by omega), rd_at_T115 hx, rds_T115 hi, e0, e1, e2]
    refine Ev.bind (laws_markIncludesS_ev x.f2 (by omega) (n + 1 + 1) (by omega) (by omega)) ?_
    (try simp only [h1, h2, if_true, Option.bind_some, List.length_set, List.set_set, Int.toNat_natCast, wr1 hi (by omega), rd_at_T115 hx, rds_T115 hi, e0, e1, e2])
    refine Ev.bind (laws_markRuleS_ev x.f3.f1 (by omega) (n + 1 + 1 + ((x.f2.map ct75).sum : Nat) + 1) (by omega) (by omega)) ?_
    (try simp only [h1, h2, if_true, Option.bind_some, List.length_set, List.set_set, Int.toNat_natCast, wr1 hi (by omega), rd_at_T115 hx, rds_T115 hi, e0, e1, e2])
    exact hr

-- laws_markFactS
def ct121 (x : S121) : Nat := 6
def mk121 (x : S121) (n : Int) : S121 × Int := ((⟨n, n + 1, n + 1 + 1, n + 1 + 1 + 1, n + 1 + 1 + 1 + 1, n + 1 + 1 + 1 + 1 + 1⟩ : S121), n + 1 + 1 + 1 + 1 + 1 + 1)
theorem mk121_up (x : S121) (n : Int) : (mk121 x n).2 = n + (ct121 x : Nat) := by
  simp only [mk121, ct121]
  omega
theorem ct121_bd (x : S121) : ct121 x ≤ 8 := by simp only [ct121]; omega
theorem rds_T121 {l : List S121} {i : Nat} {v : S121} (h : i < l.length) : rd_T121 (l.set i v) (i : Int) = v := rd_at_T121 (List.getElem?_set_self h)
theorem laws_markFactS_ev (l : List S121) (h : l.length ≤ 2097152) (n : Int) (h0 : 0 ≤ n) (hB : n + ((l.map ct121).sum : Nat) ≤ 4611686018427387904) : Ev (fun k => laws_markFactS.f k l n) (n + ((l.map ct121).sum : Nat), (acc mk121 l n).1) := by
  unfold laws_markFactS.f
  refine Ev.eqv (by rw [acc_up mk121 ct121 mk121_up]) (ev_markB mk121 ct121 4611686018427387904 mk121_up (fun k l n i => laws_markFactS.l0 k l n i) l ?_ ?_ n h0 hB)
  · intro l' n hl
    refine Ev.succ ?_
    simp only [laws_markFactS.l0, hl, Int.lt_irrefl, if_false]
    exact Ev.now _
  · intro l' i x n r hl hm hx h0 hc hr
    have hi := lt_of_get hx
    have h1 : ((i : Int) < (l'.length : Int)) = True := eq_true (by omega)
    have h2 : (0 ≤ (i : Int)) = True := eq_true (by omega)
    simp only [ct121] at hc
    have e0 : wrap64 (n + 1) = n + 1 := wr (by omega) (by omega)
    have e1 : wrap64 (n + 1 + 1) = n + 1 + 1 := wr (by omega) (by omega)
    have e2 : wrap64 (n + 1 + 1 + 1) = n + 1 + 1 + 1 := wr (by omega) (by omega)
    have e3 : wrap64 (n + 1 + 1 + 1 + 1) = n + 1 + 1 + 1 + 1 := wr (by omega) (by omega)
    have e4 : wrap64 (n + 1 + 1 + 1 + 1 + 1) = n + 1 + 1 + 1 + 1 + 1 := wr (by omega) (by omega)
    have e5 : wrap64 (n + 1 + 1 + 1 + 1 + 1 + 1) = n + 1 + 1 + 1 + 1 + 1 + 1 := wr (by omega) (by omega)
    simp only [mk121] at hr
    refine Ev.succ ?_
    simp only [laws_markFactS.l0, h1, h2, if_true, Option.bind_some, List.length_set, List.set_set, Int.toNat_natCast, wr1 hi (by omega), rd_at_T121 hx, rds_T121 hi, e0, e1, e2, e3, e4, e5]
    exact hr

-- laws_markRevokedS
def ct125 (x : S125) : Nat := 2
def mk125 (x : S125) (n : Int) : S125 × Int := ((⟨n, n + 1⟩ : S125), n + 1 + 1)
theorem mk125_up (x : S125) (n : Int) : (mk125 x n).2 = n + (ct125 x : Nat) := by
  simp only [mk125, ct125]
  omega
theorem ct125_bd (x : S125) : ct125 x ≤ 8 := by simp only [ct125]; omega
theorem rds_T125 {l : List S125} {i : Nat} {v : S125} (h : i < l.length) : rd_T125 (l.set i v) (i : Int) = v := rd_at_T125 (List.getElem?_set_self h)
theorem laws_markRevokedS_ev (l : List S125) (h : l.length ≤ 2097152) (n : Int) (h0 : 0 ≤ n) (hB : n + ((l.map ct125).sum : Nat) ≤ 4611686018427387904) : Ev (fun k => laws_markRevokedS.f k l n) (n + ((l.map ct125).sum : Nat), (acc mk125 l n).1) := by
  unfold laws_markRevokedS.f
  refine Ev.eqv (by rw [acc_up mk125 ct125 mk125_up]) (ev_markB mk125 ct125 4611686018427387904 mk125_up (fun k l n i => laws_markRevokedS.l0 k l n i) l ?_ ?_ n h0 hB)
  · intro l' n hl
    refine Ev.succ ?_
    simp only [laws_markRevokedS.l0, hl, Int.lt_irrefl, if_false]
    exact Ev.now _
  · intro l' i x n r hl hm hx h0 hc hr
    have hi := lt_of_get hx
    have h1 : ((i : Int) < (l'.length : Int)) = True := eq_true (by omega)
    have h2 : (0 ≤ (i : Int)) = True := eq_true (by omega)
    simp only [ct125] at hc
    have e0 : wrap64 (n + 1) = n + 1 := wr (by omega) (by omega)
    have e1 : wrap64 (n + 1 + 1) = n + 1 + 1 := wr (by omega) (by omega)
    simp only [mk125] at hr
    refine Ev.succ ?_
    simp only [laws_markRevokedS.l0, h1, h2, if_true, Option.bind_some, List.length_set, List.set_set, Int.toNat_natCast, wr1 hi (by omega), rd_at_T125 hx, rds_T125 hi, e0, e1]
    exact hr

-- laws_markCertS
def ct129 (x : S129) : Nat := 6
def mk129 (x : S129) (n : Int) : S129 × Int := ((⟨n, n + 1, n + 1 + 1, n + 1 + 1 + 1, n + 1 + 1 + 1 + 1, n + 1 + 1 + 1 + 1 + 1⟩ : S129), n + 1 + 1 + 1 + 1 + 1 + 1)
theorem mk129_up (x : S129) (n : Int) : (mk129 x n).2 = n + (ct129 x : Nat) := by
  simp only [mk129, ct129]
  omega
theorem ct129_bd (x : S129) : ct129 x ≤ 8 := by simp only [ct129]; omega
theorem rds_T129 {l : List S129} {i : Nat} {v : S129} (h : i < l.length) : rd_T129 (l.set i v) (i : Int) = v := rd_at_T129 (List.getElem?_set_self h)
theorem laws_markCertS_ev (l : List S129) (h : l.length ≤ 2097152) (n : Int) (h0 : 0 ≤ n) (hB : n + ((l.map ct129).sum : Nat) ≤ 4611686018427387904) : Ev (fun k => laws_markCertS.f k l n) (n + ((l.map ct129).sum : Nat), (acc mk129 l n).1) := by
  unfold laws_markCertS.f
  refine Ev.eqv (by rw [acc_up mk129 ct129 mk129_up]) (ev_markB mk129 ct129 4611686018427387904 mk129_up (fun k l n i => laws_markCertS.l0 k l n i) l ?_ ?_ n h0 hB)
  · intro l' n hl
    refine Ev.succ ?_
    simp only [laws_markCertS.l0, hl, Int.lt_irrefl, if_false]
    exact Ev.now _
  · intro l' i x n r hl hm hx h0 hc hr
    have hi := lt_of_get hx
    have h1 : ((i : Int) < (l'.length : Int)) = True := eq_true (by omega)
    have h2 : (0 ≤ (i : Int)) = True := eq_true (by omega)
    simp only [ct129] at hc
    have e0 : wrap64 (n + 1) = n + 1 := wr (by omega) (by omega)
    have e1 : wrap64 (n + 1 + 1) = n + 1 + 1 := wr (by omega) (by omega)
    have e2 : wrap64 (n + 1 + 1 + 1) = n + 1 + 1 + 1 := wr (by omega) (by omega)
    have e3 : wrap64 (n + 1 + 1 + 1 + 1) = n + 1 + 1 + 1 + 1 := wr (by omega) (by omega)
    have e4 : wrap64 (n + 1 + 1 + 1 + 1 + 1) = n + 1 + 1 + 1 + 1 + 1 := wr (by omega) (by omega)
    have e5 : wrap64 (n + 1 + 1 + 1 + 1 + 1 + 1) = n + 1 + 1 + 1 + 1 + 1 + 1 := wr (by omega) (by omega)
    simp only [mk129] at hr
    refine Ev.succ ?_
    simp only [laws_markCertS.l0, h1, h2, if_true, Option.bind_some, List.length_set, List.set_set, Int.toNat_natCast, wr1 hi (by omega), rd_at_T129 hx, rds_T129 hi, e0, e1, e2, e3, e4, e5]
    exact hr

-- laws_markCenter
/-- Where the marks of a center's rows begin. -/
def q140 (x : S40) : Int := 1 + ((x.f0.map ct117).sum : Nat)
def q240 (x : S40) : Int := q140 x + ((x.f1.map ct115).sum : Nat)
def q340 (x : S40) : Int := q240 x + ((x.f2.map ct121).sum : Nat)
def q440 (x : S40) : Int := q340 x + ((x.f3.map ct125).sum : Nat)
def q540 (x : S40) : Int := q440 x + ((x.f5.map ct129).sum : Nat)
def mkX40 (x : S40) : S40 := ⟨(acc mk117 x.f0 1).1, (acc mk115 x.f1 (q140 x)).1, (acc mk121 x.f2 (q240 x)).1, (acc mk125 x.f3 (q340 x)).1, x.f4, (acc mk129 x.f5 (q440 x)).1⟩
theorem q_bd40 (x : S40) (h : n40 x ≤ 2097152) : (0 ≤ q140 x ∧ q140 x ≤ 16777217) ∧ (0 ≤ q240 x ∧ q240 x ≤ 33554433) ∧ (0 ≤ q340 x ∧ q340 x ≤ 67108865) ∧ (0 ≤ q440 x ∧ q440 x ≤ 134217729) ∧ (0 ≤ q540 x ∧ q540 x ≤ 268435457) := by
  unfold n40 at h
  have b0 := sum_ct ct117 x.f0 ct117_bd
  have b1 := sum_ct ct115 x.f1 ct115_bd
  have b2 := sum_ct0 ct121 x.f2 ct121_bd
  have b3 := sum_ct0 ct125 x.f3 ct125_bd
  have b5 := sum_ct0 ct129 x.f5 ct129_bd
  simp only [q140, q240, q340, q440, q540]
  omega
theorem laws_markCenter_ev (x : S40) (h : n40 x ≤ 2097152) : Ev (fun k => laws_markCenter.f k x.f0 x.f1 x.f2 x.f3 x.f4 x.f5 1) (q540 x, (mkX40 x).f0, (mkX40 x).f1, (mkX40 x).f2, (mkX40 x).f3, (mkX40 x).f5) := by
  obtain ⟨⟨g1, g1'⟩, ⟨g2, g2'⟩, ⟨g3, g3'⟩, ⟨g4, g4'⟩, ⟨g5, g5'⟩⟩ := q_bd40 x h
  have hn := h
  unfold n40 at hn
  have e1 : 1 + ((x.f0.map ct117).sum : Int) = q140 x := rfl
  unfold laws_markCenter.f
  refine Ev.bind (laws_markIssuerS_ev x.f0 (by omega) (1) (by omega) (show q140 x ≤ _ by omega)) ?_
  refine Ev.bind (laws_markEpochS_ev x.f1 (by omega) (q140 x) (by omega) (show q240 x ≤ _ by omega)) ?_
  refine Ev.bind (laws_markFactS_ev x.f2 (by omega) (q240 x) (by omega) (show q340 x ≤ _ by omega)) ?_
  refine Ev.bind (laws_markRevokedS_ev x.f3 (by omega) (q340 x) (by omega) (show q440 x ≤ _ by omega)) ?_
  refine Ev.bind (laws_markCertS_ev x.f5 (by omega) (q440 x) (by omega) (show q540 x ≤ _ by omega)) ?_
  exact Ev.now _

-- laws_heldIntS
theorem laws_heldIntS_ev (l : List Int) (h : l.length ≤ 2097152) (n : Int) (h0 : 0 ≤ n) (hB : n + ((l.map ctI).sum : Nat) ≤ 4611686018427387904) : Ev (fun k => laws_heldIntS.f k (acc mkI l n).1 n) (n + ((l.map ctI).sum : Nat)) := by
  unfold laws_heldIntS.f
  refine Ev.eqv (acc_up mkI ctI mkI_up l n) (ev_held2 mkI ctI 4611686018427387904 (fun x n _ _ => mkI_up x n) (fun k l n i => laws_heldIntS.l0 k l n i) l ?_ ?_ n h0 hB)
  · intro l' n hl
    refine Ev.succ ?_
    simp only [laws_heldIntS.l0, hl, Int.lt_irrefl, if_false]
    exact Ev.now _
  · intro l' i x n r hl hm h0 hc hx hr
    have hi := lt_of_get hx
    have h1 : ((i : Int) < (l'.length : Int)) = True := eq_true (by omega)
    have h2 : (0 ≤ (i : Int)) = True := eq_true (by omega)
    simp only [ctI] at hc
    have e0 : wrap64 (n + 1) = n + 1 := wr (by omega) (by omega)
    simp only [mkI] at hr
    refine Ev.succ ?_
    simp only [laws_heldIntS.l0, h1, h2, if_true, wr1 hi (by omega), rd_nat l' i _ hx, mkI, e0]
    exact hr

-- laws_heldIssuerS
theorem laws_heldIssuerS_ev (l : List S117) (h : l.length + (l.map n117).sum ≤ 2097152) (n : Int) (h0 : 0 ≤ n) (hB : n + ((l.map ct117).sum : Nat) ≤ 4611686018427387904) : Ev (fun k => laws_heldIssuerS.f k (acc mk117 l n).1 n) (n + ((l.map ct117).sum : Nat)) := by
  unfold laws_heldIssuerS.f
  refine Ev.eqv (acc_up mk117 ct117 mk117_up l n) (ev_held2 mk117 ct117 4611686018427387904 (fun x n _ _ => mk117_up x n) (fun k l n i => laws_heldIssuerS.l0 k l n i) l ?_ ?_ n h0 hB)
  · intro l' n hl
    refine Ev.succ ?_
    simp only [laws_heldIssuerS.l0, hl, Int.lt_irrefl, if_false]
    exact Ev.now _
  · intro l' i x n r hl hm h0 hc hx hr
    have hi := lt_of_get hx
    have h1 : ((i : Int) < (l'.length : Int)) = True := eq_true (by omega)
    have h2 : (0 ≤ (i : Int)) = True := eq_true (by omega)
    simp only [ct117] at hc
    obtain ⟨jm, hjm⟩ := List.getElem?_of_mem hm
    have hn := le_sum n117 hjm
    simp only [n117] at hn
    have e0 : wrap64 (n + 1) = n + 1 := wr (by omega) (by omega)
    have e1 : wrap64 (n + 1 + ((x.f1.map ctI).sum : Nat) + 1) = n + 1 + ((x.f1.map ctI).sum : Nat) + 1 := wr (by omega) (by omega)
    simp only [mk117] at hr
    refine Ev.succ ?_
    simp only [laws_heldIssuerS.l0, h1, h2, if_true, wr1 hi (by omega), rd_at_T117 hx, mk117, e0, e1]
    refine Ev.bind (laws_heldIntS_ev x.f1 (by omega) (n + 1) (by omega) (by omega)) ?_
    refine Ev.neg (by omega) ?_
    (try simp only [h1, h2, if_true, wr1 hi (by omega), rd_at_T117 hx, mk117, e0, e1])
    exact hr

-- laws_heldIncludesS
theorem laws_heldIncludesS_ev (l : List S75) (h : l.length ≤ 2097152) (n : Int) (h0 : 0 ≤ n) (hB : n + ((l.map ct75).sum : Nat) ≤ 4611686018427387904) : Ev (fun k => laws_heldIncludesS.f k (acc mk75 l n).1 n) (n + ((l.map ct75).sum : Nat)) := by
  unfold laws_heldIncludesS.f
  refine Ev.eqv (acc_up mk75 ct75 mk75_up l n) (ev_held2 mk75 ct75 4611686018427387904 (fun x n _ _ => mk75_up x n) (fun k l n i => laws_heldIncludesS.l0 k l n i) l ?_ ?_ n h0 hB)
  · intro l' n hl
    refine Ev.succ ?_
    simp only [laws_heldIncludesS.l0, hl, Int.lt_irrefl, if_false]
    exact Ev.now _
  · intro l' i x n r hl hm h0 hc hx hr
    have hi := lt_of_get hx
    have h1 : ((i : Int) < (l'.length : Int)) = True := eq_true (by omega)
    have h2 : (0 ≤ (i : Int)) = True := eq_true (by omega)
    simp only [ct75] at hc
    have e0 : wrap64 (n + 1) = n + 1 := wr (by omega) (by omega)
    have e1 : wrap64 (n + 1 + 1) = n + 1 + 1 := wr (by omega) (by omega)
    simp only [mk75] at hr
    refine Ev.succ ?_
    simp only [laws_heldIncludesS.l0, h1, h2, if_true, wr1 hi (by omega), rd_at_T75 hx, mk75, e0, e1]
    exact hr

-- laws_heldCondS
theorem laws_heldCondS_evN (N : Nat) : ∀ (l : List S80) (n : Int), l.length + (l.map n80).sum ≤ N → N ≤ 2097152 → 0 ≤ n → n + ((l.map ct80).sum : Nat) ≤ 4611686018427387904 → Ev (fun k => laws_heldCondS.f k (acc mk80 l n).1 n) (n + ((l.map ct80).sum : Nat)) := by
  induction N using Nat.strongRecOn with
  | _ N ih =>
  intro l n h hN h0 hB
  refine Ev.succ ?_
  simp only [laws_heldCondS.f]
  refine Ev.eqv (acc_up mk80 ct80 mk80_up l n) (ev_held2 mk80 ct80 4611686018427387904 (fun x n _ _ => mk80_up x n) (fun k l n i => laws_heldCondS.l0 k l n i) l ?_ ?_ n h0 hB)
  · intro l' n hl
    refine Ev.succ ?_
    simp only [laws_heldCondS.l0, hl, Int.lt_irrefl, if_false]
    exact Ev.now _
  · intro l' i x n r hl hm h0 hc hx hr
    have hi := lt_of_get hx
    have h1 : ((i : Int) < (l'.length : Int)) = True := eq_true (by omega)
    have h2 : (0 ≤ (i : Int)) = True := eq_true (by omega)
    rw [ctC_f] at hc
    obtain ⟨jm, hjm⟩ := List.getElem?_of_mem hm
    have hn := le_sum n80 hjm
    have hlt := lt_of_get hjm
    rw [n80_f] at hn
    have e0 : wrap64 (n + 1) = n + 1 := wr (by omega) (by omega)
    have e1 : wrap64 (n + 1 + 1) = n + 1 + 1 := wr (by omega) (by omega)
    have e2 : wrap64 (n + 1 + 1 + 1) = n + 1 + 1 + 1 := wr (by omega) (by omega)
    have R := rd_at_T80 hx
    rw [mkC_f] at hr R
    refine Ev.succ ?_
    simp only [laws_heldCondS.l0, h1, h2, if_true, wr1 hi (by omega), R, e0, e1, e2]
    refine Ev.bind (ih (x.f3.length + (x.f3.map n80).sum) (by omega) x.f3 (n + 1 + 1 + 1) (Nat.le_refl _) (by omega) (by omega) (by omega)) ?_
    refine Ev.neg (by omega) ?_
    exact hr
theorem laws_heldCondS_ev (l : List S80) (h : l.length + (l.map n80).sum ≤ 2097152) (n : Int) (h0 : 0 ≤ n) (hB : n + ((l.map ct80).sum : Nat) ≤ 4611686018427387904) : Ev (fun k => laws_heldCondS.f k (acc mk80 l n).1 n) (n + ((l.map ct80).sum : Nat)) := laws_heldCondS_evN _ l n (Nat.le_refl _) h h0 hB

-- laws_heldRuleS
theorem laws_heldRuleS_ev (l : List S82) (h : l.length + (l.map n82).sum ≤ 2097152) (n : Int) (h0 : 0 ≤ n) (hB : n + ((l.map ct82).sum : Nat) ≤ 4611686018427387904) : Ev (fun k => laws_heldRuleS.f k (acc mk82 l n).1 n) (n + ((l.map ct82).sum : Nat)) := by
  unfold laws_heldRuleS.f
  refine Ev.eqv (acc_up mk82 ct82 mk82_up l n) (ev_held2 mk82 ct82 4611686018427387904 (fun x n _ _ => mk82_up x n) (fun k l n i => laws_heldRuleS.l0 k l n i) l ?_ ?_ n h0 hB)
  · intro l' n hl
    refine Ev.succ ?_
    simp only [laws_heldRuleS.l0, hl, Int.lt_irrefl, if_false]
    exact Ev.now _
  · intro l' i x n r hl hm h0 hc hx hr
    have hi := lt_of_get hx
    have h1 : ((i : Int) < (l'.length : Int)) = True := eq_true (by omega)
    have h2 : (0 ≤ (i : Int)) = True := eq_true (by omega)
    simp only [ct82] at hc
    obtain ⟨jm, hjm⟩ := List.getElem?_of_mem hm
    have hn := le_sum n82 hjm
    simp only [n82, n80_f] at hn
    have e0 : wrap64 (n + 1) = n + 1 := wr (by omega) (by omega)
    have e1 : wrap64 (n + 1 + 1) = n + 1 + 1 := wr (by omega) (by omega)
    have e2 : wrap64 (n + 1 + 1 + 1) = n + 1 + 1 + 1 := wr (by omega) (by omega)
    have e3 : wrap64 (n + 1 + 1 + 1 + 1) = n + 1 + 1 + 1 + 1 := wr (by omega) (by omega)
    have e4 : wrap64 (n + 1 + 1 + 1 + 1 + 1) = n + 1 + 1 + 1 + 1 + 1 := wr (by omega) (by omega)
    have e5 : wrap64 (n + 1 + 1 + 1 + 1 + 1 + 1) = n + 1 + 1 + 1 + 1 + 1 + 1 := wr (by omega) (by omega)
    simp only [mk82] at hr
    refine Ev.succ ?_
    simp only [laws_heldRuleS.l0, h1, h2, if_true, wr1 hi (by omega), rd_at_T82 hx, mk82, e0, e1, e2, e3, e4, e5]
    refine Ev.bind (laws_heldCondS_ev x.f3.f3 (by omega) (n + 1 + 1 + 1 + 1 + 1 + 1) (by omega) (by omega)) ?_
    refine Ev.neg (by omega) ?_
    (try simp only [h1, h2, if_true, wr1 hi (by omega), rd_at_T82 hx, mk82, e0, e1, e2, e3, e4, e5])
    exact hr

-- laws_heldEpochS
theorem laws_heldEpochS_ev (l : List S115) (h : l.length + (l.map n115).sum ≤ 2097152) (n : Int) (h0 : 0 ≤ n) (hB : n + ((l.map ct115).sum : Nat) ≤ 4611686018427387904) : Ev (fun k => laws_heldEpochS.f k (acc mk115 l n).1 n) (n + ((l.map ct115).sum : Nat)) := by
  unfold laws_heldEpochS.f
  refine Ev.eqv (acc_up mk115 ct115 mk115_up l n) (ev_held2 mk115 ct115 4611686018427387904 (fun x n _ _ => mk115_up x n) (fun k l n i => laws_heldEpochS.l0 k l n i) l ?_ ?_ n h0 hB)
  · intro l' n hl
    refine Ev.succ ?_
    simp only [laws_heldEpochS.l0, hl, Int.lt_irrefl, if_false]
    exact Ev.now _
  · intro l' i x n r hl hm h0 hc hx hr
    have hi := lt_of_get hx
    have h1 : ((i : Int) < (l'.length : Int)) = True := eq_true (by omega)
    have h2 : (0 ≤ (i : Int)) = True := eq_true (by omega)
    simp only [ct115] at hc
    obtain ⟨jm, hjm⟩ := List.getElem?_of_mem hm
    have hn := le_sum n115 hjm
    simp only [n115, n113] at hn
    have e0 : wrap64 (n + 1) = n + 1 := wr (by omega) (by omega)
    have e1 : wrap64 (n + 1 + 1) = n + 1 + 1 := wr (by omega) (by omega)
    have e2 : wrap64 (n + 1 + 1 + ((x.f2.map ct75).sum : Nat) + 1) = n + 1 + 1 + ((x.f2.map ct75).sum : Nat) + 1 := wr (by omega) (by omega)
    simp only [mk115] at hr
    refine Ev.succ ?_
    simp only [laws_heldEpochS.l0, h1, h2, if_true, wr1 hi (by omega), rd_at_T115 hx, mk115, e0, e1, e2]
    refine Ev.bind (laws_heldIncludesS_ev x.f2 (by omega) (n + 1 + 1) (by omega) (by omega)) ?_
    refine Ev.neg (by omega) ?_
    (try simp only [h1, h2, if_true, wr1 hi (by omega), rd_at_T115 hx, mk115, e0, e1, e2])
    refine Ev.bind (laws_heldRuleS_ev x.f3.f1 (by omega) (n + 1 + 1 + ((x.f2.map ct75).sum : Nat) + 1) (by omega) (by omega)) ?_
    refine Ev.neg (by omega) ?_
    (try simp only [h1, h2, if_true, wr1 hi (by omega), rd_at_T115 hx, mk115, e0, e1, e2])
    exact hr

-- laws_heldFactS
theorem laws_heldFactS_ev (l : List S121) (h : l.length ≤ 2097152) (n : Int) (h0 : 0 ≤ n) (hB : n + ((l.map ct121).sum : Nat) ≤ 4611686018427387904) : Ev (fun k => laws_heldFactS.f k (acc mk121 l n).1 n) (n + ((l.map ct121).sum : Nat)) := by
  unfold laws_heldFactS.f
  refine Ev.eqv (acc_up mk121 ct121 mk121_up l n) (ev_held2 mk121 ct121 4611686018427387904 (fun x n _ _ => mk121_up x n) (fun k l n i => laws_heldFactS.l0 k l n i) l ?_ ?_ n h0 hB)
  · intro l' n hl
    refine Ev.succ ?_
    simp only [laws_heldFactS.l0, hl, Int.lt_irrefl, if_false]
    exact Ev.now _
  · intro l' i x n r hl hm h0 hc hx hr
    have hi := lt_of_get hx
    have h1 : ((i : Int) < (l'.length : Int)) = True := eq_true (by omega)
    have h2 : (0 ≤ (i : Int)) = True := eq_true (by omega)
    simp only [ct121] at hc
    have e0 : wrap64 (n + 1) = n + 1 := wr (by omega) (by omega)
    have e1 : wrap64 (n + 1 + 1) = n + 1 + 1 := wr (by omega) (by omega)
    have e2 : wrap64 (n + 1 + 1 + 1) = n + 1 + 1 + 1 := wr (by omega) (by omega)
    have e3 : wrap64 (n + 1 + 1 + 1 + 1) = n + 1 + 1 + 1 + 1 := wr (by omega) (by omega)
    have e4 : wrap64 (n + 1 + 1 + 1 + 1 + 1) = n + 1 + 1 + 1 + 1 + 1 := wr (by omega) (by omega)
    have e5 : wrap64 (n + 1 + 1 + 1 + 1 + 1 + 1) = n + 1 + 1 + 1 + 1 + 1 + 1 := wr (by omega) (by omega)
    simp only [mk121] at hr
    refine Ev.succ ?_
    simp only [laws_heldFactS.l0, h1, h2, if_true, wr1 hi (by omega), rd_at_T121 hx, mk121, e0, e1, e2, e3, e4, e5]
    exact hr

-- laws_heldRevokedS
theorem laws_heldRevokedS_ev (l : List S125) (h : l.length ≤ 2097152) (n : Int) (h0 : 0 ≤ n) (hB : n + ((l.map ct125).sum : Nat) ≤ 4611686018427387904) : Ev (fun k => laws_heldRevokedS.f k (acc mk125 l n).1 n) (n + ((l.map ct125).sum : Nat)) := by
  unfold laws_heldRevokedS.f
  refine Ev.eqv (acc_up mk125 ct125 mk125_up l n) (ev_held2 mk125 ct125 4611686018427387904 (fun x n _ _ => mk125_up x n) (fun k l n i => laws_heldRevokedS.l0 k l n i) l ?_ ?_ n h0 hB)
  · intro l' n hl
    refine Ev.succ ?_
    simp only [laws_heldRevokedS.l0, hl, Int.lt_irrefl, if_false]
    exact Ev.now _
  · intro l' i x n r hl hm h0 hc hx hr
    have hi := lt_of_get hx
    have h1 : ((i : Int) < (l'.length : Int)) = True := eq_true (by omega)
    have h2 : (0 ≤ (i : Int)) = True := eq_true (by omega)
    simp only [ct125] at hc
    have e0 : wrap64 (n + 1) = n + 1 := wr (by omega) (by omega)
    have e1 : wrap64 (n + 1 + 1) = n + 1 + 1 := wr (by omega) (by omega)
    simp only [mk125] at hr
    refine Ev.succ ?_
    simp only [laws_heldRevokedS.l0, h1, h2, if_true, wr1 hi (by omega), rd_at_T125 hx, mk125, e0, e1]
    exact hr

-- laws_heldCertS
theorem laws_heldCertS_ev (l : List S129) (h : l.length ≤ 2097152) (n : Int) (h0 : 0 ≤ n) (hB : n + ((l.map ct129).sum : Nat) ≤ 4611686018427387904) : Ev (fun k => laws_heldCertS.f k (acc mk129 l n).1 n) (n + ((l.map ct129).sum : Nat)) := by
  unfold laws_heldCertS.f
  refine Ev.eqv (acc_up mk129 ct129 mk129_up l n) (ev_held2 mk129 ct129 4611686018427387904 (fun x n _ _ => mk129_up x n) (fun k l n i => laws_heldCertS.l0 k l n i) l ?_ ?_ n h0 hB)
  · intro l' n hl
    refine Ev.succ ?_
    simp only [laws_heldCertS.l0, hl, Int.lt_irrefl, if_false]
    exact Ev.now _
  · intro l' i x n r hl hm h0 hc hx hr
    have hi := lt_of_get hx
    have h1 : ((i : Int) < (l'.length : Int)) = True := eq_true (by omega)
    have h2 : (0 ≤ (i : Int)) = True := eq_true (by omega)
    simp only [ct129] at hc
    have e0 : wrap64 (n + 1) = n + 1 := wr (by omega) (by omega)
    have e1 : wrap64 (n + 1 + 1) = n + 1 + 1 := wr (by omega) (by omega)
    have e2 : wrap64 (n + 1 + 1 + 1) = n + 1 + 1 + 1 := wr (by omega) (by omega)
    have e3 : wrap64 (n + 1 + 1 + 1 + 1) = n + 1 + 1 + 1 + 1 := wr (by omega) (by omega)
    have e4 : wrap64 (n + 1 + 1 + 1 + 1 + 1) = n + 1 + 1 + 1 + 1 + 1 := wr (by omega) (by omega)
    have e5 : wrap64 (n + 1 + 1 + 1 + 1 + 1 + 1) = n + 1 + 1 + 1 + 1 + 1 + 1 := wr (by omega) (by omega)
    simp only [mk129] at hr
    refine Ev.succ ?_
    simp only [laws_heldCertS.l0, h1, h2, if_true, wr1 hi (by omega), rd_at_T129 hx, mk129, e0, e1, e2, e3, e4, e5]
    exact hr

-- laws_heldCenter
theorem laws_heldCenter_ev (x : S40) (h : n40 x ≤ 2097152) : Ev (fun k => laws_heldCenter.f k (mkX40 x).f0 (mkX40 x).f1 (mkX40 x).f2 (mkX40 x).f3 x.f4 (mkX40 x).f5 1) (q540 x) := by
  obtain ⟨⟨g1, g1'⟩, ⟨g2, g2'⟩, ⟨g3, g3'⟩, ⟨g4, g4'⟩, ⟨g5, g5'⟩⟩ := q_bd40 x h
  have hn := h
  unfold n40 at hn
  unfold laws_heldCenter.f
  refine Ev.bind (laws_heldIssuerS_ev x.f0 (by omega) (1) (by omega) (show q140 x ≤ _ by omega)) ?_
  refine Ev.neg (show ¬ q140 x < 0 by omega) ?_
  refine Ev.bind (laws_heldEpochS_ev x.f1 (by omega) (q140 x) (by omega) (show q240 x ≤ _ by omega)) ?_
  refine Ev.neg (show ¬ q240 x < 0 by omega) ?_
  refine Ev.bind (laws_heldFactS_ev x.f2 (by omega) (q240 x) (by omega) (show q340 x ≤ _ by omega)) ?_
  refine Ev.neg (show ¬ q340 x < 0 by omega) ?_
  refine Ev.bind (laws_heldRevokedS_ev x.f3 (by omega) (q340 x) (by omega) (show q440 x ≤ _ by omega)) ?_
  refine Ev.neg (show ¬ q440 x < 0 by omega) ?_
  refine Ev.bind (laws_heldCertS_ev x.f5 (by omega) (q440 x) (by omega) (show q540 x ≤ _ by omega)) ?_
  refine Ev.neg (show ¬ q540 x < 0 by omega) ?_
  exact Ev.now _

-- skip
-- dirs v3 v v2
-- base impl_areNodes impl_IsCond impl_IsRule
-- big
def ctPublishV (x : S40) (p : List S75) (q : List S82) (a : Int) : S40 := ⟨x.f0, (publishV x.f1 p q a).1, x.f2, x.f3, x.f4, x.f5⟩
theorem ctPublish_n (x : S40) (p : List S75) (q : List S82) (a : Int) : n40 (ctPublishV x p q a) ≤ n40 x + 1 + (p.length + (q.length + (q.map n82).sum)) := by
  have := publish_n x.f1 p q a
  unfold ctPublishV n40
  simp only []
  omega
theorem FnExactCenterPublish : laws_FnExactCenterPublish.Pure := by
  intro x l1 l2 t hx h1 _ h2 hg2 _
  refine Ev.rounds ?_
  unfold laws_FnExactCenterPublish.f
  obtain ⟨r, e, hr1, hr⟩ := laws_szCenter_le x hx 1048576 (by omega) (by omega)
  refine Ev.bind e ?_
  by_cases c : r < 0
  · simp only [if_pos c]; exact Ev.now _
  simp only [if_neg c]
  have hb := hr (by omega)
  obtain ⟨r1, e1, hs1, hs⟩ := laws_szIncludesS_le l1 h1 r (by omega) (by omega)
  simp only [e1, Option.bind_some]
  by_cases c1 : r1 < 0
  · simp only [if_pos c1]; exact Ev.now _
  simp only [if_neg c1]
  have hb1 := hs (by omega)
  obtain ⟨r2, e2, ht1, ht⟩ := laws_szRuleS_le l2 h2 hg2 r1 (by omega) (by omega)
  refine Ev.bind e2 ?_
  by_cases c2 : r2 < 0
  · simp only [if_pos c2]; exact Ev.now _
  simp only [if_neg c2]
  have hb2 := ht (by omega)
  have hT := laws_toCenter_ev x (by omega)
  have hT1 := laws_toIncludesS_ev l1 (by omega)
  have hT2 := laws_toRuleS_ev l2 (by omega)
  have hw : n40 (cv28 x) + ((l1.map cv77).length + ((l2.map cv65).length + ((l2.map cv65).map n82).sum)) ≤ 1048576 := by
    have e3 : (l2.map cv65).map n82 = l2.map n65 := by
      rw [List.map_map]
      exact List.map_congr_left fun y _ => ncv65 y
    rw [ncv28, List.length_map, List.length_map, e3]
    omega
  generalize cv28 x = z at hT hw ⊢
  generalize l1.map cv77 = p at hT1 hw ⊢
  generalize l2.map cv65 = q at hT2 hw ⊢
  have hz : n40 z + 1 + (p.length + (q.length + (q.map n82).sum)) ≤ 2097152 := by omega
  have hS := spec_CenterPublish_ev z p q t hz
  have hI := impl_CenterPublish_ev z p q t hz
  have hy : n40 (ctPublishV z p q t) ≤ 2097152 := by have := ctPublish_n z p q t; omega
  have hyE := laws_eqCenter_refl (ctPublishV z p q t) hy
  have hyM := laws_markCenter_ev (ctPublishV z p q t) hy
  have hyH := laws_heldCenter_ev (ctPublishV z p q t) hy
  have qz := (q_bd40 z (by omega)).2.2.2.2
  have qy := (q_bd40 (ctPublishV z p q t) hy).2.2.2.2
  have b1 := sum_ct0 ct75 p ct75_bd
  have b2 := sum_ct ct82 q ct82_bd
  have hm1 := laws_markIncludesS_ev p (by omega) (q540 z) (by omega) (by omega)
  have hm2 := laws_markRuleS_ev q (by omega) (q540 z + ((p.map ct75).sum : Nat)) (by omega) (by omega)
  repeat (first
    | exact Ev.now _
    | ((first | refine Ev.bind hT ?_ | refine Ev.bind hT1 ?_ | refine Ev.bind hT2 ?_ | refine Ev.bind hS ?_ | refine Ev.bind hI ?_ | refine Ev.bind hyE ?_ | refine Ev.bind (laws_eqCenter_refl z (by omega)) ?_ | refine Ev.bind (laws_eqIncludesS_refl p (by omega)) ?_ | refine Ev.bind (laws_eqRuleS_refl q (by omega)) ?_ | refine Ev.bind (laws_markCenter_ev z (by omega)) ?_ | refine Ev.bind hm1 ?_ | refine Ev.bind hm2 ?_ | refine Ev.bind hyM ?_ | refine Ev.bind hyH ?_); try simp only [])
    | refine Ev.neg (show ¬ q540 z + ((p.map ct75).sum : Nat) + ((q.map ct82).sum : Nat) < 0 by omega) ?_
    | refine Ev.neg (show ¬ q540 (ctPublishV z p q t) < 0 by omega) ?_
    | simp only [if_true, bne_self_eq_false, Bool.false_eq_true, if_false])

end Go.Proofs.YtlnimankbhcinaaGreat.Pure
