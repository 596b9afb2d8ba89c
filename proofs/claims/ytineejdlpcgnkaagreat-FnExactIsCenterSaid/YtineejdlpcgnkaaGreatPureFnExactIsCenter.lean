/- The law FnExactIsCenter answers true for all arguments, over numbers and lists alone: what each function computes, and that program and reference compute the same. No condition. -/
import Derived.Test.YtineejdlpcgnkaaGreatQFnExactIsCenterx18
import Derived.Test.YtineejdlpcgnkaaGreatL
namespace Go.Proofs.YtineejdlpcgnkaaGreat.Pure
open Go.RowKit Go.Proofs.YtineejdlpcgnkaaGreat.QFnExactIsCenter Go.Proofs.YtineejdlpcgnkaaGreatL Go.Proofs.YtineejdlpcgnkaaGreatW.PrintWords Go.Proofs.YtineejdlpcgnkaaGreatW.PrintLast
set_option linter.unusedVariables false
set_option linter.unusedSimpArgs false

def cv100 (x : S100) : S110 := ⟨x.f0, x.f1, x.f2⟩
def n100 (x : S100) : Nat := x.f1.length
def cv177 (x : S177) : S161 := ⟨x.f0, x.f1⟩
theorem eta191 (x : S191) : (⟨x.f0, x.f1, x.f2, x.f3⟩ : S191) = x := by cases x; rfl
mutual
def n191 : S191 → Nat
  | ⟨x0, x1, x2, x3⟩ => x3.length + nL191 x3
def nL191 : List S191 → Nat
  | [] => 0
  | x :: l => n191 x + nL191 l
end
theorem nL191_eq : ∀ l : List S191, nL191 l = (l.map n191).sum
  | [] => by simp [nL191]
  | x :: l => by simp [nL191, nL191_eq l]
theorem n191_f (x : S191) : n191 x = x.f3.length + (x.f3.map n191).sum := by
  cases x
  simp only [n191, nL191_eq]
mutual
def cv191 : S191 → S164
  | ⟨x0, x1, x2, x3⟩ => ⟨x0, x1, x2, cvL191 x3⟩
def cvL191 : List S191 → List S164
  | [] => []
  | x :: l => cv191 x :: cvL191 l
end
theorem cvL191_eq : ∀ l : List S191, cvL191 l = l.map cv191
  | [] => by simp [cvL191]
  | x :: l => by simp [cvL191, cvL191_eq l]
theorem cv191_f (x : S191) : cv191 x = ⟨x.f0, x.f1, x.f2, x.f3.map cv191⟩ := by
  cases x
  simp only [cv191, cvL191_eq]
def cv193 (x : S193) : S166 := ⟨x.f0, x.f1, x.f2, (cv191 x.f3)⟩
def n193 (x : S193) : Nat := n191 x.f3
def cv105 (x : S105) : S115 := ⟨x.f0, (x.f1.map cv193)⟩
def n105 (x : S105) : Nat := x.f1.length + (x.f1.map n193).sum
def cv107 (x : S107) : S117 := ⟨x.f0, x.f1, (x.f2.map cv177), (cv105 x.f3)⟩
def n107 (x : S107) : Nat := x.f2.length + n105 x.f3
def cv49 (x : S49) : S53 := ⟨x.f0, x.f1, x.f2, x.f3, x.f4, x.f5⟩
def cv125 (x : S125) : S121 := ⟨x.f0, x.f1⟩
def cv127 (x : S127) : S64 := ⟨x.f0, x.f1, x.f2, x.f3, x.f4, x.f5⟩
def cv28 (x : S28) : S37 := ⟨(x.f0.map cv100), (x.f1.map cv107), (x.f2.map cv49), (x.f3.map cv125), x.f4, (x.f5.map cv127)⟩
def n28 (x : S28) : Nat := x.f0.length + (x.f0.map n100).sum + x.f1.length + (x.f1.map n107).sum + x.f2.length + x.f3.length + x.f5.length
def n110 (x : S110) : Nat := x.f1.length
theorem eta164 (x : S164) : (⟨x.f0, x.f1, x.f2, x.f3⟩ : S164) = x := by cases x; rfl
mutual
def n164 : S164 → Nat
  | ⟨x0, x1, x2, x3⟩ => x3.length + nL164 x3
def nL164 : List S164 → Nat
  | [] => 0
  | x :: l => n164 x + nL164 l
end
theorem nL164_eq : ∀ l : List S164, nL164 l = (l.map n164).sum
  | [] => by simp [nL164]
  | x :: l => by simp [nL164, nL164_eq l]
theorem n164_f (x : S164) : n164 x = x.f3.length + (x.f3.map n164).sum := by
  cases x
  simp only [n164, nL164_eq]
def n166 (x : S166) : Nat := n164 x.f3
def n115 (x : S115) : Nat := x.f1.length + (x.f1.map n166).sum
def n117 (x : S117) : Nat := x.f2.length + n115 x.f3
def n37 (x : S37) : Nat := x.f0.length + (x.f0.map n110).sum + x.f1.length + (x.f1.map n117).sum + x.f2.length + x.f3.length + x.f5.length
theorem rd_at_T100 {l : List S100} {i : Nat} {x : S100} (h : l[i]? = some x) : rd_T100 l (i : Int) = x := getD_nat l _ i x h
theorem rd_at_T177 {l : List S177} {i : Nat} {x : S177} (h : l[i]? = some x) : rd_T177 l (i : Int) = x := getD_nat l _ i x h
theorem rd_at_T191 {l : List S191} {i : Nat} {x : S191} (h : l[i]? = some x) : rd_T191 l (i : Int) = x := getD_nat l _ i x h
theorem rd_at_T193 {l : List S193} {i : Nat} {x : S193} (h : l[i]? = some x) : rd_T193 l (i : Int) = x := getD_nat l _ i x h
theorem rd_at_T105 {l : List S105} {i : Nat} {x : S105} (h : l[i]? = some x) : rd_T105 l (i : Int) = x := getD_nat l _ i x h
theorem rd_at_T107 {l : List S107} {i : Nat} {x : S107} (h : l[i]? = some x) : rd_T107 l (i : Int) = x := getD_nat l _ i x h
theorem rd_at_T49 {l : List S49} {i : Nat} {x : S49} (h : l[i]? = some x) : rd_T49 l (i : Int) = x := getD_nat l _ i x h
theorem rd_at_T125 {l : List S125} {i : Nat} {x : S125} (h : l[i]? = some x) : rd_T125 l (i : Int) = x := getD_nat l _ i x h
theorem rd_at_T127 {l : List S127} {i : Nat} {x : S127} (h : l[i]? = some x) : rd_T127 l (i : Int) = x := getD_nat l _ i x h
theorem rd_at_T28 {l : List S28} {i : Nat} {x : S28} (h : l[i]? = some x) : rd_T28 l (i : Int) = x := getD_nat l _ i x h
theorem rd_at_T64 {l : List S64} {i : Nat} {x : S64} (h : l[i]? = some x) : rd_T64 l (i : Int) = x := getD_nat l _ i x h
theorem rd_at_T110 {l : List S110} {i : Nat} {x : S110} (h : l[i]? = some x) : rd_T110 l (i : Int) = x := getD_nat l _ i x h
theorem rd_at_T161 {l : List S161} {i : Nat} {x : S161} (h : l[i]? = some x) : rd_T161 l (i : Int) = x := getD_nat l _ i x h
theorem rd_at_T164 {l : List S164} {i : Nat} {x : S164} (h : l[i]? = some x) : rd_T164 l (i : Int) = x := getD_nat l _ i x h
theorem rd_at_T166 {l : List S166} {i : Nat} {x : S166} (h : l[i]? = some x) : rd_T166 l (i : Int) = x := getD_nat l _ i x h
theorem rd_at_T115 {l : List S115} {i : Nat} {x : S115} (h : l[i]? = some x) : rd_T115 l (i : Int) = x := getD_nat l _ i x h
theorem rd_at_T117 {l : List S117} {i : Nat} {x : S117} (h : l[i]? = some x) : rd_T117 l (i : Int) = x := getD_nat l _ i x h
theorem rd_at_T53 {l : List S53} {i : Nat} {x : S53} (h : l[i]? = some x) : rd_T53 l (i : Int) = x := getD_nat l _ i x h
theorem rd_at_T121 {l : List S121} {i : Nat} {x : S121} (h : l[i]? = some x) : rd_T121 l (i : Int) = x := getD_nat l _ i x h
theorem rd_at_T37 {l : List S37} {i : Nat} {x : S37} (h : l[i]? = some x) : rd_T37 l (i : Int) = x := getD_nat l _ i x h
theorem rd_at_rowI {l : List (List Int)} {i : Nat} {x : List Int} (h : l[i]? = some x) : rd_L1 l (i : Int) = x := getD_nat l _ i x h
def eqT64 (x y : S64) : Bool := (x.f0 == y.f0) && ((x.f1 == y.f1) && ((x.f2 == y.f2) && ((x.f3 == y.f3) && ((x.f4 == y.f4) && ((x.f5 == y.f5))))))
def eqT161 (x y : S161) : Bool := (x.f0 == y.f0) && ((x.f1 == y.f1))
def eqT53 (x y : S53) : Bool := (x.f0 == y.f0) && ((x.f1 == y.f1) && ((x.f2 == y.f2) && ((x.f3 == y.f3) && ((x.f4 == y.f4) && ((x.f5 == y.f5))))))
def eqT121 (x y : S121) : Bool := (x.f0 == y.f0) && ((x.f1 == y.f1))
theorem ncv100 (x : S100) : n110 (cv100 x) = n100 x := by
  simp only [cv100, n110, n100, List.length_map, List.map_map, Function.comp_def]
theorem ncvN191 (l : List S191) : (cvL191 l).length = l.length := by rw [cvL191_eq, List.length_map]
mutual
theorem ncv191 : ∀ x : S191, n164 (cv191 x) = n191 x
  | ⟨x0, x1, x2, x3⟩ => by simp only [cv191, n164, n191, ncvL191 x3, ncvN191 x3]
theorem ncvL191 : ∀ l : List S191, nL164 (cvL191 l) = nL191 l
  | [] => by simp [cvL191, nL164, nL191]
  | x :: l => by simp only [cvL191, nL164, nL191, ncv191 x, ncvL191 l]
end
theorem ncv193 (x : S193) : n166 (cv193 x) = n193 x := by
  simp only [cv193, n166, n193, List.length_map, List.map_map, Function.comp_def, ncv191]
theorem ncv105 (x : S105) : n115 (cv105 x) = n105 x := by
  simp only [cv105, n115, n105, List.length_map, List.map_map, Function.comp_def, ncv193]
theorem ncv107 (x : S107) : n117 (cv107 x) = n107 x := by
  simp only [cv107, n117, n107, List.length_map, List.map_map, Function.comp_def, ncv105]
theorem ncv28 (x : S28) : n37 (cv28 x) = n28 x := by
  simp only [cv28, n37, n28, List.length_map, List.map_map, Function.comp_def, ncv100, ncv107]

theorem laws_szIntS_le (l : List Int) (hl : l.length ≤ maxLen) (a : Int) (h0 : 0 ≤ a) (ha : a ≤ 1048576) : ∃ r, laws_szIntS.f l a = some r ∧ r ≤ 1048576 ∧ (0 ≤ r → r + (l.length : Nat) ≤ a) := by
  unfold laws_szIntS.f
  unfold maxLen at hl
  rw [wr (by omega) (by omega)]
  split
  · exact ⟨_, rfl, by omega, by omega⟩
  · exact ⟨_, rfl, by omega, by omega⟩

theorem laws_szIssuer_le (x : S100) (hg : g100 x) (a : Int) (h0 : 0 ≤ a) (ha : a ≤ 1048576) : ∃ r, laws_szIssuer.f x.f0 x.f1 x.f2 a = some r ∧ r ≤ 1048576 ∧ (0 ≤ r → r + (n100 x : Nat) ≤ a) := by
  unfold g100 at hg
  unfold n100 laws_szIssuer.f
  obtain ⟨r0, e0, b0, s0⟩ := laws_szIntS_le x.f1 (by have := hg; simp_all) a (by omega) (by omega)
  rw [e0]; simp only [Option.bind_some]
  by_cases c0 : r0 < 0
  · rw [if_pos c0]; exact ⟨_, rfl, by omega, by omega⟩
  rw [if_neg c0]
  have s0' := s0 (by omega)
  exact ⟨_, rfl, by omega, by omega⟩

theorem laws_szIssuerS_le (l : List (S100)) (hl : l.length ≤ maxLen) (hg : ∀ y_ ∈ l, g100 y_) (a : Int) (h0 : 0 ≤ a) (ha : a ≤ 1048576) : ∃ r, Ev (fun k => laws_szIssuerS.f k l a) r ∧ r ≤ 1048576 ∧ (0 ≤ r → r + (l.length + (l.map n100).sum : Nat) ≤ a) := by
  unfold laws_szIssuerS.f
  unfold maxLen at hl
  rw [wr (by omega) (by omega)]
  by_cases c : a - (l.length : Int) < 0
  · simp only [if_pos c]; exact ⟨_, Ev.now _, by omega, by omega⟩
  simp only [if_neg c]
  have hend : ∀ a, Ev (fun k => laws_szIssuerS.l0 k l a (l.length : Int)) a := by
    intro a
    refine Ev.succ ?_
    simp only [laws_szIssuerS.l0, Int.lt_irrefl, if_false]
    exact Ev.now _
  have hstep : ∀ (i : Nat) (x : S100) (a : Int), l[i]? = some x → 0 ≤ a → a ≤ 1048576 → (∃ r, Ev (fun k => laws_szIssuerS.l0 k l a (i : Int)) r ∧ r < 0) ∨ ∃ a', 0 ≤ a' ∧ a' + n100 x ≤ a ∧ ∀ r, Ev (fun k => laws_szIssuerS.l0 k l a' ((i + 1 : Nat) : Int)) r → Ev (fun k => laws_szIssuerS.l0 k l a (i : Int)) r := by
    intro i x a hx h0 ha
    have hi := lt_of_get hx
    have h1 : ((i : Int) < (l.length : Int)) = True := eq_true (by omega)
    have h2 : (0 ≤ (i : Int)) = True := eq_true (by omega)
    obtain ⟨r, e, b, s⟩ := laws_szIssuer_le x (hg x (List.mem_of_getElem? hx)) a h0 ha
    by_cases c2 : r < 0
    · left
      refine ⟨-1, Ev.succ ?_, by omega⟩
      simp only [laws_szIssuerS.l0, h1, h2, if_true, rd_at_T100 hx, e, Option.bind_some, if_pos c2]
      exact Ev.now _
    · right
      have s' := s (by omega)
      refine ⟨r, by omega, by omega, fun r' hr => Ev.succ ?_⟩
      simp only [laws_szIssuerS.l0, h1, h2, if_true, rd_at_T100 hx, e, Option.bind_some, if_neg c2, wr1 hi (by omega)]
      exact hr
  obtain ⟨r, h1, h2, h3⟩ := ev_sz n100 l (fun k a i => laws_szIssuerS.l0 k l a i) 1048576 hend hstep (a - l.length) (by omega) (by omega)
  exact ⟨r, h1, h2, fun h => by have := h3 h; omega⟩

theorem laws_szIncludesS_le (l : List (S177)) (hl : l.length ≤ maxLen) (a : Int) (h0 : 0 ≤ a) (ha : a ≤ 1048576) : ∃ r, laws_szIncludesS.f l a = some r ∧ r ≤ 1048576 ∧ (0 ≤ r → r + (l.length : Nat) ≤ a) := by
  unfold laws_szIncludesS.f
  unfold maxLen at hl
  rw [wr (by omega) (by omega)]
  split
  · exact ⟨_, rfl, by omega, by omega⟩
  · exact ⟨_, rfl, by omega, by omega⟩

theorem gin191 {x : S191} (h : g191 x) : x.f3.length ≤ maxLen ∧ ∀ y ∈ x.f3, g191 y := by
  obtain ⟨k, h⟩ := h
  cases k with
  | zero => exact h.elim
  | succ k =>
    obtain ⟨_, _, _, h1, h2⟩ := (show GF191 _ x from h)
    exact ⟨h1, fun y hy => ⟨k, h2 y hy⟩⟩
theorem laws_szCondS_leN (N : Nat) : ∀ (l : List S191) (hl : l.length ≤ maxLen) (hg : ∀ y ∈ l, g191 y) (a : Int), 0 ≤ a → a ≤ 1048576 → a.toNat ≤ N → ∃ r, Ev (fun k => laws_szCondS.f k l a) r ∧ r ≤ 1048576 ∧ (0 ≤ r → r + (l.length + (l.map n191).sum : Nat) ≤ a) := by
  induction N using Nat.strongRecOn with
  | _ N ih =>
  intro l hl hg a h0 ha hN
  unfold maxLen at hl
  by_cases c : a - (l.length : Int) < 0
  · refine ⟨-1, Ev.succ ?_, by omega, by omega⟩
    simp only [laws_szCondS.f, wr (x := a - (l.length : Int)) (by omega) (by omega), if_pos c]
    exact Ev.now _
  have hend : ∀ a, Ev (fun k => laws_szCondS.l0 k l a (l.length : Int)) a := by
    intro a
    refine Ev.succ ?_
    simp only [laws_szCondS.l0, Int.lt_irrefl, if_false]
    exact Ev.now _
  have hstep : ∀ (i : Nat) (x : S191) (b : Int), l[i]? = some x → 0 ≤ b → b ≤ a - (l.length : Int) → (∃ r, Ev (fun k => laws_szCondS.l0 k l b (i : Int)) r ∧ r < 0) ∨ ∃ a', 0 ≤ a' ∧ a' + n191 x ≤ b ∧ ∀ r, Ev (fun k => laws_szCondS.l0 k l a' ((i + 1 : Nat) : Int)) r → Ev (fun k => laws_szCondS.l0 k l b (i : Int)) r := by
    intro i x b hx hb0 hba
    have hi := lt_of_get hx
    have h1 : ((i : Int) < (l.length : Int)) = True := eq_true (by omega)
    have h2 : (0 ≤ (i : Int)) = True := eq_true (by omega)
    have hgx := gin191 (hg x (List.mem_of_getElem? hx))
    obtain ⟨r, e, br, s⟩ := ih b.toNat (by omega) x.f3 hgx.1 hgx.2 b hb0 (by omega) (Nat.le_refl _)
    have e' : Ev (fun k => laws_szCond.f k x.f0 x.f1 x.f2 x.f3 b) (if r < 0 then -1 else r) := by
      refine Ev.succ ?_
      simp only [laws_szCond.f]
      refine Ev.bind e ?_
      by_cases c2 : r < 0
      · simp only [if_pos c2]; exact Ev.now _
      · simp only [if_neg c2]; exact Ev.now _
    by_cases c2 : r < 0
    · left
      rw [if_pos c2] at e'
      refine ⟨-1, Ev.succ ?_, by omega⟩
      simp only [laws_szCondS.l0, h1, h2, if_true, rd_at_T191 hx]
      refine Ev.bind e' ?_
      exact Ev.pos (by omega) (Ev.now _)
    · right
      rw [if_neg c2] at e'
      have s' := s (by omega)
      rw [← n191_f] at s'
      refine ⟨r, by omega, by omega, fun r' hr => Ev.succ ?_⟩
      simp only [laws_szCondS.l0, h1, h2, if_true, rd_at_T191 hx]
      refine Ev.bind e' ?_
      simp only [if_neg c2, wr1 hi (by omega)]
      exact hr
  obtain ⟨r, h1, h2, h3⟩ := ev_sz n191 l (fun k a i => laws_szCondS.l0 k l a i) (a - (l.length : Int)) hend hstep (a - (l.length : Int)) (by omega) (by omega)
  refine ⟨r, Ev.succ ?_, by omega, fun h => by have := h3 h; omega⟩
  simp only [laws_szCondS.f, wr (x := a - (l.length : Int)) (by omega) (by omega), if_neg c]
  exact h1
theorem laws_szCondS_le (l : List S191) (hl : l.length ≤ maxLen) (hg : ∀ y ∈ l, g191 y) (a : Int) (h0 : 0 ≤ a) (ha : a ≤ 1048576) : ∃ r, Ev (fun k => laws_szCondS.f k l a) r ∧ r ≤ 1048576 ∧ (0 ≤ r → r + (l.length + (l.map n191).sum : Nat) ≤ a) := laws_szCondS_leN _ l hl hg a h0 ha (Nat.le_refl _)
theorem laws_szCond_le (x : S191) (hg : g191 x) (a : Int) (h0 : 0 ≤ a) (ha : a ≤ 1048576) : ∃ r, Ev (fun k => laws_szCond.f k x.f0 x.f1 x.f2 x.f3 a) r ∧ r ≤ 1048576 ∧ (0 ≤ r → r + (n191 x : Nat) ≤ a) := by
  have hgx := gin191 hg
  obtain ⟨r, e, b, s⟩ := laws_szCondS_le x.f3 hgx.1 hgx.2 a h0 ha
  by_cases c : r < 0
  · refine ⟨-1, Ev.succ ?_, by omega, by omega⟩
    simp only [laws_szCond.f]
    refine Ev.bind e ?_
    simp only [if_pos c]; exact Ev.now _
  · refine ⟨r, Ev.succ ?_, b, fun h => by rw [n191_f]; exact s h⟩
    simp only [laws_szCond.f]
    refine Ev.bind e ?_
    simp only [if_neg c]; exact Ev.now _



theorem laws_szRule_le (x : S193) (hg : g193 x) (a : Int) (h0 : 0 ≤ a) (ha : a ≤ 1048576) : ∃ r, Ev (fun k => laws_szRule.f k x.f0 x.f1 x.f2 x.f3.f0 x.f3.f1 x.f3.f2 x.f3.f3 a) r ∧ r ≤ 1048576 ∧ (0 ≤ r → r + (n193 x : Nat) ≤ a) := by
  unfold g193 at hg
  unfold n193 laws_szRule.f
  obtain ⟨r0, e0, b0, s0⟩ := laws_szCond_le x.f3 (by have := hg; simp_all) a (by omega) (by omega)
  by_cases c0 : r0 < 0
  · exact ⟨-1, by refine Ev.bind e0 ?_; simp only [if_pos c0]; exact Ev.now _, by omega, by omega⟩
  have s0' := s0 (by omega)
  exact ⟨r0, by refine Ev.bind e0 ?_; simp only [if_neg c0]; exact Ev.now _, by omega, fun _ => by omega⟩

theorem laws_szRuleS_le (l : List (S193)) (hl : l.length ≤ maxLen) (hg : ∀ y_ ∈ l, g193 y_) (a : Int) (h0 : 0 ≤ a) (ha : a ≤ 1048576) : ∃ r, Ev (fun k => laws_szRuleS.f k l a) r ∧ r ≤ 1048576 ∧ (0 ≤ r → r + (l.length + (l.map n193).sum : Nat) ≤ a) := by
  unfold laws_szRuleS.f
  unfold maxLen at hl
  rw [wr (by omega) (by omega)]
  by_cases c : a - (l.length : Int) < 0
  · simp only [if_pos c]; exact ⟨_, Ev.now _, by omega, by omega⟩
  simp only [if_neg c]
  have hend : ∀ a, Ev (fun k => laws_szRuleS.l0 k l a (l.length : Int)) a := by
    intro a
    refine Ev.succ ?_
    simp only [laws_szRuleS.l0, Int.lt_irrefl, if_false]
    exact Ev.now _
  have hstep : ∀ (i : Nat) (x : S193) (a : Int), l[i]? = some x → 0 ≤ a → a ≤ 1048576 → (∃ r, Ev (fun k => laws_szRuleS.l0 k l a (i : Int)) r ∧ r < 0) ∨ ∃ a', 0 ≤ a' ∧ a' + n193 x ≤ a ∧ ∀ r, Ev (fun k => laws_szRuleS.l0 k l a' ((i + 1 : Nat) : Int)) r → Ev (fun k => laws_szRuleS.l0 k l a (i : Int)) r := by
    intro i x a hx h0 ha
    have hi := lt_of_get hx
    have h1 : ((i : Int) < (l.length : Int)) = True := eq_true (by omega)
    have h2 : (0 ≤ (i : Int)) = True := eq_true (by omega)
    obtain ⟨r, e, b, s⟩ := laws_szRule_le x (hg x (List.mem_of_getElem? hx)) a h0 ha
    by_cases c2 : r < 0
    · left
      refine ⟨-1, Ev.succ ?_, by omega⟩
      simp only [laws_szRuleS.l0, h1, h2, if_true, rd_at_T193 hx]
      refine Ev.bind e ?_
      simp only [if_pos c2]
      exact Ev.now _
    · right
      have s' := s (by omega)
      refine ⟨r, by omega, by omega, fun r' hr => Ev.succ ?_⟩
      simp only [laws_szRuleS.l0, h1, h2, if_true, rd_at_T193 hx]
      refine Ev.bind e ?_
      simp only [if_neg c2, wr1 hi (by omega)]
      exact hr
  obtain ⟨r, h1, h2, h3⟩ := ev_sz n193 l (fun k a i => laws_szRuleS.l0 k l a i) 1048576 hend hstep (a - l.length) (by omega) (by omega)
  exact ⟨r, h1, h2, fun h => by have := h3 h; omega⟩

theorem laws_szPolicy_le (x : S105) (hg : g105 x) (a : Int) (h0 : 0 ≤ a) (ha : a ≤ 1048576) : ∃ r, Ev (fun k => laws_szPolicy.f k x.f0 x.f1 a) r ∧ r ≤ 1048576 ∧ (0 ≤ r → r + (n105 x : Nat) ≤ a) := by
  unfold g105 at hg
  unfold n105 laws_szPolicy.f
  obtain ⟨r0, e0, b0, s0⟩ := laws_szRuleS_le x.f1 (by have := hg; simp_all) (by have := hg; simp_all) a (by omega) (by omega)
  by_cases c0 : r0 < 0
  · exact ⟨-1, by refine Ev.bind e0 ?_; simp only [if_pos c0]; exact Ev.now _, by omega, by omega⟩
  have s0' := s0 (by omega)
  exact ⟨r0, by refine Ev.bind e0 ?_; simp only [if_neg c0]; exact Ev.now _, by omega, fun _ => by omega⟩

theorem laws_szEpoch_le (x : S107) (hg : g107 x) (a : Int) (h0 : 0 ≤ a) (ha : a ≤ 1048576) : ∃ r, Ev (fun k => laws_szEpoch.f k x.f0 x.f1 x.f2 x.f3.f0 x.f3.f1 a) r ∧ r ≤ 1048576 ∧ (0 ≤ r → r + (n107 x : Nat) ≤ a) := by
  unfold g107 at hg
  unfold n107 laws_szEpoch.f
  obtain ⟨r0, e0, b0, s0⟩ := laws_szIncludesS_le x.f2 (by have := hg; simp_all) a (by omega) (by omega)
  by_cases c0 : r0 < 0
  · exact ⟨-1, by simp only [e0, Option.bind_some]; simp only [if_pos c0]; exact Ev.now _, by omega, by omega⟩
  have s0' := s0 (by omega)
  obtain ⟨r1, e1, b1, s1⟩ := laws_szPolicy_le x.f3 (by have := hg; simp_all) r0 (by omega) (by omega)
  by_cases c1 : r1 < 0
  · exact ⟨-1, by simp only [e0, Option.bind_some]; simp only [if_neg c0]; refine Ev.bind e1 ?_; simp only [if_pos c1]; exact Ev.now _, by omega, by omega⟩
  have s1' := s1 (by omega)
  exact ⟨r1, by simp only [e0, Option.bind_some]; simp only [if_neg c0]; refine Ev.bind e1 ?_; simp only [if_neg c1]; exact Ev.now _, by omega, fun _ => by omega⟩

theorem laws_szEpochS_le (l : List (S107)) (hl : l.length ≤ maxLen) (hg : ∀ y_ ∈ l, g107 y_) (a : Int) (h0 : 0 ≤ a) (ha : a ≤ 1048576) : ∃ r, Ev (fun k => laws_szEpochS.f k l a) r ∧ r ≤ 1048576 ∧ (0 ≤ r → r + (l.length + (l.map n107).sum : Nat) ≤ a) := by
  unfold laws_szEpochS.f
  unfold maxLen at hl
  rw [wr (by omega) (by omega)]
  by_cases c : a - (l.length : Int) < 0
  · simp only [if_pos c]; exact ⟨_, Ev.now _, by omega, by omega⟩
  simp only [if_neg c]
  have hend : ∀ a, Ev (fun k => laws_szEpochS.l0 k l a (l.length : Int)) a := by
    intro a
    refine Ev.succ ?_
    simp only [laws_szEpochS.l0, Int.lt_irrefl, if_false]
    exact Ev.now _
  have hstep : ∀ (i : Nat) (x : S107) (a : Int), l[i]? = some x → 0 ≤ a → a ≤ 1048576 → (∃ r, Ev (fun k => laws_szEpochS.l0 k l a (i : Int)) r ∧ r < 0) ∨ ∃ a', 0 ≤ a' ∧ a' + n107 x ≤ a ∧ ∀ r, Ev (fun k => laws_szEpochS.l0 k l a' ((i + 1 : Nat) : Int)) r → Ev (fun k => laws_szEpochS.l0 k l a (i : Int)) r := by
    intro i x a hx h0 ha
    have hi := lt_of_get hx
    have h1 : ((i : Int) < (l.length : Int)) = True := eq_true (by omega)
    have h2 : (0 ≤ (i : Int)) = True := eq_true (by omega)
    obtain ⟨r, e, b, s⟩ := laws_szEpoch_le x (hg x (List.mem_of_getElem? hx)) a h0 ha
    by_cases c2 : r < 0
    · left
      refine ⟨-1, Ev.succ ?_, by omega⟩
      simp only [laws_szEpochS.l0, h1, h2, if_true, rd_at_T107 hx]
      refine Ev.bind e ?_
      simp only [if_pos c2]
      exact Ev.now _
    · right
      have s' := s (by omega)
      refine ⟨r, by omega, by omega, fun r' hr => Ev.succ ?_⟩
      simp only [laws_szEpochS.l0, h1, h2, if_true, rd_at_T107 hx]
      refine Ev.bind e ?_
      simp only [if_neg c2, wr1 hi (by omega)]
      exact hr
  obtain ⟨r, h1, h2, h3⟩ := ev_sz n107 l (fun k a i => laws_szEpochS.l0 k l a i) 1048576 hend hstep (a - l.length) (by omega) (by omega)
  exact ⟨r, h1, h2, fun h => by have := h3 h; omega⟩

theorem laws_szFactS_le (l : List (S49)) (hl : l.length ≤ maxLen) (a : Int) (h0 : 0 ≤ a) (ha : a ≤ 1048576) : ∃ r, laws_szFactS.f l a = some r ∧ r ≤ 1048576 ∧ (0 ≤ r → r + (l.length : Nat) ≤ a) := by
  unfold laws_szFactS.f
  unfold maxLen at hl
  rw [wr (by omega) (by omega)]
  split
  · exact ⟨_, rfl, by omega, by omega⟩
  · exact ⟨_, rfl, by omega, by omega⟩

theorem laws_szRevokedS_le (l : List (S125)) (hl : l.length ≤ maxLen) (a : Int) (h0 : 0 ≤ a) (ha : a ≤ 1048576) : ∃ r, laws_szRevokedS.f l a = some r ∧ r ≤ 1048576 ∧ (0 ≤ r → r + (l.length : Nat) ≤ a) := by
  unfold laws_szRevokedS.f
  unfold maxLen at hl
  rw [wr (by omega) (by omega)]
  split
  · exact ⟨_, rfl, by omega, by omega⟩
  · exact ⟨_, rfl, by omega, by omega⟩

theorem laws_szCertS_le (l : List (S127)) (hl : l.length ≤ maxLen) (a : Int) (h0 : 0 ≤ a) (ha : a ≤ 1048576) : ∃ r, laws_szCertS.f l a = some r ∧ r ≤ 1048576 ∧ (0 ≤ r → r + (l.length : Nat) ≤ a) := by
  unfold laws_szCertS.f
  unfold maxLen at hl
  rw [wr (by omega) (by omega)]
  split
  · exact ⟨_, rfl, by omega, by omega⟩
  · exact ⟨_, rfl, by omega, by omega⟩

theorem laws_szCenter_le (x : S28) (hg : g28 x) (a : Int) (h0 : 0 ≤ a) (ha : a ≤ 1048576) : ∃ r, Ev (fun k => laws_szCenter.f k x.f0 x.f1 x.f2 x.f3 x.f4 x.f5 a) r ∧ r ≤ 1048576 ∧ (0 ≤ r → r + (n28 x : Nat) ≤ a) := by
  unfold g28 at hg
  unfold n28 laws_szCenter.f
  obtain ⟨r0, e0, b0, s0⟩ := laws_szIssuerS_le x.f0 (by have := hg; simp_all) (by have := hg; simp_all) a (by omega) (by omega)
  by_cases c0 : r0 < 0
  · exact ⟨-1, by refine Ev.bind e0 ?_; simp only [if_pos c0]; exact Ev.now _, by omega, by omega⟩
  have s0' := s0 (by omega)
  obtain ⟨r1, e1, b1, s1⟩ := laws_szEpochS_le x.f1 (by have := hg; simp_all) (by have := hg; simp_all) r0 (by omega) (by omega)
  by_cases c1 : r1 < 0
  · exact ⟨-1, by refine Ev.bind e0 ?_; simp only [if_neg c0]; refine Ev.bind e1 ?_; simp only [if_pos c1]; exact Ev.now _, by omega, by omega⟩
  have s1' := s1 (by omega)
  obtain ⟨r2, e2, b2, s2⟩ := laws_szFactS_le x.f2 (by have := hg; simp_all) r1 (by omega) (by omega)
  by_cases c2 : r2 < 0
  · exact ⟨-1, by refine Ev.bind e0 ?_; simp only [if_neg c0]; refine Ev.bind e1 ?_; simp only [if_neg c1]; simp only [e2, Option.bind_some]; simp only [if_pos c2]; exact Ev.now _, by omega, by omega⟩
  have s2' := s2 (by omega)
  obtain ⟨r3, e3, b3, s3⟩ := laws_szRevokedS_le x.f3 (by have := hg; simp_all) r2 (by omega) (by omega)
  by_cases c3 : r3 < 0
  · exact ⟨-1, by refine Ev.bind e0 ?_; simp only [if_neg c0]; refine Ev.bind e1 ?_; simp only [if_neg c1]; simp only [e2, Option.bind_some]; simp only [if_neg c2]; simp only [e3, Option.bind_some]; simp only [if_pos c3]; exact Ev.now _, by omega, by omega⟩
  have s3' := s3 (by omega)
  obtain ⟨r4, e4, b4, s4⟩ := laws_szCertS_le x.f5 (by have := hg; simp_all) r3 (by omega) (by omega)
  by_cases c4 : r4 < 0
  · exact ⟨-1, by refine Ev.bind e0 ?_; simp only [if_neg c0]; refine Ev.bind e1 ?_; simp only [if_neg c1]; simp only [e2, Option.bind_some]; simp only [if_neg c2]; simp only [e3, Option.bind_some]; simp only [if_neg c3]; simp only [e4, Option.bind_some]; simp only [if_pos c4]; exact Ev.now _, by omega, by omega⟩
  have s4' := s4 (by omega)
  exact ⟨r4, by refine Ev.bind e0 ?_; simp only [if_neg c0]; refine Ev.bind e1 ?_; simp only [if_neg c1]; simp only [e2, Option.bind_some]; simp only [if_neg c2]; simp only [e3, Option.bind_some]; simp only [if_neg c3]; simp only [e4, Option.bind_some]; simp only [if_neg c4]; exact Ev.now _, by omega, fun _ => by omega⟩

theorem spec_l1In_eq (a b c : Int) : spec_l1In.f a b c = some (inB a b c) := by
  unfold spec_l1In.f
  rw [ite_dand]; rfl

def keyB (a : Int) : Bool := inB a 1 2147483646
def certB (a b c d e : Int) : Bool := inB a 1 9999 && (nameB b && (keyB c && (timeB d && (timeB e && inB (e - d) 0 50))))
def mdV (a : Int) : Int := Int.tmod (wrap64 (Int.tmod a 2147483647 + 2147483647)) 2147483647
def hsX (d v : Int) : Int := Int.tmod (wrap64 (wrap64 (wrap64 (d * 1000003) + mdV v) + 13)) 2147483647
def hashV (l : List Int) : Int := l.foldl hsX 11
def khV (a : Int) (l : List Int) : Int := hashV ([a] ++ l ++ [a])
theorem spec_IsValidKey_eq (a : Int) : spec_IsValidKey.f a = some (keyB a) := by
  unfold spec_IsValidKey.f; rw [spec_l1In_eq]; rfl

theorem spec_IsName_eq (a : Int) : spec_IsName.f a = some (nameB a) := by
  unfold spec_IsName.f
  rw [spec_l1In_eq]; rfl

theorem spec_IsTime_eq (a : Int) : spec_IsTime.f a = some (timeB a) := by
  unfold spec_IsTime.f
  rw [spec_l1In_eq]; rfl

theorem spec_IsCert_eq (a b c d e g : Int) : spec_IsCert.f a b c d e g = some (certB a b c d e) := by
  have key : timeB d = true → timeB e = true → (if d ≤ e then some (decide (wrap64 (e - d) ≤ 50)) else some false) = some (inB (e - d) 0 50) := by
    intro hd he
    unfold timeB at hd he
    rw [inB_iff] at hd he
    rw [wr (by omega) (by omega)]
    unfold inB
    by_cases c : d ≤ e
    · rw [if_pos c, decide_eq_true (show 0 ≤ e - d by omega), Bool.true_and]
    · rw [if_neg c, decide_eq_false (show ¬ 0 ≤ e - d by omega), Bool.false_and]
  unfold spec_IsCert.f certB
  simp only [spec_l1In_eq, spec_IsName_eq, spec_IsValidKey_eq, spec_IsTime_eq, Option.bind_some]
  cases inB a 1 9999 with
  | false => rfl
  | true => cases nameB b with
    | false => rfl
    | true => cases keyB c with
      | false => rfl
      | true => cases hd : timeB d with
        | false => rfl
        | true => cases he : timeB e with
          | false => rfl
          | true => simp only [if_true, Bool.true_and]; exact key hd he

theorem spec_Mod_eq (a : Int) : spec_Mod.f a 2147483647 = some (mdV a) := by
  unfold spec_Mod.f; rw [spec_l1In_eq]; rfl

theorem spec_Hash_ev (l : List Int) (h : l.length ≤ 2097152) : Ev (fun k => spec_Hash.f k l) (hashV l) := by
  unfold spec_Hash.f hashV
  refine ev_fold l hsX (fun s => s) (fun _ _ => True) (fun k s i => spec_Hash.l0 k l s i) ?_ (fun _ _ _ _ _ => trivial) ?_ 11 trivial
  · intro s _
    refine Ev.succ ?_
    simp only [spec_Hash.l0, Int.lt_irrefl, if_false]
    exact Ev.now _
  · intro i x s r hx _ hr
    have hi := lt_of_get hx
    have h1 : ((i : Int) < (l.length : Int)) = True := eq_true (by omega)
    have h2 : (0 ≤ (i : Int)) = True := eq_true (by omega)
    refine Ev.succ ?_
    simp only [spec_Hash.l0, h1, h2, if_true, rd_nat l i x hx, spec_Mod_eq, Option.bind_some, wr1 hi (by omega)]
    exact hr

theorem spec_KeyedHash_ev (a : Int) (l : List Int) (h : l.length ≤ 1048576) : Ev (fun k => spec_KeyedHash.f k a l) (khV a l) := by
  unfold spec_KeyedHash.f khV
  simp only [Option.bind_some]
  refine Ev.pos (by simp only [List.length_singleton]; omega) (Ev.pos (by simp only [List.length_append, List.length_singleton]; omega) ?_)
  exact Ev.bind (spec_Hash_ev _ (by simp only [List.length_append, List.length_singleton]; omega)) (Ev.now _)

theorem spec_MarkCert_ev (s a b c d e g : Int) : Ev (fun k => spec_MarkCert.f k s a b c d e g) (a, b, c, d, e, khV s [a, b, c, d, e]) := by
  unfold spec_MarkCert.f
  exact Ev.bind (spec_KeyedHash_ev s [a, b, c, d, e] (by simp)) (Ev.now _)

/-- Strictly ascending, and all in a range. -/
def ascP (l : List Int) (a b : Int) (i : Nat) : Bool := inB (rd l (i : Int)) a b && (decide (i = 0) || decide (rd l ((i - 1 : Nat) : Int) < rd l (i : Int)))
/-- Each element is in order (p), and with the one ahead of it (q). -/
def adjT {α : Type} (p : α → Bool) (q : α → α → Bool) : α → List α → Bool
  | _, [] => true
  | y, x :: t => p x && (q y x && adjT p q x t)
def adjB {α : Type} (p : α → Bool) (q : α → α → Bool) : List α → Bool
  | [] => true
  | x :: t => p x && adjT p q x t
theorem ev_adj {α : Type} (l : List α) (p : α → Bool) (q : α → α → Bool) (fin : Bool) (L : Nat → Int → Option Bool) (hend : Ev (fun k => L k (l.length : Int)) fin)
    (hs0 : ∀ x r, l[0]? = some x → Ev (fun k => L k ((0 + 1 : Nat) : Int)) r → Ev (fun k => L k 0) (p x && r))
    (hs : ∀ (i : Nat) y x r, l[i]? = some y → l[i + 1]? = some x → Ev (fun k => L k ((i + 1 + 1 : Nat) : Int)) r → Ev (fun k => L k ((i + 1 : Nat) : Int)) (p x && (q y x && r))) : Ev (fun k => L k 0) (adjB p q l && fin) := by
  have key : ∀ (d i : Nat) (y : α), l[i]? = some y → l.length - (i + 1) = d → Ev (fun k => L k ((i + 1 : Nat) : Int)) (adjT p q y (l.drop (i + 1)) && fin) := by
    intro d
    induction d with
    | zero =>
      intro i y hy hd
      have hi := lt_of_get hy
      have e : i + 1 = l.length := by omega
      rw [e, List.drop_length]
      exact hend
    | succ d ih =>
      intro i y hy hd
      have hi : i + 1 < l.length := by omega
      have hx : l[i + 1]? = some l[i + 1] := List.getElem?_eq_getElem hi
      have h := hs i y l[i + 1] _ hy hx (ih (i + 1) l[i + 1] hx (by omega))
      rw [List.drop_eq_getElem_cons hi]
      simp only [adjT, Bool.and_assoc]
      exact h
  cases l with
  | nil => exact hend
  | cons x t =>
    have h := hs0 x _ rfl (key _ 0 x rfl rfl)
    simp only [adjB, Bool.and_assoc]
    exact h
theorem wrp {i n : Nat} (h : i + 1 < n) (hn : n ≤ 9223372036854775807) : wrap64 (((i + 1 : Nat) : Int) - 1) = (i : Int) := by rw [wr (by omega) (by omega)]; omega
/-- An issuer is in order. -/
def issB (x : S110) : Bool := inB x.f0 0 9 && ((allN x.f1.length (ascP x.f1 1 4) && true) && keyB x.f2)
def issQ (y x : S110) : Bool := !decide (y.f0 ≥ x.f0)
def issuersB (l : List S110) : Bool := adjB issB issQ l && decide ((l.length : Int) ≤ 4)
theorem spec_IsIssuer_ev (x : S110) (h : x.f1.length ≤ 1048576) : Ev (fun k => spec_IsIssuer.f k x.f0 x.f1 x.f2) (issB x) := by
  unfold spec_IsIssuer.f issB
  refine Ev.eqv (a := allN x.f1.length (ascP x.f1 1 4) && (inB x.f0 0 9 && keyB x.f2)) (by cases allN x.f1.length (ascP x.f1 1 4) <;> cases inB x.f0 0 9 <;> rfl) ?_
  refine ev_all x.f1.length (ascP x.f1 1 4) _ (fun k i => spec_IsIssuer.l0 k i x.f0 x.f1 x.f2) ?_ ?_
  · refine Ev.succ ?_
    simp only [spec_IsIssuer.l0, Int.lt_irrefl, if_false, spec_l1In_eq, spec_IsValidKey_eq, Option.bind_some]
    exact Ev.bifT fun _ => Ev.now _
  · intro i hi
    have h1 : ((i : Int) < (x.f1.length : Int)) = True := eq_true (by omega)
    have h2 : (0 ≤ (i : Int)) = True := eq_true (by omega)
    have h3 := wr1 hi (show x.f1.length ≤ 9223372036854775807 by omega)
    constructor
    · intro hp r hr
      simp only [ascP, Bool.and_eq_true, Bool.or_eq_true, decide_eq_true_eq] at hp
      refine Ev.succ ?_
      simp only [spec_IsIssuer.l0, h1, h2, if_true, spec_l1In_eq, Option.bind_some, hp.1, h3]
      by_cases c : i = 0
      · exact Ev.neg (by omega) hr
      · simp only [if_pos (show (i : Int) > 0 by omega), wrm (show 0 < i by omega) (by omega), if_pos (show 0 ≤ ((i - 1 : Nat) : Int) by omega), if_pos (show ((i - 1 : Nat) : Int) < (x.f1.length : Int) by omega)]
        exact Ev.neg (by have := hp.2; omega) hr
    · intro hp
      refine Ev.succ ?_
      simp only [spec_IsIssuer.l0, h1, h2, if_true, spec_l1In_eq, Option.bind_some, h3]
      cases c0 : inB (rd x.f1 (i : Int)) 1 4 with
      | false => exact Ev.now _
      | true =>
        simp only [ascP, c0, Bool.true_and, Bool.or_eq_false_iff, decide_eq_false_iff_not] at hp
        simp only [if_true, if_pos (show (i : Int) > 0 by omega), wrm (show 0 < i by omega) (by omega), if_pos (show 0 ≤ ((i - 1 : Nat) : Int) by omega), if_pos (show ((i - 1 : Nat) : Int) < (x.f1.length : Int) by omega)]
        exact Ev.pos (by omega) (Ev.now _)

theorem spec_AreIssuers_ev (l : List S110) (h : l.length + (l.map n110).sum ≤ 1048576) : Ev (fun k => spec_AreIssuers.f k l) (issuersB l) := by
  unfold spec_AreIssuers.f issuersB
  refine ev_adj l issB issQ _ (fun k i => spec_AreIssuers.l0 k l i) ?_ ?_ ?_
  · refine Ev.succ ?_
    simp only [spec_AreIssuers.l0, Int.lt_irrefl, if_false]
    exact Ev.now _
  · intro x r hx hr
    have hi := lt_of_get hx
    have h1 : ((0 : Int) < (l.length : Int)) = True := eq_true (by omega)
    have e := rd_at_T110 hx
    have e2 := wr1 hi (show l.length ≤ 9223372036854775807 by omega)
    simp only [Int.ofNat_zero, Int.natCast_zero] at e e2
    refine Ev.succ ?_
    simp only [spec_AreIssuers.l0, h1, if_true, Int.le_refl, gt_iff_lt, Int.lt_irrefl, if_false, e, e2, Option.bind_some]
    exact Ev.band (spec_IsIssuer_ev x (by have := le_sum n110 hx; unfold n110 at this h; omega)) fun _ => hr
  · intro i y x r hy hx hr
    have hi := lt_of_get hx
    have h1 : (((i + 1 : Nat) : Int) < (l.length : Int)) = True := eq_true (by omega)
    have h2 : (0 ≤ ((i + 1 : Nat) : Int)) = True := eq_true (by omega)
    have h3 : (((i + 1 : Nat) : Int) > 0) = True := eq_true (by omega)
    have h4 : (0 ≤ (i : Int)) = True := eq_true (by omega)
    have h5 : ((i : Int) < (l.length : Int)) = True := eq_true (by omega)
    refine Ev.succ ?_
    simp only [spec_AreIssuers.l0, h1, h2, h3, h4, h5, if_true, rd_at_T110 hx, rd_at_T110 hy, wr1 hi (show l.length ≤ 9223372036854775807 by omega), wrp hi (show l.length ≤ 9223372036854775807 by omega), Option.bind_some]
    exact Ev.band (spec_IsIssuer_ev x (by have := le_sum n110 hx; unfold n110 at this h; omega)) fun _ => Ev.dnot fun _ => hr

def hasI (l : List Int) (a : Int) : Bool := l.any (fun x => decide (a = x))
def underB (a b : List Int) : Bool := !(a.any fun x => !hasI b x)
theorem spec_l13Has_ev (l : List Int) (a : Int) (h : l.length ≤ 1048576) : Ev (fun k => spec_l13Has.f k l a) (hasI l a) := by
  unfold spec_l13Has.f hasI
  rw [← idxV_any]
  refine ev_idx l (fun x => decide (a = x)) (fun r => decide (r ≥ 0)) (fun k i => spec_l13Has.l0 k l a i) ?_ ?_
  · refine Ev.succ ?_
    simp only [spec_l13Has.l0, Int.lt_irrefl, if_false]
    exact Ev.now _
  · intro i x hx
    have hi := lt_of_get hx
    have h1 : ((i : Int) < (l.length : Int)) = True := eq_true (by omega)
    have h2 : (0 ≤ (i : Int)) = True := eq_true (by omega)
    constructor
    · intro c r hr
      have c' : ¬ x = a := fun e => of_decide_eq_false c e.symm
      refine Ev.succ ?_
      simp only [spec_l13Has.l0, h1, h2, if_true, rd_nat l i x hx, wr1 hi (by omega), if_neg c']
      exact hr
    · intro c
      have c' : x = a := (of_decide_eq_true c).symm
      refine Ev.succ ?_
      simp only [spec_l13Has.l0, h1, h2, if_true, rd_nat l i x hx, if_pos c', show decide ((i : Int) ≥ 0) = true from decide_eq_true (by omega)]
      exact Ev.now _

/-- An edge between roles. -/
def edgeP (l : List S161) (a b : Int) : Prop := ∃ x ∈ l, x.f0 = a ∧ x.f1 = b ∧ roleB a = true ∧ roleB b = true
inductive Rch (l : List S161) (a : Int) : Int → Prop
  | refl : Rch l a a
  | step {b c : Int} : Rch l a b → edgeP l b c → Rch l a c
theorem Rch.trans {l : List S161} {a b c : Int} (h1 : Rch l a b) (h2 : Rch l b c) : Rch l a c := by
  induction h2 with
  | refl => exact h1
  | step _ e ih => exact .step ih e
/-- By one edge or more. -/
def RchP (l : List S161) (a c : Int) : Prop := ∃ b, edgeP l a b ∧ Rch l b c
theorem RchP.step {l : List S161} {a b c : Int} (h : RchP l a b) (e : edgeP l b c) : RchP l a c := by
  obtain ⟨d, h1, h2⟩ := h
  exact ⟨d, h1, .step h2 e⟩
theorem Rch_iff {l : List S161} {a c : Int} : Rch l a c ↔ a = c ∨ RchP l a c := by
  constructor
  · intro h
    induction h with
    | refl => exact .inl rfl
    | step h e ih =>
      rcases ih with rfl | ih
      · exact .inr ⟨_, e, .refl⟩
      · exact .inr (ih.step e)
  · rintro (rfl | ⟨b, e, h⟩)
    · exact .refl
    · exact Rch.trans (.step .refl e) h
def markX (m : List Bool) (x : S161) : List Bool := if roleB x.f0 && roleB x.f1 && mkR m x.f0 then m.set x.f1.toNat true else m
def roundX (l : List S161) (m : List Bool) : List Bool := l.foldl markX m
def itX (l : List S161) : Nat → List Bool → List Bool
  | 0, m => m
  | n + 1, m => itX l n (roundX l m)
theorem roleB_iff {n : Int} : roleB n = true ↔ 0 ≤ n ∧ n ≤ 5 := by simp [roleB]
theorem mk_set {m : List Bool} (hm : m.length = 6) {r : Int} (hr : roleB r = true) (q : Int) (hq : roleB q = true) : mkR (m.set r.toNat true) q = (decide (q = r) || mkR m q) := by
  rw [roleB_iff] at hr hq
  unfold mkR
  rw [List.getD_eq_getElem?_getD, List.getD_eq_getElem?_getD]
  by_cases h : q = r
  · subst h
    rw [List.getElem?_set_self (by omega)]
    simp
  · rw [List.getElem?_set_ne (by omega)]
    simp [h]
theorem markX_len {m : List Bool} (x : S161) : (markX m x).length = m.length := by
  unfold markX; split <;> simp
theorem roundX_len (l : List S161) : ∀ m : List Bool, (roundX l m).length = m.length := by
  unfold roundX
  induction l with
  | nil => intro m; rfl
  | cons x l ih => intro m; rw [List.foldl_cons, ih, markX_len]
theorem mk_markX {m : List Bool} (hm : m.length = 6) (x : S161) (q : Int) (hq : roleB q = true) : mkR (markX m x) q = (mkR m q || (decide (q = x.f1) && (roleB x.f0 && roleB x.f1 && mkR m x.f0))) := by
  unfold markX
  split
  · rename_i h
    rw [h]
    simp only [Bool.and_eq_true] at h
    rw [mk_set hm h.1.2 q hq, Bool.and_true, Bool.or_comm]
  · rename_i h
    rw [Bool.not_eq_true] at h
    rw [h]; simp
theorem mk_mono_markX {m : List Bool} (hm : m.length = 6) (x : S161) {q : Int} (hq : roleB q = true) (h : mkR m q = true) : mkR (markX m x) q = true := by
  rw [mk_markX hm x q hq, h]; rfl
theorem mk_mono_round (l : List S161) : ∀ {m : List Bool}, m.length = 6 → ∀ {q : Int}, roleB q = true → mkR m q = true → mkR (roundX l m) q = true := by
  unfold roundX
  induction l with
  | nil => intro m hm q hq h; exact h
  | cons x l ih => intro m hm q hq h; exact ih (m := markX m x) (by rw [markX_len]; exact hm) hq (mk_mono_markX hm x hq h)
/-- A round marks what an edge leads to. -/
theorem round_edge (l : List S161) : ∀ {m : List Bool}, m.length = 6 → ∀ {a b : Int}, edgeP l a b → mkR m a = true → mkR (roundX l m) b = true := by
  induction l with
  | nil => rintro m hm a b ⟨x, hx, _⟩; cases hx
  | cons x l ih =>
    rintro m hm a b ⟨y, hy, rfl, rfl, ha, hb⟩ h
    have hl : (markX m x).length = 6 := by rw [markX_len]; exact hm
    change mkR (roundX l (markX m x)) y.f1 = true
    rcases List.mem_cons.1 hy with rfl | hy
    · refine mk_mono_round l hl hb ?_
      rw [mk_markX hm y _ hb, ha, hb, h]; simp
    · exact ih hl ⟨y, hy, rfl, rfl, ha, hb⟩ (mk_mono_markX hm x ha h)
/-- A round marks nothing else. -/
theorem round_sound (l0 : List S161) (P : Int → Prop) (hP : ∀ a b, P a → edgeP l0 a b → P b) (l : List S161) (hl : ∀ x ∈ l, x ∈ l0) : ∀ {m : List Bool}, m.length = 6 → (∀ q, roleB q = true → mkR m q = true → P q) → ∀ q, roleB q = true → mkR (roundX l m) q = true → P q := by
  induction l with
  | nil => intro m hm h q hq hk; exact h q hq hk
  | cons x l ih =>
    intro m hm h
    refine ih (fun y hy => hl y (List.mem_cons_of_mem _ hy)) (m := markX m x) (by rw [markX_len]; exact hm) ?_
    intro q hq hk
    rw [mk_markX hm x q hq, Bool.or_eq_true] at hk
    rcases hk with hk | hk
    · exact h q hq hk
    · simp only [Bool.and_eq_true, decide_eq_true_eq] at hk
      obtain ⟨rfl, ⟨h1, h2⟩, h3⟩ := hk
      exact hP x.f0 x.f1 (h _ h1 h3) ⟨x, hl x List.mem_cons_self, rfl, rfl, h1, h2⟩
def cntB (m : List Bool) : Nat := m.countP id
theorem cnt_set : ∀ (m : List Bool) (i : Nat), cntB m ≤ cntB (m.set i true) ∧ (m[i]? = some false → cntB m < cntB (m.set i true)) := by
  intro m
  induction m with
  | nil => intro i; simp
  | cons b m ih =>
    intro i
    cases i with
    | zero => cases b <;> simp [cntB]
    | succ i =>
      have := ih i
      simp only [List.set_cons_succ, List.getElem?_cons_succ, cntB, List.countP_cons] at this ⊢
      exact ⟨by omega, fun h => by have := this.2 h; omega⟩
theorem cnt_markX (m : List Bool) (hm : m.length = 6) (x : S161) : cntB m ≤ cntB (markX m x) ∧ (markX m x = m ∨ cntB m < cntB (markX m x)) := by
  unfold markX
  split
  · rename_i h
    simp only [Bool.and_eq_true, roleB_iff] at h
    have hlt : x.f1.toNat < m.length := by omega
    refine ⟨(cnt_set m _).1, ?_⟩
    cases hb : m[x.f1.toNat] with
    | true =>
      left
      apply List.ext_getElem?
      intro j
      by_cases e : x.f1.toNat = j
      · subst e; rw [List.getElem?_set_self hlt, List.getElem?_eq_getElem hlt, hb]
      · rw [List.getElem?_set_ne e]
    | false => exact .inr ((cnt_set m _).2 (by rw [List.getElem?_eq_getElem hlt, hb]))
  · exact ⟨Nat.le_refl _, .inl rfl⟩
theorem cnt_round (l : List S161) : ∀ (m : List Bool), m.length = 6 → cntB m ≤ cntB (roundX l m) ∧ (roundX l m = m ∨ cntB m < cntB (roundX l m)) := by
  induction l with
  | nil => intro m hm; exact ⟨Nat.le_refl _, .inl rfl⟩
  | cons x l ih =>
    intro m hm
    obtain ⟨h1, h2⟩ := cnt_markX m hm x
    obtain ⟨h3, h4⟩ := ih (markX m x) (by rw [markX_len]; exact hm)
    change cntB m ≤ cntB (roundX l (markX m x)) ∧ (roundX l (markX m x) = m ∨ cntB m < cntB (roundX l (markX m x)))
    refine ⟨by omega, ?_⟩
    rcases h2 with h2 | h2
    · rw [h2] at h4 ⊢; exact h4
    · right; omega
theorem cnt_le (m : List Bool) : cntB m ≤ m.length := List.countP_le_length
theorem itX_len (l : List S161) : ∀ (n : Nat) (m : List Bool), (itX l n m).length = m.length := by
  intro n
  induction n with
  | zero => intro m; rfl
  | succ n ih => intro m; change (itX l n (roundX l m)).length = _; rw [ih, roundX_len]
theorem itX_fix (l : List S161) : ∀ (n : Nat) (m : List Bool), roundX l m = m → itX l n m = m := by
  intro n
  induction n with
  | zero => intro m _; rfl
  | succ n ih => intro m h; change itX l n (roundX l m) = m; rw [h]; exact ih m h
/-- After so many rounds as there are unmarked ones, and one, nothing changes. -/
theorem itX_closed (l : List S161) : ∀ (n : Nat) (m : List Bool), m.length = 6 → 6 ≤ cntB m + n → roundX l (itX l n m) = itX l n m := by
  intro n
  induction n with
  | zero =>
    intro m hm h
    rcases (cnt_round l m hm).2 with h2 | h2
    · exact h2
    · have := cnt_le (roundX l m); rw [roundX_len] at this; omega
  | succ n ih =>
    intro m hm h
    change roundX l (itX l n (roundX l m)) = itX l n (roundX l m)
    rcases (cnt_round l m hm).2 with h2 | h2
    · rw [h2, itX_fix l n m h2]; exact h2
    · exact ih _ (by rw [roundX_len]; exact hm) (by omega)
theorem itX_sound (l : List S161) (P : Int → Prop) (hP : ∀ a b, P a → edgeP l a b → P b) : ∀ (n : Nat) (m : List Bool), m.length = 6 → (∀ q, roleB q = true → mkR m q = true → P q) → ∀ q, roleB q = true → mkR (itX l n m) q = true → P q := by
  intro n
  induction n with
  | zero => intro m _ h; exact h
  | succ n ih => intro m hm h; exact ih _ (by rw [roundX_len]; exact hm) (round_sound l P hP l (fun _ h => h) hm h)
theorem itX_mono (l : List S161) : ∀ (n : Nat) (m : List Bool), m.length = 6 → ∀ q, roleB q = true → mkR m q = true → mkR (itX l n m) q = true := by
  intro n
  induction n with
  | zero => intro m _ q _ h; exact h
  | succ n ih => intro m hm q hq h; exact ih _ (by rw [roundX_len]; exact hm) q hq (mk_mono_round l hm hq h)
def closX (l : List S161) (role : Int) : List Bool := itX l 6 ((List.replicate 6 false).set role.toNat true)
theorem mk_start {role : Int} (hr : roleB role = true) (q : Int) (hq : roleB q = true) : mkR ((List.replicate 6 false).set role.toNat true) q = decide (q = role) := by
  rw [mk_set (by simp) hr q hq]
  have : mkR (List.replicate 6 false) q = false := by
    unfold mkR
    rw [List.getD_eq_getElem?_getD, List.getElem?_replicate]
    split <;> rfl
  rw [this, Bool.or_false]
theorem closX_iff (l : List S161) {role : Int} (hr : roleB role = true) {q : Int} (hq : roleB q = true) : mkR (closX l role) q = true ↔ Rch l role q := by
  have hl : ((List.replicate 6 false).set role.toNat true).length = 6 := by simp
  constructor
  · exact itX_sound l (Rch l role) (fun a b h e => .step h e) 6 _ hl (fun q hq h => by
      rw [mk_start hr q hq, decide_eq_true_eq] at h; subst h; exact .refl) q hq
  · intro h
    have hc : roundX l (closX l role) = closX l role := itX_closed l 6 _ hl (by omega)
    have h6 : (closX l role).length = 6 := by unfold closX; rw [itX_len]; exact hl
    have key : roleB q = true ∧ mkR (closX l role) q = true := by
      clear hq
      induction h with
      | refl => exact ⟨hr, itX_mono l 6 _ hl _ hr (by rw [mk_start hr _ hr]; simp)⟩
      | step h e ih =>
        have := round_edge l h6 e ih.2
        rw [hc] at this
        obtain ⟨x, _, _, _, _, hb⟩ := e
        exact ⟨hb, this⟩
    exact key.2

theorem visX_len (a : Int) (s : List Bool × List Int) (x : S161) : (visX a s x).1.length = s.1.length := by
  unfold visX; split <;> simp
theorem popX_len (l : List S161) (a : Int) : ∀ s : List Bool × List Int, (popX l a s).1.length = s.1.length := by
  unfold popX
  induction l with
  | nil => intro s; rfl
  | cons x l ih => intro s; rw [List.foldl_cons, ih, visX_len]
theorem cnt_set_lt {m : List Bool} {r : Int} (hm : m.length = 6) (hr : roleB r = true) (h : mkR m r = false) : cntB (m.set r.toNat true) = cntB m + 1 := by
  rw [roleB_iff] at hr
  have hlt : r.toNat < m.length := by omega
  have hb : m[r.toNat] = false := by
    unfold mkR at h; rw [List.getD_eq_getElem?_getD, List.getElem?_eq_getElem hlt] at h; exact h
  have key : ∀ (m : List Bool) (i : Nat), m[i]? = some false → cntB (m.set i true) = cntB m + 1 := by
    intro m
    induction m with
    | nil => intro i h; simp at h
    | cons b m ih =>
      intro i h
      cases i with
      | zero => simp at h; subst h; simp [cntB]
      | succ i =>
        have := ih i (by simpa using h)
        simp only [List.set_cons_succ, cntB, List.countP_cons] at this ⊢
        omega
  exact key m _ (by rw [List.getElem?_eq_getElem hlt, hb])
/-- What one visit does: what is marked stays, all is told. -/
structure VisOk (l0 : List S161) (a : Int) (s t : List Bool × List Int) : Prop where
  len : t.1.length = 6
  sum : t.2.length + (6 - cntB t.1) = s.2.length + (6 - cntB s.1)
  le : cntB s.1 ≤ cntB t.1
  mono : ∀ q, roleB q = true → mkR s.1 q = true → mkR t.1 q = true
  old : ∀ q, q ∈ s.2 → q ∈ t.2
  new : ∀ q, roleB q = true → mkR t.1 q = true → mkR s.1 q = true ∨ (q ∈ t.2 ∧ edgeP l0 a q)
  newq : ∀ q, q ∈ t.2 → q ∈ s.2 ∨ edgeP l0 a q
theorem VisOk.rfl' {l0 : List S161} {a : Int} {s : List Bool × List Int} (h : s.1.length = 6) : VisOk l0 a s s := ⟨h, rfl, Nat.le_refl _, fun _ _ h => h, fun _ h => h, fun _ _ h => .inl h, fun _ h => .inl h⟩
theorem vis_ok (l0 : List S161) (a : Int) (ha : roleB a = true) (s : List Bool × List Int) (h : s.1.length = 6) (x : S161) (hx : x ∈ l0) : VisOk l0 a s (visX a s x) := by
  unfold visX
  split
  · rename_i hc
    obtain ⟨h1, h2, h3⟩ := hc
    have e : edgeP l0 a x.f1 := ⟨x, hx, h1, rfl, ha, h2⟩
    have hcn := cnt_set_lt h h2 h3
    have hle := cnt_le (s.1.set x.f1.toNat true)
    rw [List.length_set] at hle
    refine ⟨by simp [h], ?_, by rw [hcn]; omega, fun q hq hm => ?_, fun q hq => List.mem_append_left _ hq, fun q hq hm => ?_, fun q hq => ?_⟩
    · simp only [List.length_append, List.length_singleton, hcn]; omega
    · show mkR (s.1.set _ true) q = true
      rw [mk_set h h2 q hq, hm, Bool.or_true]
    · rw [show (s.1.set x.f1.toNat true, s.2 ++ [x.f1]).1 = s.1.set x.f1.toNat true from rfl, mk_set h h2 q hq, Bool.or_eq_true, decide_eq_true_eq] at hm
      rcases hm with rfl | hm
      · exact .inr ⟨by simp, e⟩
      · exact .inl hm
    · rcases List.mem_append.1 hq with hq | hq
      · exact .inl hq
      · rw [List.mem_singleton.1 hq]; exact .inr e
  · exact VisOk.rfl' h
theorem VisOk.trans {l0 : List S161} {a : Int} {s t u : List Bool × List Int} (h1 : VisOk l0 a s t) (h2 : VisOk l0 a t u) : VisOk l0 a s u :=
  ⟨h2.len, h2.sum.trans h1.sum, Nat.le_trans h1.le h2.le, fun q hq h => h2.mono q hq (h1.mono q hq h), fun q h => h2.old q (h1.old q h),
    fun q hq h => by
      rcases h2.new q hq h with h | h
      · rcases h1.new q hq h with h | ⟨h, e⟩
        · exact .inl h
        · exact .inr ⟨h2.old q h, e⟩
      · exact .inr h,
    fun q h => by
      rcases h2.newq q h with h | h
      · exact h1.newq q h
      · exact .inr h⟩
theorem pop_ok (l0 : List S161) (a : Int) (ha : roleB a = true) (l : List S161) (hl : ∀ x ∈ l, x ∈ l0) : ∀ (s : List Bool × List Int), s.1.length = 6 → VisOk l0 a s (popX l a s) ∧ ∀ x ∈ l, x.f0 = a → roleB x.f1 = true → mkR (popX l a s).1 x.f1 = true := by
  unfold popX
  induction l with
  | nil => intro s h; exact ⟨VisOk.rfl' h, by intro x hx; cases hx⟩
  | cons x l ih =>
    intro s h
    have h1 := vis_ok l0 a ha s h x (hl x List.mem_cons_self)
    obtain ⟨h2, h3⟩ := ih (fun y hy => hl y (List.mem_cons_of_mem _ hy)) (visX a s x) h1.len
    refine ⟨h1.trans h2, fun y hy e1 e2 => ?_⟩
    rw [List.foldl_cons]
    rcases List.mem_cons.1 hy with rfl | hy
    · refine h2.mono _ e2 ?_
      unfold visX
      split
      · rw [show (s.1.set y.f1.toNat true, s.2 ++ [y.f1]).1 = s.1.set y.f1.toNat true from rfl, mk_set h e2 _ e2]; simp
      · rename_i hc
        cases hmk : mkR s.1 y.f1 with
        | true => rfl
        | false => exact absurd ⟨e1, e2, hmk⟩ hc
    · exact h3 y hy e1 e2
theorem bfsX_nil (l : List S161) (role : Int) (k : Nat) (m : List Bool) (hk : 0 < k) (hm : m.length = 6) (hs : ∀ q, roleB q = true → mkR m q = true → RchP l role q) (hc : ∀ a, (a = role ∨ roleB a = true ∧ mkR m a = true) → a ∈ ([] : List Int) ∨ ∀ b, edgeP l a b → mkR m b = true) :
    ∃ r, bfsX l k [] m = some r ∧ r.length = 6 ∧ ∀ q, roleB q = true → (mkR r q = true ↔ RchP l role q) := by
  obtain ⟨k, rfl⟩ : ∃ j, k = j + 1 := ⟨k - 1, by omega⟩
  refine ⟨m, rfl, hm, fun q hq => ⟨hs q hq, ?_⟩⟩
  rintro ⟨b, e, h⟩
  have h0 : mkR m b = true := (hc role (.inl rfl)).elim (fun h => absurd h (by simp)) (fun h => h b e)
  have key : mkR m q = true := by
    clear hq
    induction h with
    | refl => exact h0
    | step h e2 ih =>
      obtain ⟨x, _, _, _, hb, _⟩ := id e2
      exact (hc _ (.inr ⟨hb, ih⟩)).elim (fun h => absurd h (by simp)) (fun h => h _ e2)
  exact key
/-- What the search says of a role: all that it comes to by one pair or more. -/
theorem bfsX_spec (l : List S161) (role : Int) (hr : roleB role = true) : ∀ (d k : Nat) (todo : List Int) (m : List Bool), m.length = 6 → todo.length + (6 - cntB m) ≤ d → d < k →
    (∀ q ∈ todo, roleB q = true ∧ Rch l role q) → (∀ q, roleB q = true → mkR m q = true → RchP l role q) → (∀ a, (a = role ∨ roleB a = true ∧ mkR m a = true) → a ∈ todo ∨ ∀ b, edgeP l a b → mkR m b = true) →
    ∃ r, bfsX l k todo m = some r ∧ r.length = 6 ∧ ∀ q, roleB q = true → (mkR r q = true ↔ RchP l role q) := by
  intro d
  induction d with
  | zero =>
    intro k todo m hm hd hk ht hs hc
    cases todo with
    | cons a rest => simp at hd
    | nil => exact bfsX_nil l role k m (by omega) hm hs hc
  | succ d ih =>
    intro k todo m hm hd hk ht hs hc
    cases todo with
    | nil => exact bfsX_nil l role k m (by omega) hm hs hc
    | cons a rest =>
      obtain ⟨k, rfl⟩ : ∃ j, k = j + 1 := ⟨k - 1, by omega⟩
      obtain ⟨ha, hra⟩ := ht a List.mem_cons_self
      obtain ⟨ok, hall⟩ := pop_ok l a ha l (fun _ h => h) (m, rest) hm
      refine ih k _ _ ok.len (by have := ok.sum; simp only [List.length_cons] at hd this ⊢; omega) (by omega) (fun q hq => ?_) (fun q hq hmq => ?_) (fun b hb => ?_)
      · rcases ok.newq q hq with h | h
        · exact ht q (List.mem_cons_of_mem _ h)
        · obtain ⟨x, _, _, _, _, hb⟩ := id h
          exact ⟨hb, .step hra h⟩
      · rcases ok.new q hq hmq with h | ⟨_, h⟩
        · exact hs q hq h
        · rcases Rch_iff.1 hra with rfl | h2
          · exact ⟨q, h, .refl⟩
          · exact h2.step h
      · have hmono : ∀ c, mkR m c = true → roleB c = true → mkR (popX l a (m, rest)).1 c = true := fun c h hcr => ok.mono c hcr h
        have edgeR : ∀ {c e : Int}, edgeP l c e → roleB e = true := fun ⟨_, _, _, _, _, h⟩ => h
        by_cases hba : b = a
        · subst hba
          right
          rintro c ⟨x, hx, e1, e2, _, hcr⟩
          subst e2
          exact hall x hx e1 hcr
        · have hold : b = role ∨ roleB b = true ∧ mkR m b = true ∨ b ∈ (popX l a (m, rest)).2 := by
            rcases hb with rfl | ⟨h1, h2⟩
            · exact .inl rfl
            · rcases ok.new b h1 h2 with h | ⟨h, _⟩
              · exact .inr (.inl ⟨h1, h⟩)
              · exact .inr (.inr h)
          rcases hold with h | h | h
          · rcases hc b (.inl h) with h3 | h3
            · rcases List.mem_cons.1 h3 with h3 | h3
              · exact absurd h3 hba
              · exact .inl (ok.old b h3)
            · exact .inr fun c e => hmono c (h3 c e) (edgeR e)
          · rcases hc b (.inr h) with h3 | h3
            · rcases List.mem_cons.1 h3 with h3 | h3
              · exact absurd h3 hba
              · exact .inl (ok.old b h3)
            · exact .inr fun c e => hmono c (h3 c e) (edgeR e)
          · exact .inl h
theorem below_spec (l : List S161) (role : Int) (hr : roleB role = true) (k : Nat) (hk : 8 ≤ k) : ∃ r, bfsX l k [role] (List.replicate 6 false) = some r ∧ r.length = 6 ∧ ∀ q, roleB q = true → (mkR r q = true ↔ RchP l role q) := by
  have h0 : ∀ q, mkR (List.replicate 6 false) q = false := by
    intro q
    unfold mkR
    rw [List.getD_eq_getElem?_getD, List.getElem?_replicate]
    split <;> rfl
  refine bfsX_spec l role hr 7 k [role] _ (by simp) (by simp; omega) (by omega) (fun q hq => ?_) (fun q _ h => ?_) (fun a ha => ?_)
  · rw [List.mem_singleton.1 hq]; exact ⟨hr, .refl⟩
  · rw [h0] at h; cases h
  · rcases ha with rfl | ⟨_, h⟩
    · exact .inl (by simp)
    · rw [h0] at h; cases h
/-- The roles under a role. -/
def outV (m : List Bool) : List Int := [0, 1, 2, 3, 4, 5].filter (fun r => mkR m r)
def rolesV (l : List S161) (role : Int) : List Int := if inB role 0 5 = true then outV (closX l role) else []
def pairP (l : List S161) (x : S161) : Bool := roleB x.f0 && (roleB x.f1 && !hasI (rolesV l x.f1) x.f0)
def pairsB (l : List S161) : Bool := l.all (pairP l) && decide ((l.length : Int) ≤ 10)
theorem roleB_in (n : Int) : inB n 0 5 = roleB n := rfl
theorem has_out (m : List Bool) (r : Int) (hr : roleB r = true) : hasI (outV m) r = mkR m r := by
  have h := roleB_iff.1 hr
  unfold hasI outV
  rw [Bool.eq_iff_iff, List.any_eq_true]
  constructor
  · rintro ⟨x, hx, he⟩
    rw [of_decide_eq_true he]
    exact (List.mem_filter.1 hx).2
  · intro hm
    exact ⟨r, List.mem_filter.2 ⟨by rcases (by omega : r = 0 ∨ r = 1 ∨ r = 2 ∨ r = 3 ∨ r = 4 ∨ r = 5) with rfl | rfl | rfl | rfl | rfl | rfl <;> simp, hm⟩, decide_eq_true rfl⟩
theorem has_roles (l : List S161) (a b : Int) (ha : roleB a = true) (hb : roleB b = true) : hasI (rolesV l b) a = mkR (closX l b) a := by
  unfold rolesV
  rw [roleB_in, if_pos hb, has_out _ _ ha]
/-- No role leads to itself: told by any of its pairs alike. -/
theorem pairs_alike (l : List S161) (p : S161 → Bool) (hp : ∀ x, p x = true ↔ roleB x.f0 = true ∧ roleB x.f1 = true ∧ ¬ RchP l x.f0 x.f0) : l.all p = l.all (pairP l) := by
  have hq : ∀ x, pairP l x = true ↔ roleB x.f0 = true ∧ roleB x.f1 = true ∧ ¬ Rch l x.f1 x.f0 := by
    intro x
    unfold pairP
    simp only [Bool.and_eq_true, Bool.not_eq_true']
    constructor
    · rintro ⟨h1, h2, h3⟩
      refine ⟨h1, h2, fun h => ?_⟩
      rw [has_roles l _ _ h1 h2, (closX_iff l h2 h1).2 h] at h3
      cases h3
    · rintro ⟨h1, h2, h3⟩
      refine ⟨h1, h2, ?_⟩
      rw [has_roles l _ _ h1 h2]
      cases hm : mkR (closX l x.f1) x.f0 with
      | false => rfl
      | true => exact absurd ((closX_iff l h2 h1).1 hm) h3
  rw [Bool.eq_iff_iff, List.all_eq_true, List.all_eq_true]
  constructor
  · intro h x hx
    obtain ⟨h1, h2, h3⟩ := (hp x).1 (h x hx)
    exact (hq x).2 ⟨h1, h2, fun hr => h3 ⟨x.f1, ⟨x, hx, rfl, rfl, h1, h2⟩, hr⟩⟩
  · intro h x hx
    obtain ⟨h1, h2, _⟩ := (hq x).1 (h x hx)
    refine (hp x).2 ⟨h1, h2, ?_⟩
    rintro ⟨b, ⟨y, hy, e1, rfl, _, _⟩, hr⟩
    have := (hq y).1 (h y hy)
    rw [e1] at this
    exact this.2.2 hr
theorem roles_l2 (m : List Bool) (hm : m.length = 6) : ∀ (d : Nat) (r : Nat) (out : List Int), r + d = 6 → out.length ≤ r → Ev (fun k => spec_RolesUnder.l2 k out m (r : Int)) (out ++ (([0, 1, 2, 3, 4, 5] : List Int).drop r).filter (fun r => mkR m r)) := by
  intro d
  induction d with
  | zero =>
    intro r out hr _
    obtain rfl : r = 6 := by omega
    refine Ev.succ ?_
    simp only [spec_RolesUnder.l2]
    refine Ev.neg (by omega) ?_
    simp only [List.drop_succ_cons, List.drop_nil, List.filter_nil, List.append_nil]
    exact Ev.now _
  | succ d ih =>
    intro r out hr ho
    have hd : (([0, 1, 2, 3, 4, 5] : List Int).drop r) = (r : Int) :: (([0, 1, 2, 3, 4, 5] : List Int).drop (r + 1)) := by
      rcases (by omega : r = 0 ∨ r = 1 ∨ r = 2 ∨ r = 3 ∨ r = 4 ∨ r = 5) with rfl | rfl | rfl | rfl | rfl | rfl <;> rfl
    have e : wrap64 ((r : Int) + 1) = ((r + 1 : Nat) : Int) := wr1 (n := 6) (by omega) (by omega)
    have e2 : rdOf false m (r : Int) = mkR m (r : Int) := rfl
    rw [hd, List.filter_cons]
    refine Ev.succ ?_
    simp only [spec_RolesUnder.l2, e, e2]
    refine Ev.pos (by omega) (Ev.pos (by omega) (Ev.pos (by omega) ?_))
    cases mkR m (r : Int) with
    | false => simp only [Bool.false_eq_true, if_false]; exact ih (r + 1) out (by omega) (by omega)
    | true =>
      simp only [if_true]
      refine Ev.pos (by omega) ?_
      have := ih (r + 1) (out ++ [(r : Int)]) (by omega) (by simp; omega)
      rw [List.append_assoc] at this
      exact this
theorem roles_l0 (l : List S161) (h : l.length ≤ 1048576) : ∀ (d n : Nat) (m : List Bool), n + d = 6 → m.length = 6 → Ev (fun k => spec_RolesUnder.l0 k l [] m (n : Int)) (outV (itX l d m)) := by
  intro d
  induction d with
  | zero =>
    intro n m hn hm
    obtain rfl : n = 6 := by omega
    refine Ev.succ ?_
    simp only [spec_RolesUnder.l0]
    refine Ev.neg (by omega) ?_
    exact roles_l2 m hm 6 0 [] rfl (by simp)
  | succ d ih =>
    intro n m hn hm
    have e : wrap64 ((n : Int) + 1) = ((n + 1 : Nat) : Int) := wr1 (n := 6) (by omega) (by omega)
    refine Ev.succ ?_
    simp only [spec_RolesUnder.l0]
    refine Ev.pos (by omega) ?_
    change Ev _ ((fun s => outV (itX l d s)) (l.foldl markX m))
    refine ev_fold l markX (fun s => outV (itX l d s)) (fun _ s => s.length = 6) (fun k s i => spec_RolesUnder.l1 k l [] s (n : Int) i) ?_ ?_ ?_ m hm
    · intro s hs
      refine Ev.succ ?_
      simp only [spec_RolesUnder.l1, Int.lt_irrefl, if_false, e]
      exact ih (n + 1) s (by omega) hs
    · intro i x s _ hs; rw [markX_len]; exact hs
    · intro i x s r hx hs hr
      have hi := lt_of_get hx
      have h1 : ((i : Int) < (l.length : Int)) = True := eq_true (by omega)
      have h2 : (0 ≤ (i : Int)) = True := eq_true (by omega)
      have e3 := wr1 hi (show l.length ≤ 9223372036854775807 by omega)
      have hj : ∀ b : Bool, (b = true → roleB x.f1 = true) → Ev (fun k => spec_RolesUnder.l1 k l [] (if b = true then s.set x.f1.toNat true else s) (n : Int) ((i + 1 : Nat) : Int)) r → Ev (fun k => spec_RolesUnder.j2 k l [] s (n : Int) (i : Int) b) r := by
        intro b hb hr
        refine Ev.succ ?_
        simp only [spec_RolesUnder.j2, h1, h2, if_true, rd_at_T161 hx, e3]
        cases b with
        | false => exact hr
        | true =>
          have h4 := roleB_iff.1 (hb rfl)
          simp only [if_true] at hr ⊢
          exact Ev.pos (by omega) (Ev.pos (by omega) hr)
      refine Ev.succ ?_
      simp only [spec_RolesUnder.l1, h1, h2, if_true, rd_at_T161 hx, spec_l1In_eq, Option.bind_some, roleB_in]
      unfold markX at hr
      cases h5 : roleB x.f0 with
      | false =>
        simp only [Bool.false_eq_true, if_false]
        simp only [h5, Bool.false_and, Bool.false_eq_true, if_false] at hr
        exact hj false (fun h => by cases h) hr
      | true =>
        cases h6 : roleB x.f1 with
        | false =>
          simp only [Bool.false_eq_true, if_false, if_true]
          simp only [h5, h6, Bool.false_and, Bool.and_false, Bool.false_eq_true, if_false] at hr
          exact hj false (fun h => by cases h) hr
        | true =>
          have h7 := roleB_iff.1 h5
          simp only [if_true]
          simp only [h5, h6, Bool.true_and] at hr
          refine Ev.pos (by omega) (Ev.pos (by omega) ?_)
          exact hj (mkR s x.f0) (fun _ => h6) hr
theorem spec_RolesUnder_ev (l : List S161) (role : Int) (h : l.length ≤ 1048576) : Ev (fun k => spec_RolesUnder.f k l role) (rolesV l role) := by
  unfold spec_RolesUnder.f rolesV
  simp only [Option.bind_some, spec_l1In_eq]
  cases hr : inB role 0 5 with
  | false => simp only [Bool.false_eq_true, if_false]; exact Ev.now _
  | true =>
    have h2 := inB_iff.1 hr
    simp only [if_true]
    refine Ev.pos (by omega) (Ev.pos (by omega) (Ev.pos (by simp only [List.length_replicate]; omega) ?_))
    exact roles_l0 l h 6 0 _ rfl (by simp)

theorem spec_ArePairs_ev (l : List S161) (h : l.length ≤ 1048576) : Ev (fun k => spec_ArePairs.f k l) (pairsB l) := by
  unfold spec_ArePairs.f pairsB
  have hout : ∀ m, (outV m).length ≤ 1048576 := fun m => by
    unfold outV
    have := List.length_filter_le (fun r => mkR m r) ([0, 1, 2, 3, 4, 5] : List Int)
    simp only [List.length_cons, List.length_nil] at this
    omega
  have hro : ∀ r, (rolesV l r).length ≤ 1048576 := fun r => by
    unfold rolesV
    split
    · exact hout _
    · simp
  have key : ∀ d i : Nat, l.length - i = d → i ≤ l.length → Ev (fun k => spec_ArePairs.l0 k l (i : Int)) ((l.drop i).all (pairP l) && decide ((l.length : Int) ≤ 10)) := by
    intro d
    induction d with
    | zero =>
      intro i hd hi
      obtain rfl : i = l.length := by omega
      refine Ev.succ ?_
      simp only [spec_ArePairs.l0, Int.lt_irrefl, if_false, List.drop_length, List.all_nil, Bool.true_and]
      exact Ev.now _
    | succ d ih =>
      intro i hd hi
      have hi' : i < l.length := by omega
      have hx : l[i]? = some l[i] := List.getElem?_eq_getElem hi'
      have hr := ih (i + 1) (by omega) (by omega)
      rw [List.drop_eq_getElem_cons hi', List.all_cons, Bool.and_assoc]
      generalize l[i] = x at hx ⊢
      have h1 : ((i : Int) < (l.length : Int)) = True := eq_true (by omega)
      have h2 : (0 ≤ (i : Int)) = True := eq_true (by omega)
      have hj : ∀ (b : Bool) r, Ev (fun k => spec_ArePairs.l0 k l ((i + 1 : Nat) : Int)) r → Ev (fun k => if b = true then some false else spec_ArePairs.l0 k l ((i + 1 : Nat) : Int)) (!b && r) := by
        intro b r hr
        cases b with
        | false => exact Ev.neg (by simp) hr
        | true => exact Ev.pos rfl (Ev.now _)
      refine Ev.succ ?_
      simp only [spec_ArePairs.l0, h1, h2, if_true, rd_at_T161 hx, spec_l1In_eq, Option.bind_some, roleB_in, wr1 hi' (show l.length ≤ 9223372036854775807 by omega)]
      unfold pairP
      cases roleB x.f0 with
      | false => simp only [Bool.false_eq_true, if_false]; exact Ev.now _
      | true =>
        cases roleB x.f1 with
        | false => simp only [Bool.false_eq_true, if_false, if_true]; exact Ev.now _
        | true =>
          simp only [if_true, Bool.true_and]
          refine Ev.bind (spec_RolesUnder_ev l x.f1 h) ?_
          refine Ev.bind (spec_l13Has_ev _ x.f0 (hro _)) ?_
          exact hj _ _ hr
  exact Ev.eqv (by rw [List.drop_zero]) (key l.length 0 (by omega) (by omega))

theorem spec_HasKind_eq (a b : Int) : spec_HasKind.f a b = some (kindB a b) := by
  unfold spec_HasKind.f kindB
  rw [spec_IsName_eq, Option.bind_some]
  cases h : nameB a with
  | true => simp only [if_true, name_div h, Bool.true_and]
  | false => rfl

theorem spec_l15Left_evN (N : Nat) : ∀ (x : S164) (a : Int), n164 x ≤ N → N ≤ 1048576 → 0 ≤ a → a ≤ 1048576 → ∃ r, Ev (fun k => spec_l15Left.f k x.f0 x.f1 x.f2 x.f3 a) r ∧ -1 ≤ r ∧ (1 + (n164 x : Int) ≤ a → r = a - 1 - (n164 x : Int)) ∧ (a < 1 + (n164 x : Int) → r < 0) := by
  induction N using Nat.strongRecOn with
  | _ N ih =>
  intro x a hx hN ha0 ha1
  rw [n164_f] at hx ⊢
  have key : ∀ (d i : Nat) (s : Int), x.f3.length - i = d → i ≤ x.f3.length → -1 ≤ s → s ≤ 1048576 → ∃ r, Ev (fun k => spec_l15Left.l0 k s (i : Int) x.f0 x.f1 x.f2 x.f3) r ∧ -1 ≤ r ∧ ((((x.f3.drop i).length + ((x.f3.drop i).map n164).sum : Nat) : Int) ≤ s → r = s - (((x.f3.drop i).length + ((x.f3.drop i).map n164).sum : Nat) : Int)) ∧ (s < (((x.f3.drop i).length + ((x.f3.drop i).map n164).sum : Nat) : Int) → r < 0) := by
    intro d
    induction d with
    | zero =>
      intro i s hd hi h0 hs
      obtain rfl : i = x.f3.length := by omega
      rw [List.drop_length, List.length_nil, List.map_nil, List.sum_nil]
      refine ⟨s, Ev.succ ?_, h0, fun _ => by omega, fun h => by omega⟩
      simp only [spec_l15Left.l0, Int.lt_irrefl, if_false]
      exact Ev.now _
    | succ d ih2 =>
      intro i s hd hi h0 hs
      have hi' : i < x.f3.length := by omega
      have hy : x.f3[i]? = some x.f3[i] := List.getElem?_eq_getElem hi'
      have hn := le_sum n164 hy
      rw [List.drop_eq_getElem_cons hi']
      simp only [List.length_cons, List.map_cons, List.sum_cons]
      generalize x.f3[i] = y at hy hn ⊢
      have h1 : ((i : Int) < (x.f3.length : Int)) = True := eq_true (by omega)
      have h2 : (0 ≤ (i : Int)) = True := eq_true (by omega)
      by_cases c : s ≥ 0
      · obtain ⟨r1, e1, r10, r11, r12⟩ := ih (n164 y) (by omega) y s (Nat.le_refl _) (by omega) (by omega) hs
        obtain ⟨r, e, r0, r2, r3⟩ := ih2 (i + 1) r1 (by omega) (by omega) r10 (by
          by_cases q : 1 + (n164 y : Int) ≤ s
          · have := r11 q; omega
          · have := r12 (by omega); omega)
        refine ⟨r, Ev.succ ?_, r0, ?_, ?_⟩
        · simp only [spec_l15Left.l0, h1, h2, if_true, if_pos c, rd_at_T164 hy, wr1 hi' (by omega)]
          exact Ev.bind e1 e
        · intro h
          have q := r11 (by omega)
          have := r2 (by omega)
          omega
        · intro h
          by_cases q : 1 + (n164 y : Int) ≤ s
          · have := r11 q; exact r3 (by omega)
          · have := r12 (by omega); exact r3 (by omega)
      · refine ⟨s, Ev.succ ?_, h0, fun h => by omega, fun _ => by omega⟩
        simp only [spec_l15Left.l0, h1, if_true, if_neg c]
        exact Ev.now _
  obtain ⟨r, e, r0, r1, r2⟩ := key x.f3.length 0 (a - 1) (by omega) (by omega) (by omega) (by omega)
  rw [List.drop_zero] at r1 r2
  refine ⟨r, Ev.succ ?_, r0, fun h => ?_, fun h => ?_⟩
  · simp only [spec_l15Left.f, wr (show (-9223372036854775808 : Int) ≤ a - 1 by omega) (by omega)]
    exact e
  · have := r1 (by omega); omega
  · exact r2 (by omega)

-- told elsewhere

theorem impl_InRange_eq (a b c : Int) : impl_InRange.f a b c = some (inB a b c) := by
  unfold impl_InRange.f
  rw [ite_dand]; rfl
theorem node_eq (a b c : Int) (l : List S164) : impl_isNode.f a b c l = spec_l15Node.f a b c l := by
  unfold impl_isNode.f spec_l15Node.f impl_ArityOf.f spec_ArityOf.f
  simp only [impl_InRange_eq, spec_l1In_eq, spec_IsTime_eq, Option.bind_some]
  generalize (l.length : Int) = n
  by_cases h1 : a = 1
  · subst h1; simp [inB, timeB]; (repeat' split) <;> first | rfl | omega | (simp_all; done) | (simp_all; omega) | (rw [Option.some.injEq, Bool.eq_iff_iff]; simp_all; done) | (rw [Option.some.injEq, Bool.eq_iff_iff]; simp_all; omega)
  by_cases h2 : a = 2
  · subst h2; simp [inB, timeB]; (repeat' split) <;> first | rfl | omega | (simp_all; done) | (simp_all; omega) | (rw [Option.some.injEq, Bool.eq_iff_iff]; simp_all; done) | (rw [Option.some.injEq, Bool.eq_iff_iff]; simp_all; omega)
  by_cases h3 : a = 3
  · subst h3; simp [inB, timeB]; (repeat' split) <;> first | rfl | omega | (simp_all; done) | (simp_all; omega) | (rw [Option.some.injEq, Bool.eq_iff_iff]; simp_all; done) | (rw [Option.some.injEq, Bool.eq_iff_iff]; simp_all; omega)
  by_cases h4 : a = 4
  · subst h4; simp [inB, timeB]; (repeat' split) <;> first | rfl | omega | (simp_all; done) | (simp_all; omega) | (rw [Option.some.injEq, Bool.eq_iff_iff]; simp_all; done) | (rw [Option.some.injEq, Bool.eq_iff_iff]; simp_all; omega)
  by_cases h5 : a = 5
  · subst h5; simp [inB, timeB]; (repeat' split) <;> first | rfl | omega | (simp_all; done) | (simp_all; omega) | (rw [Option.some.injEq, Bool.eq_iff_iff]; simp_all; done) | (rw [Option.some.injEq, Bool.eq_iff_iff]; simp_all; omega)
  by_cases h6 : a = 6
  · subst h6; simp [inB, timeB]; (repeat' split) <;> first | rfl | omega | (simp_all; done) | (simp_all; omega) | (rw [Option.some.injEq, Bool.eq_iff_iff]; simp_all; done) | (rw [Option.some.injEq, Bool.eq_iff_iff]; simp_all; omega)
  by_cases h7 : a = 7
  · subst h7; simp [inB, timeB]; (repeat' split) <;> first | rfl | omega | (simp_all; done) | (simp_all; omega) | (rw [Option.some.injEq, Bool.eq_iff_iff]; simp_all; done) | (rw [Option.some.injEq, Bool.eq_iff_iff]; simp_all; omega)
  by_cases h8 : a = 8
  · subst h8; simp [inB, timeB]; (repeat' split) <;> first | rfl | omega | (simp_all; done) | (simp_all; omega) | (rw [Option.some.injEq, Bool.eq_iff_iff]; simp_all; done) | (rw [Option.some.injEq, Bool.eq_iff_iff]; simp_all; omega)
  by_cases h9 : a = 9
  · subst h9; simp [inB, timeB]; (repeat' split) <;> first | rfl | omega | (simp_all; done) | (simp_all; omega) | (rw [Option.some.injEq, Bool.eq_iff_iff]; simp_all; done) | (rw [Option.some.injEq, Bool.eq_iff_iff]; simp_all; omega)
  simp [h1, h2, h3, h4, h5, h6, h7, h8, h9, inB, timeB]; (repeat' split) <;> (try simp only [Option.bind_some]) <;> (repeat' split) <;> first | rfl | omega | (simp_all; done) | (simp_all; omega) | (rw [Option.some.injEq, Bool.eq_iff_iff]; simp_all; done) | (rw [Option.some.injEq, Bool.eq_iff_iff]; simp_all; omega)
theorem node_some (a b c : Int) (l : List S164) : ∃ t, spec_l15Node.f a b c l = some t := by
  have ha : ∃ m, spec_ArityOf.f a = some m := by
    unfold spec_ArityOf.f
    (repeat' split) <;> exact ⟨_, rfl⟩
  obtain ⟨m, hm⟩ := ha
  unfold spec_l15Node.f
  simp only [spec_l1In_eq, spec_IsTime_eq, hm, Option.bind_some]
  (repeat' split) <;> exact ⟨_, rfl⟩
theorem idxV_anyI {α : Type} (q : α → Bool) : ∀ (l : List α) (i : Int), 0 ≤ i → decide (idxV q l i ≥ 0) = l.any q
  | [], i, _ => by simp [idxV]
  | x :: l, i, h => by
    unfold idxV
    rw [List.any_cons]
    cases c : q x with
    | true => simp only [if_true, Bool.true_or]; exact decide_eq_true h
    | false => simp only [Bool.false_eq_true, if_false, Bool.false_or]; exact idxV_anyI q l (i + 1) (by omega)
mutual
def vldC : S164 → Bool
  | ⟨a, b, c, l⟩ => (spec_l15Node.f a b c l).getD false && vldL l
def vldL : List S164 → Bool
  | [] => true
  | x :: l => vldC x && vldL l
end
theorem vldL_eq : ∀ l : List S164, vldL l = l.all vldC
  | [] => by simp [vldL]
  | x :: l => by simp [vldL, vldL_eq l]
theorem vldC_f (x : S164) : vldC x = ((spec_l15Node.f x.f0 x.f1 x.f2 x.f3).getD false && x.f3.all vldC) := by
  cases x
  simp only [vldC, vldL_eq]
def bothV (x : S164) (b : Bool) : Prop := Ev (fun k => spec_l15Valid.f k x.f0 x.f1 x.f2 x.f3) b ∧ Ev (fun k => impl_areNodes.f k x.f0 x.f1 x.f2 x.f3) b
theorem valid_evN (N : Nat) : ∀ x : S164, n164 x ≤ N → N ≤ 1048576 → bothV x (vldC x) := by
  induction N using Nat.strongRecOn with
  | _ N ih =>
  intro x hx hN
  rw [n164_f] at hx
  obtain ⟨t, ht⟩ := node_some x.f0 x.f1 x.f2 x.f3
  have hti := (node_eq x.f0 x.f1 x.f2 x.f3).trans ht
  rw [vldC_f, ht, Option.getD_some]
  cases t with
  | false => exact ⟨Ev.succ (by simp only [spec_l15Valid.f, ht, Option.bind_some, Bool.false_eq_true, if_false, Bool.false_and]; exact Ev.now _), Ev.succ (by simp only [impl_areNodes.f, hti, Option.bind_some, Bool.false_eq_true, if_false, Bool.false_and]; exact Ev.now _)⟩
  | true =>
  have hp : ∀ y ∈ x.f3, bothV y (vldC y) := fun y hy => by
    obtain ⟨i, hi, rfl⟩ := List.getElem_of_mem hy
    have hn := le_sum n164 (List.getElem?_eq_getElem hi)
    exact ih (n164 x.f3[i]) (by omega) _ (Nat.le_refl _) (by omega)
  rw [Bool.true_and]
  refine ⟨Ev.succ ?_, Ev.succ ?_⟩
  · simp only [spec_l15Valid.f, ht, Option.bind_some, if_true]
    have key : ∀ d i : Nat, x.f3.length - i = d → i ≤ x.f3.length → Ev (fun k => spec_l15Valid.l0 k (i : Int) x.f0 x.f1 x.f2 x.f3) ((x.f3.drop i).all vldC) := by
      intro d
      induction d with
      | zero =>
        intro i hd hi
        obtain rfl : i = x.f3.length := by omega
        refine Ev.succ ?_
        simp only [spec_l15Valid.l0, Int.lt_irrefl, if_false, List.drop_length, List.all_nil]
        exact Ev.now _
      | succ d ih2 =>
        intro i hd hi
        have hi' : i < x.f3.length := by omega
        have hy : x.f3[i]? = some x.f3[i] := List.getElem?_eq_getElem hi'
        have hb := (hp x.f3[i] (List.getElem_mem hi')).1
        rw [List.drop_eq_getElem_cons hi', List.all_cons]
        generalize x.f3[i] = y at hy hb ⊢
        have h1 : ((i : Int) < (x.f3.length : Int)) = True := eq_true (by omega)
        have h2 : (0 ≤ (i : Int)) = True := eq_true (by omega)
        refine Ev.succ ?_
        simp only [spec_l15Valid.l0, h1, h2, if_true, rd_at_T164 hy, wr1 hi' (by omega)]
        refine Ev.bind hb ?_
        cases vldC y with
        | true => simp only [if_true, Bool.true_and]; exact ih2 (i + 1) (by omega) (by omega)
        | false => simp only [Bool.false_eq_true, if_false, Bool.false_and]; exact Ev.now _
    exact Ev.eqv (by rw [List.drop_zero]) (key x.f3.length 0 (by omega) (by omega))
  · simp only [impl_areNodes.f, hti, Option.bind_some, if_true]
    refine Ev.bind (ev_idxO (fun k (y : S164) => (impl_areNodes.f k y.f0 y.f1 y.f2 y.f3).bind fun b => some (!b)) (fun y => !vldC y) x.f3 0 (fun y hy => Ev.bind (hp y hy).2 (Ev.now _))) ?_
    refine Ev.eqv ?_ (Ev.now _)
    rw [idxV_anyI (fun y => !vldC y) x.f3 0 (by omega)]
    simp [List.any_eq_not_all_not]
/-- A condition is in order: not too many nodes, each of them right. -/
def condB (x : S164) : Bool := decide (1 + (n164 x : Int) ≤ 15) && vldC x
theorem spec_IsCond_ev (x : S164) (h : n164 x ≤ 1048576) : Ev (fun k => spec_IsCond.f k x.f0 x.f1 x.f2 x.f3) (condB x) := by
  have hv := (valid_evN _ x (Nat.le_refl _) h).1
  obtain ⟨r, hr, _, r1, r2⟩ := spec_l15Left_evN _ x 15 (Nat.le_refl _) h (by omega) (by omega)
  unfold spec_IsCond.f condB
  by_cases c : 1 + (n164 x : Int) ≤ 15
  · have q := r1 c
    refine Ev.bind hr ?_
    simp only [if_pos (show r ≥ 0 by omega), decide_eq_true c, Bool.true_and]
    exact Ev.bind hv (Ev.now _)
  · have q := r2 (by omega)
    refine Ev.bind hr ?_
    simp only [if_neg (show ¬ r ≥ 0 by omega), decide_eq_false c, Bool.false_and]
    exact Ev.now _

def ruleB (r : S166) : Bool := inB r.f0 0 1 && (inB r.f1 (-1) 5 && ((r.f2 == -1 || kindB r.f2 4) && condB r.f3))
def policyB (p : S115) : Bool := inB p.f0 0 999 && (decide ((p.f1.length : Int) ≤ 8) && p.f1.all ruleB)
theorem rule_n (r : S166) : n164 r.f3 ≤ n166 r := by unfold n166; omega
theorem spec_IsRule_ev (r : S166) (h : n166 r ≤ 1048576) : Ev (fun k => spec_IsRule.f k r.f0 r.f1 r.f2 r.f3.f0 r.f3.f1 r.f3.f2 r.f3.f3) (ruleB r) := by
  have hc := spec_IsCond_ev r.f3 (by have := rule_n r; omega)
  unfold spec_IsRule.f ruleB
  simp only [spec_l1In_eq, spec_HasKind_eq, Option.bind_some]
  refine Ev.bifT fun _ => Ev.bifT fun _ => ?_
  by_cases c : r.f2 = -1
  · simp only [if_pos c, beq_iff_eq.2 c, Bool.true_or, Bool.true_and]
    exact Ev.bind hc (Ev.now _)
  · simp only [if_neg c, beq_eq_false_iff_ne.2 c, Bool.false_or]
    exact Ev.bifT fun _ => Ev.bind hc (Ev.now _)

theorem spec_IsPolicy_ev (p : S115) (h : n115 p ≤ 1048576) : Ev (fun k => spec_IsPolicy.f k p.f0 p.f1) (policyB p) := by
  unfold n115 at h
  unfold spec_IsPolicy.f policyB
  have key : ∀ d i : Nat, p.f1.length - i = d → i ≤ p.f1.length → Ev (fun k => spec_IsPolicy.l0 k (i : Int) p.f0 p.f1) ((p.f1.drop i).all ruleB && (inB p.f0 0 999 && decide ((p.f1.length : Int) ≤ 8))) := by
    intro d
    induction d with
    | zero =>
      intro i hd hi
      obtain rfl : i = p.f1.length := by omega
      refine Ev.succ ?_
      simp only [spec_IsPolicy.l0, Int.lt_irrefl, if_false, List.drop_length, List.all_nil, Bool.true_and, spec_l1In_eq, Option.bind_some]
      exact Ev.bifT fun _ => Ev.now _
    | succ d ih =>
      intro i hd hi
      have hi' : i < p.f1.length := by omega
      have hx : p.f1[i]? = some p.f1[i] := List.getElem?_eq_getElem hi'
      have hr := ih (i + 1) (by omega) (by omega)
      have hn := le_sum n166 hx
      rw [List.drop_eq_getElem_cons hi', List.all_cons, Bool.and_assoc]
      generalize p.f1[i] = x at hx hn ⊢
      have h1 : ((i : Int) < (p.f1.length : Int)) = True := eq_true (by omega)
      have h2 : (0 ≤ (i : Int)) = True := eq_true (by omega)
      refine Ev.succ ?_
      simp only [spec_IsPolicy.l0, h1, h2, if_true, rd_at_T166 hx, wr1 hi' (show p.f1.length ≤ 9223372036854775807 by omega)]
      exact Ev.band (spec_IsRule_ev x (by omega)) fun _ => hr
  refine Ev.eqv ?_ (key p.f1.length 0 (by omega) (by omega))
  rw [List.drop_zero]
  cases p.f1.all ruleB <;> cases inB p.f0 0 999 <;> simp

def epochB (e : S117) : Bool := inB e.f0 0 999 && (timeB e.f1 && (pairsB e.f2 && (policyB e.f3 && (e.f3.f0 == e.f0))))
def epochQ (y x : S117) : Bool := !decide (y.f0 ≥ x.f0) && !decide (y.f1 > x.f1)
def epochsB (l : List S117) : Bool := adjB epochB epochQ l && decide ((l.length : Int) ≤ 6)
theorem epochQ_step {y x : S117} {g : Nat → Option Bool} {r : Bool} (h : epochQ y x = true → Ev g r) : Ev (fun k => if y.f0 ≥ x.f0 then some false else if y.f1 > x.f1 then some false else g k) (epochQ y x && r) := by
  unfold epochQ at h ⊢
  rw [Bool.and_assoc]
  exact Ev.dnot fun a => Ev.dnot fun b => h (by rw [decide_eq_false a, decide_eq_false b]; rfl)
theorem spec_IsEpoch_ev (e : S117) (h : n117 e ≤ 1048576) : Ev (fun k => spec_IsEpoch.f k e.f0 e.f1 e.f2 e.f3.f0 e.f3.f1) (epochB e) := by
  unfold n117 at h
  unfold spec_IsEpoch.f epochB
  simp only [spec_l1In_eq, spec_IsTime_eq, Option.bind_some]
  exact Ev.bifT fun _ => Ev.bifT fun _ => Ev.band (spec_ArePairs_ev e.f2 (by omega)) fun _ => Ev.band (spec_IsPolicy_ev e.f3 (by omega)) fun _ => Ev.now _

theorem spec_AreEpochs_ev (l : List S117) (h : l.length + (l.map n117).sum ≤ 1048576) : Ev (fun k => spec_AreEpochs.f k l) (epochsB l) := by
  unfold spec_AreEpochs.f epochsB
  refine ev_adj l epochB epochQ _ (fun k i => spec_AreEpochs.l0 k l i) ?_ ?_ ?_
  · refine Ev.succ ?_
    simp only [spec_AreEpochs.l0, Int.lt_irrefl, if_false]
    exact Ev.now _
  · intro x r hx hr
    have hi := lt_of_get hx
    have h1 : ((0 : Int) < (l.length : Int)) = True := eq_true (by omega)
    have e := rd_at_T117 hx
    have e2 := wr1 hi (show l.length ≤ 9223372036854775807 by omega)
    simp only [Int.ofNat_zero, Int.natCast_zero] at e e2
    refine Ev.succ ?_
    simp only [spec_AreEpochs.l0, h1, if_true, Int.le_refl, gt_iff_lt, Int.lt_irrefl, if_false, e, e2, Option.bind_some]
    exact Ev.band (spec_IsEpoch_ev x (by have := le_sum n117 hx; omega)) fun _ => hr
  · intro i y x r hy hx hr
    have hi := lt_of_get hx
    have h1 : (((i + 1 : Nat) : Int) < (l.length : Int)) = True := eq_true (by omega)
    have h2 : (0 ≤ ((i + 1 : Nat) : Int)) = True := eq_true (by omega)
    have h3 : (((i + 1 : Nat) : Int) > 0) = True := eq_true (by omega)
    have h4 : (0 ≤ (i : Int)) = True := eq_true (by omega)
    have h5 : ((i : Int) < (l.length : Int)) = True := eq_true (by omega)
    refine Ev.succ ?_
    simp only [spec_AreEpochs.l0, h1, h2, h3, h4, h5, if_true, rd_at_T117 hx, rd_at_T117 hy, wr1 hi (show l.length ≤ 9223372036854775807 by omega), wrp hi (show l.length ≤ 9223372036854775807 by omega), Option.bind_some]
    exact Ev.band (spec_IsEpoch_ev x (by have := le_sum n117 hx; omega)) fun _ => epochQ_step fun _ => hr

def claimB (x : S53) : Bool := if x.f0 = 1 then kindB x.f1 1 && inB x.f2 0 5 else if x.f0 = 2 then kindB x.f1 1 && kindB x.f2 2 else if x.f0 = 3 then kindB x.f1 2 && inB x.f2 0 3 else if x.f0 = 4 then kindB x.f1 3 && inB x.f2 0 3 else false
def factB (x : S53) : Bool := claimB x && (inB x.f3 0 9 && (timeB x.f4 && (timeB x.f5 && decide (x.f4 ≤ x.f5))))
/-- A fact stands ahead of another. -/
def factQ (y x : S53) : Bool := if y.f0 = x.f0 then if y.f1 = x.f1 then if y.f2 = x.f2 then decide (y.f3 < x.f3) else decide (y.f2 < x.f2) else decide (y.f1 < x.f1) else decide (y.f0 < x.f0)
def storeB (l : List S53) : Bool := adjB factB factQ l && decide ((l.length : Int) ≤ 30)
theorem spec_IsFact_eq (x : S53) : spec_IsFact.f x.f0 x.f1 x.f2 x.f3 x.f4 x.f5 = some (factB x) := by
  unfold spec_IsFact.f factB claimB
  simp only [spec_HasKind_eq, spec_l1In_eq, spec_IsTime_eq, Option.bind_some, ite_and]
  (repeat' split) <;> first | rfl | simp only [Bool.and_assoc, Bool.false_and]

theorem spec_FactBefore_eq (y x : S53) : spec_FactBefore.f y.f0 y.f1 y.f2 y.f3 y.f4 y.f5 x.f0 x.f1 x.f2 x.f3 x.f4 x.f5 = some (factQ y x) := by
  unfold spec_FactBefore.f factQ
  (repeat' split) <;> rfl

theorem spec_IsStore_ev (l : List S53) (h : l.length ≤ 1048576) : Ev (fun k => spec_IsStore.f k l) (storeB l) := by
  unfold spec_IsStore.f storeB
  refine ev_adj l factB factQ _ (fun k i => spec_IsStore.l0 k l i) ?_ ?_ ?_
  · refine Ev.succ ?_
    simp only [spec_IsStore.l0, Int.lt_irrefl, if_false]
    exact Ev.now _
  · intro x r hx hr
    have hi := lt_of_get hx
    have h1 : ((0 : Int) < (l.length : Int)) = True := eq_true (by omega)
    have e := rd_at_T53 hx
    have e2 := wr1 hi (show l.length ≤ 9223372036854775807 by omega)
    simp only [Int.ofNat_zero, Int.natCast_zero] at e e2
    refine Ev.succ ?_
    simp only [spec_IsStore.l0, h1, if_true, Int.le_refl, gt_iff_lt, Int.lt_irrefl, if_false, e, e2, spec_IsFact_eq, spec_FactBefore_eq, Option.bind_some]
    exact Ev.bifT fun _ => hr
  · intro i y x r hy hx hr
    have hi := lt_of_get hx
    have h1 : (((i + 1 : Nat) : Int) < (l.length : Int)) = True := eq_true (by omega)
    have h2 : (0 ≤ ((i + 1 : Nat) : Int)) = True := eq_true (by omega)
    have h3 : (((i + 1 : Nat) : Int) > 0) = True := eq_true (by omega)
    have h4 : (0 ≤ (i : Int)) = True := eq_true (by omega)
    have h5 : ((i : Int) < (l.length : Int)) = True := eq_true (by omega)
    refine Ev.succ ?_
    simp only [spec_IsStore.l0, h1, h2, h3, h4, h5, if_true, rd_at_T53 hx, rd_at_T53 hy, wr1 hi (show l.length ≤ 9223372036854775807 by omega), wrp hi (show l.length ≤ 9223372036854775807 by omega), spec_IsFact_eq, spec_FactBefore_eq, Option.bind_some]
    exact Ev.bifT fun _ => Ev.bifT fun _ => hr

def revP (x : S121) : Bool := inB x.f0 1 9999 && timeB x.f1
def revQ (y x : S121) : Bool := !decide (y.f0 ≥ x.f0)
def revB (l : List S121) : Bool := adjB revP revQ l && decide ((l.length : Int) ≤ 40)
theorem revP_step {x : S121} {g : Nat → Option Bool} {r : Bool} (h : revP x = true → Ev g r) : Ev (fun k => if inB x.f0 1 9999 = true then (if timeB x.f1 = true then g k else some false) else some false) (revP x && r) := by
  unfold revP at h ⊢
  rw [Bool.and_assoc]
  exact Ev.bifT fun a => Ev.bifT fun b => h (by rw [a, b]; rfl)
theorem spec_AreRevoked_ev (l : List S121) (h : l.length ≤ 1048576) : Ev (fun k => spec_AreRevoked.f k l) (revB l) := by
  unfold spec_AreRevoked.f revB
  refine ev_adj l revP revQ _ (fun k i => spec_AreRevoked.l0 k l i) ?_ ?_ ?_
  · refine Ev.succ ?_
    simp only [spec_AreRevoked.l0, Int.lt_irrefl, if_false]
    exact Ev.now _
  · intro x r hx hr
    have hi := lt_of_get hx
    have h1 : ((0 : Int) < (l.length : Int)) = True := eq_true (by omega)
    have e := rd_at_T121 hx
    have e2 := wr1 hi (show l.length ≤ 9223372036854775807 by omega)
    simp only [Int.ofNat_zero, Int.natCast_zero] at e e2
    refine Ev.succ ?_
    simp only [spec_AreRevoked.l0, h1, if_true, Int.le_refl, gt_iff_lt, Int.lt_irrefl, if_false, e, e2, spec_l1In_eq, spec_IsTime_eq, Option.bind_some]
    exact revP_step fun _ => hr
  · intro i y x r hy hx hr
    have hi := lt_of_get hx
    have h1 : (((i + 1 : Nat) : Int) < (l.length : Int)) = True := eq_true (by omega)
    have h2 : (0 ≤ ((i + 1 : Nat) : Int)) = True := eq_true (by omega)
    have h3 : (((i + 1 : Nat) : Int) > 0) = True := eq_true (by omega)
    have h4 : (0 ≤ (i : Int)) = True := eq_true (by omega)
    have h5 : ((i : Int) < (l.length : Int)) = True := eq_true (by omega)
    refine Ev.succ ?_
    simp only [spec_AreRevoked.l0, h1, h2, h3, h4, h5, if_true, rd_at_T121 hx, rd_at_T121 hy, wr1 hi (show l.length ≤ 9223372036854775807 by omega), wrp hi (show l.length ≤ 9223372036854775807 by omega), spec_l1In_eq, spec_IsTime_eq, Option.bind_some]
    exact revP_step fun _ => Ev.dnot fun _ => hr

/-- The certificates of a center are numbered, in order, and marked by its secret. -/
def markB (s : Int) (x : S64) (i : Nat) : Bool := decide (x.f0 = (i : Int) + 1) && (certB x.f0 x.f1 x.f2 x.f3 x.f4 && (khV s [x.f0, x.f1, x.f2, x.f3, x.f4] == x.f5))
def certsB (s : Int) (l : List S64) : Bool := allN l.length (fun i => markB s (rd_T64 l (i : Int)) i)
def centerB (x : S37) : Bool := certsB x.f4 x.f5 && (issuersB x.f0 && (epochsB x.f1 && (storeB x.f2 && (revB x.f3 && (keyB x.f4 && decide ((x.f5.length : Int) ≤ 20))))))
theorem spec_IsCenter_ev (x : S37) (h : n37 x ≤ 1048576) : Ev (fun k => spec_IsCenter.f k x.f0 x.f1 x.f2 x.f3 x.f4 x.f5) (centerB x) := by
  unfold n37 at h
  unfold spec_IsCenter.f centerB certsB
  refine ev_all x.f5.length (fun i => markB x.f4 (rd_T64 x.f5 (i : Int)) i) _ (fun k i => spec_IsCenter.l0 k i x.f0 x.f1 x.f2 x.f3 x.f4 x.f5) ?_ ?_
  · refine Ev.succ ?_
    simp only [spec_IsCenter.l0, Int.lt_irrefl, if_false, spec_IsValidKey_eq, Option.bind_some]
    exact Ev.band (spec_AreIssuers_ev x.f0 (by omega)) fun _ => Ev.band (spec_AreEpochs_ev x.f1 (by omega)) fun _ => Ev.band (spec_IsStore_ev x.f2 (by omega)) fun _ => Ev.band (spec_AreRevoked_ev x.f3 (by omega)) fun _ => Ev.bifT fun _ => Ev.now _
  · intro i hi
    have hx : x.f5[i]? = some x.f5[i] := List.getElem?_eq_getElem hi
    generalize x.f5[i] = c at hx
    have h1 : ((i : Int) < (x.f5.length : Int)) = True := eq_true (by omega)
    have h2 : (0 ≤ (i : Int)) = True := eq_true (by omega)
    have h3 := wr1 hi (show x.f5.length ≤ 9223372036854775807 by omega)
    have hj : ∀ (b : Bool), (b = false → ∀ r, Ev (fun k => spec_IsCenter.l0 k ((i + 1 : Nat) : Int) x.f0 x.f1 x.f2 x.f3 x.f4 x.f5) r → Ev (fun k => if b = true then some false else spec_IsCenter.l0 k ((i + 1 : Nat) : Int) x.f0 x.f1 x.f2 x.f3 x.f4 x.f5) r) ∧ (b = true → Ev (fun k => if b = true then some false else spec_IsCenter.l0 k ((i + 1 : Nat) : Int) x.f0 x.f1 x.f2 x.f3 x.f4 x.f5) false) := by
      intro b
      constructor
      · rintro rfl r hr; exact Ev.neg (by simp) hr
      · rintro rfl; exact Ev.pos rfl (Ev.now _)
    simp only [rd_at_T64 hx]
    have e0 : (((i + 1 : Nat) : Int)) = (i : Int) + 1 := by omega
    unfold markB
    have hstep : ∀ r, (Ev (fun k => if c.f0 = ((i + 1 : Nat) : Int) then (if certB c.f0 c.f1 c.f2 c.f3 c.f4 = true then (spec_MarkCert.f k x.f4 c.f0 c.f1 c.f2 c.f3 c.f4 c.f5).bind fun bt => if (!(bt.1 == c.f0) || (!(bt.2.1 == c.f1) || (!(bt.2.2.1 == c.f2) || (!(bt.2.2.2.1 == c.f3) || (!(bt.2.2.2.2.1 == c.f4) || (!(bt.2.2.2.2.2 == c.f5))))))) = true then some false else spec_IsCenter.l0 k ((i + 1 : Nat) : Int) x.f0 x.f1 x.f2 x.f3 x.f4 x.f5 else some false) else some false) r) → Ev (fun k => (fun i => spec_IsCenter.l0 k i x.f0 x.f1 x.f2 x.f3 x.f4 x.f5) (i : Int)) r := by
      intro r hr
      refine Ev.succ ?_
      simp only [spec_IsCenter.l0, h1, h2, if_true, rd_at_T64 hx, h3, spec_IsCert_eq, Option.bind_some]
      exact hr
    constructor
    · intro hp r hr
      simp only [Bool.and_eq_true, decide_eq_true_eq] at hp
      refine hstep r (Ev.pos (by omega) (Ev.pos hp.2.1 ?_))
      refine Ev.bind (spec_MarkCert_ev x.f4 c.f0 c.f1 c.f2 c.f3 c.f4 c.f5) ?_
      exact (hj _).1 (by simp [beq_iff_eq.1 hp.2.2]) r hr
    · intro hp
      apply hstep
      by_cases c1 : c.f0 = (i : Int) + 1
      · refine Ev.pos (by omega) ?_
        cases c2 : certB c.f0 c.f1 c.f2 c.f3 c.f4 with
        | false => simp only [Bool.false_eq_true, if_false]; exact Ev.now _
        | true =>
          simp only [if_true]
          rw [decide_eq_true c1, c2, Bool.true_and, Bool.true_and] at hp
          refine Ev.bind (spec_MarkCert_ev x.f4 c.f0 c.f1 c.f2 c.f3 c.f4 c.f5) ?_
          exact (hj _).2 (by simp [hp])
      · exact Ev.neg (by omega) (Ev.now _)

theorem laws_toIntS_ev (l : List Int) (h : l.length ≤ 1048576) : Ev (fun k => laws_toIntS.f k l) l := by
  unfold laws_toIntS.f
  have e : l = l.map id := by simp
  conv => rhs; rw [e]
  refine Ev.pos (by omega) (Ev.pos (by omega) ?_)
  refine ev_fill l id (fun k out i => laws_toIntS.l0 k l out i) ?_ ?_ _ (by simp)
  · intro out ho
    refine Ev.succ ?_
    simp only [laws_toIntS.l0, Int.lt_irrefl, if_false]
    exact Ev.now _
  · intro i x out r hx ho hr
    have hi := lt_of_get hx
    have h1 : ((i : Int) < (l.length : Int)) = True := eq_true (by omega)
    have h2 : (0 ≤ (i : Int)) = True := eq_true (by omega)
    have h3 : ((i : Int) < (out.length : Int)) = True := eq_true (by omega)
    refine Ev.succ ?_
    simp only [laws_toIntS.l0, h1, h2, h3, if_true, rd_nat l i x hx, wr1 hi (by omega), Int.toNat_natCast]
    exact hr

theorem laws_toIssuer_ev (x : S100) (h : n100 x ≤ 1048576) : Ev (fun k => laws_toIssuer.f k x.f0 x.f1 x.f2) ((cv100 x).f0, (cv100 x).f1, (cv100 x).f2) := by
  unfold n100 at h
  unfold laws_toIssuer.f
  repeat (first | exact Ev.now _ | (refine Ev.bind (laws_toIntS_ev _ (by omega)) ?_; try simp only []))

theorem laws_toIssuerS_ev (l : List (S100)) (h : l.length + (l.map n100).sum ≤ 1048576) : Ev (fun k => laws_toIssuerS.f k l) (l.map cv100) := by
  unfold laws_toIssuerS.f
  refine Ev.pos (by omega) (Ev.pos (by omega) ?_)
  refine ev_fill l cv100 (fun k out i => laws_toIssuerS.l0 k l out i) ?_ ?_ _ (by simp)
  · intro out ho
    refine Ev.succ ?_
    simp only [laws_toIssuerS.l0, Int.lt_irrefl, if_false]
    exact Ev.now _
  · intro i x out r hx ho hr
    have hi := lt_of_get hx
    have h1 : ((i : Int) < (l.length : Int)) = True := eq_true (by omega)
    have h2 : (0 ≤ (i : Int)) = True := eq_true (by omega)
    have h3 : ((i : Int) < (out.length : Int)) = True := eq_true (by omega)
    refine Ev.succ ?_
    simp only [laws_toIssuerS.l0, h1, h2, h3, if_true, rd_at_T100 hx, wr1 hi (by omega), Int.toNat_natCast]
    refine Ev.bind (laws_toIssuer_ev x (by have := le_sum n100 hx; omega)) ?_
    simp only [h3, if_true]
    (try simp only [eta191, eta164])
    exact hr

theorem laws_toIncludes_eq (x : S177) : laws_toIncludes.f x.f0 x.f1 = some ((cv177 x).f0, (cv177 x).f1) := by
  unfold laws_toIncludes.f
  first | rfl | (simp only [Option.bind_some]; rfl)

theorem laws_toIncludesS_ev (l : List (S177)) (h : l.length ≤ 1048576) : Ev (fun k => laws_toIncludesS.f k l) (l.map cv177) := by
  unfold laws_toIncludesS.f
  refine Ev.pos (by omega) (Ev.pos (by omega) ?_)
  refine ev_fill l cv177 (fun k out i => laws_toIncludesS.l0 k l out i) ?_ ?_ _ (by simp)
  · intro out ho
    refine Ev.succ ?_
    simp only [laws_toIncludesS.l0, Int.lt_irrefl, if_false]
    exact Ev.now _
  · intro i x out r hx ho hr
    have hi := lt_of_get hx
    have h1 : ((i : Int) < (l.length : Int)) = True := eq_true (by omega)
    have h2 : (0 ≤ (i : Int)) = True := eq_true (by omega)
    have h3 : ((i : Int) < (out.length : Int)) = True := eq_true (by omega)
    refine Ev.succ ?_
    simp only [laws_toIncludesS.l0, h1, h2, h3, if_true, rd_at_T177 hx, wr1 hi (by omega), Int.toNat_natCast, laws_toIncludes_eq x, Option.bind_some]
    exact hr

theorem laws_toCondS_evN (N : Nat) : ∀ l : List S191, l.length + (l.map n191).sum ≤ N → N ≤ 1048576 → Ev (fun k => laws_toCondS.f k l) (l.map cv191) := by
  induction N using Nat.strongRecOn with
  | _ N ih =>
  intro l h hN
  refine Ev.succ ?_
  simp only [laws_toCondS.f]
  refine Ev.pos (by omega) (Ev.pos (by omega) ?_)
  refine ev_fill l cv191 (fun k out i => laws_toCondS.l0 k l out i) ?_ ?_ _ (by simp)
  · intro out ho
    refine Ev.succ ?_
    simp only [laws_toCondS.l0, Int.lt_irrefl, if_false]
    exact Ev.now _
  · intro i x out r hx ho hr
    have hi := lt_of_get hx
    have h1 : ((i : Int) < (l.length : Int)) = True := eq_true (by omega)
    have h2 : (0 ≤ (i : Int)) = True := eq_true (by omega)
    have h3 : ((i : Int) < (out.length : Int)) = True := eq_true (by omega)
    have hn := le_sum n191 hx
    rw [n191_f] at hn
    have e := ih (x.f3.length + (x.f3.map n191).sum) (by omega) x.f3 (Nat.le_refl _) (by omega)
    have e' : Ev (fun k => laws_toCond.f k x.f0 x.f1 x.f2 x.f3) (x.f0, x.f1, x.f2, x.f3.map cv191) := by
      refine Ev.succ ?_
      simp only [laws_toCond.f]
      refine Ev.bind e ?_
      exact Ev.now _
    refine Ev.succ ?_
    simp only [laws_toCondS.l0, h1, h2, if_true, rd_at_T191 hx, wr1 hi (by omega), Int.toNat_natCast]
    refine Ev.bind e' ?_
    simp only [h3, if_true]
    rw [cv191_f] at hr
    exact hr
theorem laws_toCondS_ev (l : List S191) (h : l.length + (l.map n191).sum ≤ 1048576) : Ev (fun k => laws_toCondS.f k l) (l.map cv191) := laws_toCondS_evN _ l (Nat.le_refl _) h
theorem laws_toCond_ev (x : S191) (h : n191 x ≤ 1048576) : Ev (fun k => laws_toCond.f k x.f0 x.f1 x.f2 x.f3) ((cv191 x).f0, (cv191 x).f1, (cv191 x).f2, (cv191 x).f3) := by
  rw [n191_f] at h
  rw [cv191_f]
  refine Ev.succ ?_
  simp only [laws_toCond.f]
  refine Ev.bind (laws_toCondS_ev x.f3 h) ?_
  exact Ev.now _



theorem laws_toRule_ev (x : S193) (h : n193 x ≤ 1048576) : Ev (fun k => laws_toRule.f k x.f0 x.f1 x.f2 x.f3.f0 x.f3.f1 x.f3.f2 x.f3.f3) ((cv193 x).f0, (cv193 x).f1, (cv193 x).f2, (cv193 x).f3.f0, (cv193 x).f3.f1, (cv193 x).f3.f2, (cv193 x).f3.f3) := by
  unfold n193 at h
  unfold laws_toRule.f
  repeat (first | exact Ev.now _ | (refine Ev.bind (laws_toCond_ev _ (by omega)) ?_; try simp only []))

theorem laws_toRuleS_ev (l : List (S193)) (h : l.length + (l.map n193).sum ≤ 1048576) : Ev (fun k => laws_toRuleS.f k l) (l.map cv193) := by
  unfold laws_toRuleS.f
  refine Ev.pos (by omega) (Ev.pos (by omega) ?_)
  refine ev_fill l cv193 (fun k out i => laws_toRuleS.l0 k l out i) ?_ ?_ _ (by simp)
  · intro out ho
    refine Ev.succ ?_
    simp only [laws_toRuleS.l0, Int.lt_irrefl, if_false]
    exact Ev.now _
  · intro i x out r hx ho hr
    have hi := lt_of_get hx
    have h1 : ((i : Int) < (l.length : Int)) = True := eq_true (by omega)
    have h2 : (0 ≤ (i : Int)) = True := eq_true (by omega)
    have h3 : ((i : Int) < (out.length : Int)) = True := eq_true (by omega)
    refine Ev.succ ?_
    simp only [laws_toRuleS.l0, h1, h2, h3, if_true, rd_at_T193 hx, wr1 hi (by omega), Int.toNat_natCast]
    refine Ev.bind (laws_toRule_ev x (by have := le_sum n193 hx; omega)) ?_
    simp only [h3, if_true]
    (try simp only [eta191, eta164])
    exact hr

theorem laws_toPolicy_ev (x : S105) (h : n105 x ≤ 1048576) : Ev (fun k => laws_toPolicy.f k x.f0 x.f1) ((cv105 x).f0, (cv105 x).f1) := by
  unfold n105 at h
  unfold laws_toPolicy.f
  repeat (first | exact Ev.now _ | (refine Ev.bind (laws_toRuleS_ev _ (by omega)) ?_; try simp only []))

theorem laws_toEpoch_ev (x : S107) (h : n107 x ≤ 1048576) : Ev (fun k => laws_toEpoch.f k x.f0 x.f1 x.f2 x.f3.f0 x.f3.f1) ((cv107 x).f0, (cv107 x).f1, (cv107 x).f2, (cv107 x).f3.f0, (cv107 x).f3.f1) := by
  unfold n107 at h
  unfold laws_toEpoch.f
  repeat (first | exact Ev.now _ | (refine Ev.bind (laws_toIncludesS_ev _ (by omega)) ?_; try simp only []) | (refine Ev.bind (laws_toPolicy_ev _ (by omega)) ?_; try simp only []))

theorem laws_toEpochS_ev (l : List (S107)) (h : l.length + (l.map n107).sum ≤ 1048576) : Ev (fun k => laws_toEpochS.f k l) (l.map cv107) := by
  unfold laws_toEpochS.f
  refine Ev.pos (by omega) (Ev.pos (by omega) ?_)
  refine ev_fill l cv107 (fun k out i => laws_toEpochS.l0 k l out i) ?_ ?_ _ (by simp)
  · intro out ho
    refine Ev.succ ?_
    simp only [laws_toEpochS.l0, Int.lt_irrefl, if_false]
    exact Ev.now _
  · intro i x out r hx ho hr
    have hi := lt_of_get hx
    have h1 : ((i : Int) < (l.length : Int)) = True := eq_true (by omega)
    have h2 : (0 ≤ (i : Int)) = True := eq_true (by omega)
    have h3 : ((i : Int) < (out.length : Int)) = True := eq_true (by omega)
    refine Ev.succ ?_
    simp only [laws_toEpochS.l0, h1, h2, h3, if_true, rd_at_T107 hx, wr1 hi (by omega), Int.toNat_natCast]
    refine Ev.bind (laws_toEpoch_ev x (by have := le_sum n107 hx; omega)) ?_
    simp only [h3, if_true]
    (try simp only [eta191, eta164])
    exact hr

theorem laws_toFact_eq (x : S49) : laws_toFact.f x.f0 x.f1 x.f2 x.f3 x.f4 x.f5 = some ((cv49 x).f0, (cv49 x).f1, (cv49 x).f2, (cv49 x).f3, (cv49 x).f4, (cv49 x).f5) := by
  unfold laws_toFact.f
  first | rfl | (simp only [Option.bind_some]; rfl)

theorem laws_toFactS_ev (l : List (S49)) (h : l.length ≤ 1048576) : Ev (fun k => laws_toFactS.f k l) (l.map cv49) := by
  unfold laws_toFactS.f
  refine Ev.pos (by omega) (Ev.pos (by omega) ?_)
  refine ev_fill l cv49 (fun k out i => laws_toFactS.l0 k l out i) ?_ ?_ _ (by simp)
  · intro out ho
    refine Ev.succ ?_
    simp only [laws_toFactS.l0, Int.lt_irrefl, if_false]
    exact Ev.now _
  · intro i x out r hx ho hr
    have hi := lt_of_get hx
    have h1 : ((i : Int) < (l.length : Int)) = True := eq_true (by omega)
    have h2 : (0 ≤ (i : Int)) = True := eq_true (by omega)
    have h3 : ((i : Int) < (out.length : Int)) = True := eq_true (by omega)
    refine Ev.succ ?_
    simp only [laws_toFactS.l0, h1, h2, h3, if_true, rd_at_T49 hx, wr1 hi (by omega), Int.toNat_natCast, laws_toFact_eq x, Option.bind_some]
    exact hr

theorem laws_toRevoked_eq (x : S125) : laws_toRevoked.f x.f0 x.f1 = some ((cv125 x).f0, (cv125 x).f1) := by
  unfold laws_toRevoked.f
  first | rfl | (simp only [Option.bind_some]; rfl)

theorem laws_toRevokedS_ev (l : List (S125)) (h : l.length ≤ 1048576) : Ev (fun k => laws_toRevokedS.f k l) (l.map cv125) := by
  unfold laws_toRevokedS.f
  refine Ev.pos (by omega) (Ev.pos (by omega) ?_)
  refine ev_fill l cv125 (fun k out i => laws_toRevokedS.l0 k l out i) ?_ ?_ _ (by simp)
  · intro out ho
    refine Ev.succ ?_
    simp only [laws_toRevokedS.l0, Int.lt_irrefl, if_false]
    exact Ev.now _
  · intro i x out r hx ho hr
    have hi := lt_of_get hx
    have h1 : ((i : Int) < (l.length : Int)) = True := eq_true (by omega)
    have h2 : (0 ≤ (i : Int)) = True := eq_true (by omega)
    have h3 : ((i : Int) < (out.length : Int)) = True := eq_true (by omega)
    refine Ev.succ ?_
    simp only [laws_toRevokedS.l0, h1, h2, h3, if_true, rd_at_T125 hx, wr1 hi (by omega), Int.toNat_natCast, laws_toRevoked_eq x, Option.bind_some]
    exact hr

theorem laws_toCert_eq (x : S127) : laws_toCert.f x.f0 x.f1 x.f2 x.f3 x.f4 x.f5 = some ((cv127 x).f0, (cv127 x).f1, (cv127 x).f2, (cv127 x).f3, (cv127 x).f4, (cv127 x).f5) := by
  unfold laws_toCert.f
  first | rfl | (simp only [Option.bind_some]; rfl)

theorem laws_toCertS_ev (l : List (S127)) (h : l.length ≤ 1048576) : Ev (fun k => laws_toCertS.f k l) (l.map cv127) := by
  unfold laws_toCertS.f
  refine Ev.pos (by omega) (Ev.pos (by omega) ?_)
  refine ev_fill l cv127 (fun k out i => laws_toCertS.l0 k l out i) ?_ ?_ _ (by simp)
  · intro out ho
    refine Ev.succ ?_
    simp only [laws_toCertS.l0, Int.lt_irrefl, if_false]
    exact Ev.now _
  · intro i x out r hx ho hr
    have hi := lt_of_get hx
    have h1 : ((i : Int) < (l.length : Int)) = True := eq_true (by omega)
    have h2 : (0 ≤ (i : Int)) = True := eq_true (by omega)
    have h3 : ((i : Int) < (out.length : Int)) = True := eq_true (by omega)
    refine Ev.succ ?_
    simp only [laws_toCertS.l0, h1, h2, h3, if_true, rd_at_T127 hx, wr1 hi (by omega), Int.toNat_natCast, laws_toCert_eq x, Option.bind_some]
    exact hr

theorem laws_toCenter_ev (x : S28) (h : n28 x ≤ 1048576) : Ev (fun k => laws_toCenter.f k x.f0 x.f1 x.f2 x.f3 x.f4 x.f5) ((cv28 x).f0, (cv28 x).f1, (cv28 x).f2, (cv28 x).f3, (cv28 x).f4, (cv28 x).f5) := by
  unfold n28 at h
  unfold laws_toCenter.f
  repeat (first | exact Ev.now _ | (refine Ev.bind (laws_toIssuerS_ev _ (by omega)) ?_; try simp only []) | (refine Ev.bind (laws_toEpochS_ev _ (by omega)) ?_; try simp only []) | (refine Ev.bind (laws_toFactS_ev _ (by omega)) ?_; try simp only []) | (refine Ev.bind (laws_toRevokedS_ev _ (by omega)) ?_; try simp only []) | (refine Ev.bind (laws_toCertS_ev _ (by omega)) ?_; try simp only []))



theorem impl_IsValidKey_eq (a : Int) : impl_IsValidKey.f a = some (keyB a) := by
  unfold impl_IsValidKey.f; rw [impl_InRange_eq]; rfl

theorem impl_IsName_eq (a : Int) : impl_IsName.f a = some (nameB a) := by
  unfold impl_IsName.f
  rw [impl_InRange_eq]; rfl

theorem impl_IsTime_eq (a : Int) : impl_IsTime.f a = some (timeB a) := by
  unfold impl_IsTime.f
  rw [impl_InRange_eq]; rfl

theorem impl_IsCert_eq (a b c d e g : Int) : impl_IsCert.f a b c d e g = some (certB a b c d e) := by
  have key : timeB d = true → timeB e = true → wrap64 (e - d) = e - d := by
    intro hd he
    unfold timeB at hd he
    rw [inB_iff] at hd he
    exact wr (by omega) (by omega)
  unfold impl_IsCert.f certB
  simp only [impl_InRange_eq, impl_IsName_eq, impl_IsValidKey_eq, impl_IsTime_eq, Option.bind_some]
  cases inB a 1 9999 with
  | false => rfl
  | true => cases nameB b with
    | false => rfl
    | true => cases keyB c with
      | false => rfl
      | true => cases hd : timeB d with
        | false => rfl
        | true => cases he : timeB e with
          | false => rfl
          | true => simp only [if_true, Bool.true_and, key hd he]

theorem impl_Mod_eq (a : Int) : impl_Mod.f a 2147483647 = some (mdV a) := by
  unfold impl_Mod.f; rw [impl_InRange_eq]; rfl

theorem impl_Hash_ev (l : List Int) (h : l.length ≤ 2097152) : Ev (fun k => impl_Hash.f k l) (hashV l) := by
  unfold impl_Hash.f hashV
  refine ev_fold l hsX (fun s => s) (fun _ _ => True) (fun k s i => impl_Hash.l0 k s l (l.length : Int) i) ?_ (fun _ _ _ _ _ => trivial) ?_ 11 trivial
  · intro s _
    refine Ev.succ ?_
    simp only [impl_Hash.l0, Int.lt_irrefl, if_false]
    exact Ev.now _
  · intro i x s r hx _ hr
    have hi := lt_of_get hx
    have h1 : ((i : Int) < (l.length : Int)) = True := eq_true (by omega)
    have h2 : (0 ≤ (i : Int)) = True := eq_true (by omega)
    refine Ev.succ ?_
    simp only [impl_Hash.l0, h1, h2, if_true, rd_nat l i x hx, impl_Mod_eq, Option.bind_some, wr1 hi (by omega)]
    exact hr

-- told where Concat is

theorem slices_Grow_int_int_eq (n : Int) (h0 : 0 < n) (h1 : n < 2199023255552) : slices_Grow_int_int.f [] n = some [] := by
  unfold slices_Grow_int_int.f
  rw [if_pos rfl, if_pos h0, if_pos h1]
theorem slices_Concat_int_int_ev (ll : List (List Int)) (h0 : 0 < ll.flatten.length) (h1 : ll.flatten.length ≤ 2097152) (hl : ll.length ≤ 1048576) : Ev (fun k => slices_Concat_int_int.f k ll) ll.flatten := by
  have hrd : ∀ {i : Nat} {x : List Int}, ll[i]? = some x → ll.getD (i : Int).toNat [] = x := fun hx => getD_nat ll [] _ _ hx
  unfold slices_Concat_int_int.f
  have hsum : ∀ (l : List (List Int)) (s : Int), l.foldl (fun s x => s + (x.length : Int)) s = s + (l.flatten.length : Int) := by
    intro l
    induction l with
    | nil => intro s; simp
    | cons x l ih => intro s; rw [List.foldl_cons, ih]; simp only [List.flatten_cons, List.length_append]; omega
  have hin : ∀ (i : Nat) x, ll[i]? = some x → (ll.take (i + 1)).flatten.length = (ll.take i).flatten.length + x.length := by
    intro i x hx
    rw [List.take_add_one, hx, List.flatten_append, List.length_append]
    simp
  have hle : ∀ i : Nat, (ll.take i).flatten.length ≤ ll.flatten.length := by
    intro i
    conv => rhs; rw [← List.take_append_drop i ll]
    rw [List.flatten_append, List.length_append]; omega
  refine Ev.eqv (a := (fun s : Int => if 0 < s ∧ s < 2199023255552 then ll.flatten else []) (ll.foldl (fun s x => s + (x.length : Int)) 0)) (by simp only [hsum]; rw [if_pos (by omega)]) ?_
  refine ev_fold ll (fun (s : Int) x => s + (x.length : Int)) (fun s : Int => if 0 < s ∧ s < 2199023255552 then ll.flatten else []) (fun i s => s = ((ll.take i).flatten.length : Int)) (fun k s i => slices_Concat_int_int.l0 k ll s ll (ll.length : Int) i) ?_ ?_ ?_ 0 (by simp)
  · intro s hs
    rw [List.take_length] at hs
    refine Ev.succ ?_
    simp only [slices_Concat_int_int.l0, Int.lt_irrefl, if_false]
    rw [slices_Grow_int_int_eq s (by omega) (by omega), if_pos (by omega)]
    simp only [Option.bind_some]
    refine Ev.eqv (a := (fun o : List Int => o) (ll.foldl (fun o x => o ++ x) [])) ?_ ?_
    · have : ∀ (l : List (List Int)) (o : List Int), l.foldl (fun o x => o ++ x) o = o ++ l.flatten := by
        intro l
        induction l with
        | nil => intro o; simp
        | cons x l ih => intro o; rw [List.foldl_cons, ih]; simp
      rw [this]; rfl
    · refine ev_fold ll (fun (o : List Int) x => o ++ x) (fun o => o) (fun i o => o.length = (ll.take i).flatten.length) (fun k o i => slices_Concat_int_int.l1 k o ll (ll.length : Int) i) ?_ ?_ ?_ [] (by simp)
      · intro o _
        refine Ev.succ ?_
        simp only [slices_Concat_int_int.l1, Int.lt_irrefl, if_false]
        exact Ev.now _
      · intro i x o hx ho
        rw [List.length_append, ho, hin i x hx]
      · intro i x o r hx ho hr
        have hi := lt_of_get hx
        have h1' : ((i : Int) < (ll.length : Int)) = True := eq_true (by omega)
        have h2' : (0 ≤ (i : Int)) = True := eq_true (by omega)
        have e1 := hin i x hx
        have e2 := hle (i + 1)
        have e3 := rd_at_rowI hx
        refine Ev.succ ?_
        simp only [slices_Concat_int_int.l1, h1', h2', if_true, e3, wr1 hi (by omega)]
        exact Ev.pos (by omega) hr
  · intro i x s hx hs
    rw [hs, hin i x hx]; omega
  · intro i x s r hx hs hr
    have hi := lt_of_get hx
    have h1' : ((i : Int) < (ll.length : Int)) = True := eq_true (by omega)
    have h2' : (0 ≤ (i : Int)) = True := eq_true (by omega)
    have e1 := hin i x hx
    have e2 := hle (i + 1)
    have e3 := rd_at_rowI hx
    have e4 : wrap64 (s + (x.length : Int)) = s + (x.length : Int) := wr (by omega) (by omega)
    refine Ev.succ ?_
    simp only [slices_Concat_int_int.l0, h1', h2', if_true, e3, e4, wr1 hi (by omega)]
    exact Ev.neg (by omega) hr

theorem impl_KeyedHash_ev (a : Int) (l : List Int) (h : l.length ≤ 1048576) : Ev (fun k => impl_KeyedHash.f k a l) (khV a l) := by
  unfold impl_KeyedHash.f khV
  have e : ([[a], l, [a]] : List (List Int)).flatten = [a] ++ l ++ [a] := by simp
  refine Ev.bind (slices_Concat_int_int_ev _ (by rw [e]; simp) (by rw [e]; simp only [List.length_append, List.length_singleton]; omega) (by simp)) ?_
  rw [e]
  exact Ev.bind (impl_Hash_ev _ (by simp only [List.length_append, List.length_singleton]; omega)) (Ev.now _)

theorem impl_MarkCert_ev (s a b c d e g : Int) : Ev (fun k => impl_MarkCert.f k s a b c d e g) (a, b, c, d, e, khV s [a, b, c, d, e]) := by
  unfold impl_MarkCert.f
  exact Ev.bind (impl_KeyedHash_ev s [a, b, c, d, e] (by simp)) (Ev.now _)

theorem impl_isAscending_ev (l : List Int) (a b : Int) (h : l.length ≤ 9223372036854775807) : Ev (fun k => impl_isAscending.f k l a b) (allN l.length (ascP l a b) && true) := by
  unfold impl_isAscending.f
  refine ev_all l.length (ascP l a b) true (fun k i => impl_isAscending.l0 k l a b l (l.length : Int) i) ?_ ?_
  · refine Ev.succ ?_
    simp only [impl_isAscending.l0, Int.lt_irrefl, if_false]
    exact Ev.now _
  · intro i hi
    have h1 : ((i : Int) < (l.length : Int)) = True := eq_true (by omega)
    have h2 : (0 ≤ (i : Int)) = True := eq_true (by omega)
    constructor
    · intro hp r hr
      simp only [ascP, Bool.and_eq_true, Bool.or_eq_true, decide_eq_true_eq] at hp
      refine Ev.succ ?_
      simp only [impl_isAscending.l0, h1, h2, if_true, impl_InRange_eq, Option.bind_some, hp.1, wr1 hi h]
      by_cases c : i = 0
      · exact Ev.neg (by omega) hr
      · simp only [if_pos (show (i : Int) > 0 by omega), wrm (show 0 < i by omega) (by omega), if_pos (show 0 ≤ ((i - 1 : Nat) : Int) by omega), if_pos (show ((i - 1 : Nat) : Int) < (l.length : Int) by omega)]
        exact Ev.neg (by have := hp.2; omega) hr
    · intro hp
      refine Ev.succ ?_
      simp only [impl_isAscending.l0, h1, h2, if_true, impl_InRange_eq, Option.bind_some, wr1 hi h]
      cases c0 : inB (rd l (i : Int)) a b with
      | false => exact Ev.now _
      | true =>
        simp only [ascP, c0, Bool.true_and, Bool.or_eq_false_iff, decide_eq_false_iff_not] at hp
        simp only [if_true, if_pos (show (i : Int) > 0 by omega), wrm (show 0 < i by omega) (by omega), if_pos (show 0 ≤ ((i - 1 : Nat) : Int) by omega), if_pos (show ((i - 1 : Nat) : Int) < (l.length : Int) by omega)]
        exact Ev.pos (by omega) (Ev.now _)

theorem impl_IsIssuer_ev (x : S110) (h : x.f1.length ≤ 1048576) : Ev (fun k => impl_IsIssuer.f k x.f0 x.f1 x.f2) (issB x) := by
  unfold impl_IsIssuer.f issB
  simp only [impl_InRange_eq, impl_IsValidKey_eq, Option.bind_some]
  exact Ev.bifT fun _ => Ev.band (impl_isAscending_ev x.f1 1 4 (by omega)) fun _ => Ev.now _

theorem impl_AreIssuers_ev (l : List S110) (h : l.length + (l.map n110).sum ≤ 1048576) : Ev (fun k => impl_AreIssuers.f k l) (issuersB l) := by
  unfold impl_AreIssuers.f issuersB
  refine ev_adj l issB issQ _ (fun k i => impl_AreIssuers.l0 k l l (l.length : Int) i) ?_ ?_ ?_
  · refine Ev.succ ?_
    simp only [impl_AreIssuers.l0, Int.lt_irrefl, if_false]
    exact Ev.now _
  · intro x r hx hr
    have hi := lt_of_get hx
    have h1 : ((0 : Int) < (l.length : Int)) = True := eq_true (by omega)
    have e := rd_at_T110 hx
    have e2 := wr1 hi (show l.length ≤ 9223372036854775807 by omega)
    simp only [Int.ofNat_zero, Int.natCast_zero] at e e2
    refine Ev.succ ?_
    simp only [impl_AreIssuers.l0, h1, if_true, Int.le_refl, gt_iff_lt, Int.lt_irrefl, if_false, e, e2, Option.bind_some]
    exact Ev.band (impl_IsIssuer_ev x (by have := le_sum n110 hx; unfold n110 at this h; omega)) fun _ => hr
  · intro i y x r hy hx hr
    have hi := lt_of_get hx
    have h1 : (((i + 1 : Nat) : Int) < (l.length : Int)) = True := eq_true (by omega)
    have h2 : (0 ≤ ((i + 1 : Nat) : Int)) = True := eq_true (by omega)
    have h3 : (((i + 1 : Nat) : Int) > 0) = True := eq_true (by omega)
    have h4 : (0 ≤ (i : Int)) = True := eq_true (by omega)
    have h5 : ((i : Int) < (l.length : Int)) = True := eq_true (by omega)
    refine Ev.succ ?_
    simp only [impl_AreIssuers.l0, h1, h2, h3, h4, h5, if_true, rd_at_T110 hx, rd_at_T110 hy, wr1 hi (show l.length ≤ 9223372036854775807 by omega), wrp hi (show l.length ≤ 9223372036854775807 by omega), Option.bind_some]
    exact Ev.band (impl_IsIssuer_ev x (by have := le_sum n110 hx; unfold n110 at this h; omega)) fun _ => Ev.dnot fun _ => hr

-- told elsewhere



theorem impl_ArePairs_ev (l : List S161) (h : l.length ≤ 1048576) : Ev (fun k => impl_ArePairs.f k l) (pairsB l) := by
  refine ⟨8, fun k hk => ?_⟩
  unfold impl_ArePairs.f pairsB
  have hb := fun r hr => below_spec l r hr k hk
  have key : ∀ t : List S161, prsX l k t = some (t.all fun x => roleB x.f0 && (roleB x.f1 && !mkR ((bfsX l k [x.f0] (List.replicate 6 false)).getD []) x.f0)) := by
    intro t
    induction t with
    | nil => rfl
    | cons x t ih =>
      simp only [prsX, List.all_cons]
      cases h1 : roleB x.f0 with
      | false => rfl
      | true =>
        cases h2 : roleB x.f1 with
        | false => rfl
        | true =>
          obtain ⟨m, e, _, _⟩ := hb x.f0 h1
          simp only [if_true, e, Option.bind_some, Option.getD_some, Bool.true_and]
          cases mkR m x.f0 with
          | true => rfl
          | false => simp only [Bool.false_eq_true, if_false, Bool.not_false, Bool.true_and]; exact ih
  change ((prsX l k l).bind fun b => some (b && decide ((l.length : Int) ≤ 10))) = _
  rw [key l, Option.bind_some, pairs_alike l]
  intro x
  simp only [Bool.and_eq_true, Bool.not_eq_true']
  constructor
  · rintro ⟨h1, h2, h3⟩
    obtain ⟨m, e, _, hm⟩ := hb x.f0 h1
    rw [e, Option.getD_some] at h3
    exact ⟨h1, h2, fun hc => by rw [(hm _ h1).2 hc] at h3; cases h3⟩
  · rintro ⟨h1, h2, h3⟩
    obtain ⟨m, e, _, hm⟩ := hb x.f0 h1
    rw [e, Option.getD_some]
    refine ⟨h1, h2, ?_⟩
    cases hc : mkR m x.f0 with
    | false => rfl
    | true => exact absurd ((hm _ h1).1 hc) h3

theorem impl_KindOf_eq (a : Int) : impl_KindOf.f a = some (if nameB a = true then a / 10 else 0) := by
  unfold impl_KindOf.f
  rw [impl_IsName_eq, Option.bind_some]
  cases h : nameB a with
  | true => simp only [if_true, name_div h]
  | false => rfl

theorem impl_HasKind_eq (a b : Int) : impl_HasKind.f a b = some (kindB a b) := by
  unfold impl_HasKind.f kindB
  rw [impl_IsName_eq, impl_KindOf_eq, Option.bind_some]
  cases h : nameB a with
  | true => simp only [if_true, Option.bind_some, Bool.true_and]
  | false => rfl

theorem impl_SizeOf_evN (N : Nat) : ∀ x : S164, n164 x ≤ N → N ≤ 1048576 → Ev (fun k => impl_SizeOf.f k x.f0 x.f1 x.f2 x.f3) (1 + (n164 x : Int)) := by
  induction N using Nat.strongRecOn with
  | _ N ih =>
  intro x hx hN
  rw [n164_f] at hx ⊢
  have key : ∀ (d i : Nat) (s : Int), x.f3.length - i = d → i ≤ x.f3.length → 0 ≤ s → s + (((x.f3.drop i).length + ((x.f3.drop i).map n164).sum : Nat) : Int) ≤ 2000000 → Ev (fun k => impl_SizeOf.l0 k s x.f3 (x.f3.length : Int) (i : Int)) (s + (((x.f3.drop i).length + ((x.f3.drop i).map n164).sum : Nat) : Int)) := by
    intro d
    induction d with
    | zero =>
      intro i s hd hi h0 hs
      obtain rfl : i = x.f3.length := by omega
      refine Ev.succ ?_
      simp only [impl_SizeOf.l0, Int.lt_irrefl, if_false, List.drop_length, List.length_nil, List.map_nil, List.sum_nil]
      exact Ev.eqv (by omega) (Ev.now _)
    | succ d ih2 =>
      intro i s hd hi h0 hs
      have hi' : i < x.f3.length := by omega
      have hy : x.f3[i]? = some x.f3[i] := List.getElem?_eq_getElem hi'
      have hn := le_sum n164 hy
      rw [List.drop_eq_getElem_cons hi'] at hs ⊢
      simp only [List.length_cons, List.map_cons, List.sum_cons] at hs ⊢
      generalize x.f3[i] = y at hy hn hs ⊢
      have e := ih (n164 y) (by omega) y (Nat.le_refl _) (by omega)
      have h1 : ((i : Int) < (x.f3.length : Int)) = True := eq_true (by omega)
      have h2 : (0 ≤ (i : Int)) = True := eq_true (by omega)
      refine Ev.succ ?_
      simp only [impl_SizeOf.l0, h1, h2, if_true, rd_at_T164 hy, wr1 hi' (by omega)]
      refine Ev.bind e ?_
      rw [wr (show (-9223372036854775808 : Int) ≤ s + (1 + (n164 y : Int)) by omega) (by omega)]
      exact Ev.eqv (by omega) (ih2 (i + 1) (s + (1 + (n164 y : Int))) (by omega) (by omega) (by omega) (by omega))
  refine Ev.succ ?_
  simp only [impl_SizeOf.f]
  exact Ev.eqv (by rw [List.drop_zero]) (key x.f3.length 0 1 (by omega) (by omega) (by omega) (by rw [List.drop_zero]; omega))
theorem impl_SizeOf_ev (x : S164) (h : n164 x ≤ 1048576) : Ev (fun k => impl_SizeOf.f k x.f0 x.f1 x.f2 x.f3) (1 + (n164 x : Int)) := impl_SizeOf_evN _ x (Nat.le_refl _) h

-- told elsewhere

-- told elsewhere

-- told elsewhere

-- told elsewhere

theorem impl_IsCond_ev (x : S164) (h : n164 x ≤ 1048576) : Ev (fun k => impl_IsCond.f k x.f0 x.f1 x.f2 x.f3) (condB x) := by
  have hv := (valid_evN _ x (Nat.le_refl _) h).2
  unfold impl_IsCond.f condB
  refine Ev.bind (impl_SizeOf_ev x h) ?_
  by_cases c : 1 + (n164 x : Int) ≤ 15
  · simp only [if_pos c, decide_eq_true c, Bool.true_and]
    exact Ev.bind hv (Ev.now _)
  · simp only [if_neg c, decide_eq_false c, Bool.false_and]
    exact Ev.now _

theorem impl_IsRule_ev (r : S166) (h : n166 r ≤ 1048576) : Ev (fun k => impl_IsRule.f k r.f0 r.f1 r.f2 r.f3.f0 r.f3.f1 r.f3.f2 r.f3.f3) (ruleB r) := by
  have hc := impl_IsCond_ev r.f3 (by have := rule_n r; omega)
  unfold impl_IsRule.f ruleB
  simp only [impl_InRange_eq, impl_HasKind_eq, Option.bind_some]
  refine Ev.bifT fun _ => Ev.bifT fun _ => ?_
  by_cases c : r.f2 = -1
  · simp only [if_pos c, beq_iff_eq.2 c, Bool.true_or, Bool.true_and]
    exact Ev.bind hc (Ev.now _)
  · simp only [if_neg c, beq_eq_false_iff_ne.2 c, Bool.false_or]
    exact Ev.bifT fun _ => Ev.bind hc (Ev.now _)

-- told where IsPolicy is

theorem impl_IsPolicy_ev (p : S115) (h : n115 p ≤ 1048576) : Ev (fun k => impl_IsPolicy.f k p.f0 p.f1) (policyB p) := by
  unfold n115 at h
  unfold impl_IsPolicy.f policyB
  simp only [impl_InRange_eq, Option.bind_some]
  refine Ev.bifT fun _ => Ev.dand fun _ => ?_
  refine Ev.bind (ev_idxO _ (fun x => !ruleB x) p.f1 0 ?_) ?_
  · intro x hx
    obtain ⟨i, hi, rfl⟩ := List.getElem_of_mem hx
    have hn := le_sum n166 (List.getElem?_eq_getElem hi)
    unfold cl167.f
    exact Ev.bind (impl_IsRule_ev _ (by omega)) (Ev.now _)
  · refine Ev.eqv ?_ (Ev.now _)
    rw [idxV_any (fun x => !ruleB x) p.f1]
    simp [List.any_eq_not_all_not]

theorem impl_IsEpoch_ev (e : S117) (h : n117 e ≤ 1048576) : Ev (fun k => impl_IsEpoch.f k e.f0 e.f1 e.f2 e.f3.f0 e.f3.f1) (epochB e) := by
  unfold n117 at h
  unfold impl_IsEpoch.f epochB
  simp only [impl_InRange_eq, impl_IsTime_eq, Option.bind_some]
  exact Ev.bifT fun _ => Ev.bifT fun _ => Ev.band (impl_ArePairs_ev e.f2 (by omega)) fun _ => Ev.band (impl_IsPolicy_ev e.f3 (by omega)) fun _ => Ev.now _

theorem impl_AreEpochs_ev (l : List S117) (h : l.length + (l.map n117).sum ≤ 1048576) : Ev (fun k => impl_AreEpochs.f k l) (epochsB l) := by
  unfold impl_AreEpochs.f epochsB
  refine ev_adj l epochB epochQ _ (fun k i => impl_AreEpochs.l0 k l l (l.length : Int) i) ?_ ?_ ?_
  · refine Ev.succ ?_
    simp only [impl_AreEpochs.l0, Int.lt_irrefl, if_false]
    exact Ev.now _
  · intro x r hx hr
    have hi := lt_of_get hx
    have h1 : ((0 : Int) < (l.length : Int)) = True := eq_true (by omega)
    have e := rd_at_T117 hx
    have e2 := wr1 hi (show l.length ≤ 9223372036854775807 by omega)
    simp only [Int.ofNat_zero, Int.natCast_zero] at e e2
    refine Ev.succ ?_
    simp only [impl_AreEpochs.l0, h1, if_true, Int.le_refl, gt_iff_lt, Int.lt_irrefl, if_false, e, e2, Option.bind_some]
    exact Ev.band (impl_IsEpoch_ev x (by have := le_sum n117 hx; omega)) fun _ => hr
  · intro i y x r hy hx hr
    have hi := lt_of_get hx
    have h1 : (((i + 1 : Nat) : Int) < (l.length : Int)) = True := eq_true (by omega)
    have h2 : (0 ≤ ((i + 1 : Nat) : Int)) = True := eq_true (by omega)
    have h3 : (((i + 1 : Nat) : Int) > 0) = True := eq_true (by omega)
    have h4 : (0 ≤ (i : Int)) = True := eq_true (by omega)
    have h5 : ((i : Int) < (l.length : Int)) = True := eq_true (by omega)
    refine Ev.succ ?_
    simp only [impl_AreEpochs.l0, h1, h2, h3, h4, h5, if_true, rd_at_T117 hx, rd_at_T117 hy, wr1 hi (show l.length ≤ 9223372036854775807 by omega), wrp hi (show l.length ≤ 9223372036854775807 by omega), Option.bind_some]
    exact Ev.band (impl_IsEpoch_ev x (by have := le_sum n117 hx; omega)) fun _ => epochQ_step fun _ => hr

theorem impl_isClaim_eq (x : S53) : impl_isClaim.f x.f0 x.f1 x.f2 x.f3 x.f4 x.f5 = some (claimB x) := by
  unfold impl_isClaim.f claimB
  simp only [impl_HasKind_eq, impl_InRange_eq, Option.bind_some, ite_and]
  (repeat' split) <;> rfl

theorem impl_IsFact_eq (x : S53) : impl_IsFact.f x.f0 x.f1 x.f2 x.f3 x.f4 x.f5 = some (factB x) := by
  unfold impl_IsFact.f factB
  simp only [impl_isClaim_eq, impl_InRange_eq, impl_IsTime_eq, Option.bind_some, ite_and]

theorem impl_compareClaims_eq (a b c d e f a' b' c' d' e' f' : Int) : impl_compareClaims.f a b c d e f a' b' c' d' e' f' = some (cmp4 a b c d a' b' c' d') := rfl

theorem impl_FactBefore_eq (y x : S53) : impl_FactBefore.f y.f0 y.f1 y.f2 y.f3 y.f4 y.f5 x.f0 x.f1 x.f2 x.f3 x.f4 x.f5 = some (factQ y x) := by
  unfold impl_FactBefore.f factQ
  rw [impl_compareClaims_eq, Option.bind_some]
  congr 1
  unfold cmp4
  rw [Bool.eq_iff_iff]
  (repeat' split) <;> simp only [decide_eq_true_eq] <;> omega

theorem impl_IsStore_ev (l : List S53) (h : l.length ≤ 1048576) : Ev (fun k => impl_IsStore.f k l) (storeB l) := by
  unfold impl_IsStore.f storeB
  refine ev_adj l factB factQ _ (fun k i => impl_IsStore.l0 k l l (l.length : Int) i) ?_ ?_ ?_
  · refine Ev.succ ?_
    simp only [impl_IsStore.l0, Int.lt_irrefl, if_false]
    exact Ev.now _
  · intro x r hx hr
    have hi := lt_of_get hx
    have h1 : ((0 : Int) < (l.length : Int)) = True := eq_true (by omega)
    have e := rd_at_T53 hx
    have e2 := wr1 hi (show l.length ≤ 9223372036854775807 by omega)
    simp only [Int.ofNat_zero, Int.natCast_zero] at e e2
    refine Ev.succ ?_
    simp only [impl_IsStore.l0, h1, if_true, Int.le_refl, gt_iff_lt, Int.lt_irrefl, if_false, e, e2, impl_IsFact_eq, impl_FactBefore_eq, Option.bind_some]
    exact Ev.bifT fun _ => hr
  · intro i y x r hy hx hr
    have hi := lt_of_get hx
    have h1 : (((i + 1 : Nat) : Int) < (l.length : Int)) = True := eq_true (by omega)
    have h2 : (0 ≤ ((i + 1 : Nat) : Int)) = True := eq_true (by omega)
    have h3 : (((i + 1 : Nat) : Int) > 0) = True := eq_true (by omega)
    have h4 : (0 ≤ (i : Int)) = True := eq_true (by omega)
    have h5 : ((i : Int) < (l.length : Int)) = True := eq_true (by omega)
    refine Ev.succ ?_
    simp only [impl_IsStore.l0, h1, h2, h3, h4, h5, if_true, rd_at_T53 hx, rd_at_T53 hy, wr1 hi (show l.length ≤ 9223372036854775807 by omega), wrp hi (show l.length ≤ 9223372036854775807 by omega), impl_IsFact_eq, impl_FactBefore_eq, Option.bind_some]
    exact Ev.bifT fun _ => Ev.bifT fun _ => hr

theorem impl_AreRevoked_ev (l : List S121) (h : l.length ≤ 1048576) : Ev (fun k => impl_AreRevoked.f k l) (revB l) := by
  unfold impl_AreRevoked.f revB
  refine ev_adj l revP revQ _ (fun k i => impl_AreRevoked.l0 k l l (l.length : Int) i) ?_ ?_ ?_
  · refine Ev.succ ?_
    simp only [impl_AreRevoked.l0, Int.lt_irrefl, if_false]
    exact Ev.now _
  · intro x r hx hr
    have hi := lt_of_get hx
    have h1 : ((0 : Int) < (l.length : Int)) = True := eq_true (by omega)
    have e := rd_at_T121 hx
    have e2 := wr1 hi (show l.length ≤ 9223372036854775807 by omega)
    simp only [Int.ofNat_zero, Int.natCast_zero] at e e2
    refine Ev.succ ?_
    simp only [impl_AreRevoked.l0, h1, if_true, Int.le_refl, gt_iff_lt, Int.lt_irrefl, if_false, e, e2, impl_InRange_eq, impl_IsTime_eq, Option.bind_some]
    exact revP_step fun _ => hr
  · intro i y x r hy hx hr
    have hi := lt_of_get hx
    have h1 : (((i + 1 : Nat) : Int) < (l.length : Int)) = True := eq_true (by omega)
    have h2 : (0 ≤ ((i + 1 : Nat) : Int)) = True := eq_true (by omega)
    have h3 : (((i + 1 : Nat) : Int) > 0) = True := eq_true (by omega)
    have h4 : (0 ≤ (i : Int)) = True := eq_true (by omega)
    have h5 : ((i : Int) < (l.length : Int)) = True := eq_true (by omega)
    refine Ev.succ ?_
    simp only [impl_AreRevoked.l0, h1, h2, h3, h4, h5, if_true, rd_at_T121 hx, rd_at_T121 hy, wr1 hi (show l.length ≤ 9223372036854775807 by omega), wrp hi (show l.length ≤ 9223372036854775807 by omega), impl_InRange_eq, impl_IsTime_eq, Option.bind_some]
    exact revP_step fun _ => Ev.dnot fun _ => hr

theorem impl_IsCenter_ev (x : S37) (h : n37 x ≤ 1048576) : Ev (fun k => impl_IsCenter.f k x.f0 x.f1 x.f2 x.f3 x.f4 x.f5) (centerB x) := by
  unfold n37 at h
  unfold impl_IsCenter.f centerB certsB
  refine ev_all x.f5.length (fun i => markB x.f4 (rd_T64 x.f5 (i : Int)) i) _ (fun k i => impl_IsCenter.l0 k x.f5 (x.f5.length : Int) i x.f0 x.f1 x.f2 x.f3 x.f4 x.f5) ?_ ?_
  · refine Ev.succ ?_
    simp only [impl_IsCenter.l0, Int.lt_irrefl, if_false, impl_IsValidKey_eq, Option.bind_some]
    exact Ev.band (impl_AreIssuers_ev x.f0 (by omega)) fun _ => Ev.band (impl_AreEpochs_ev x.f1 (by omega)) fun _ => Ev.band (impl_IsStore_ev x.f2 (by omega)) fun _ => Ev.band (impl_AreRevoked_ev x.f3 (by omega)) fun _ => Ev.bifT fun _ => Ev.now _
  · intro i hi
    have hx : x.f5[i]? = some x.f5[i] := List.getElem?_eq_getElem hi
    generalize x.f5[i] = c at hx
    have h1 : ((i : Int) < (x.f5.length : Int)) = True := eq_true (by omega)
    have h2 : (0 ≤ (i : Int)) = True := eq_true (by omega)
    have h3 := wr1 hi (show x.f5.length ≤ 9223372036854775807 by omega)
    have hj : ∀ (b : Bool), (b = false → ∀ r, Ev (fun k => impl_IsCenter.l0 k x.f5 (x.f5.length : Int) ((i + 1 : Nat) : Int) x.f0 x.f1 x.f2 x.f3 x.f4 x.f5) r → Ev (fun k => if b = true then some false else impl_IsCenter.l0 k x.f5 (x.f5.length : Int) ((i + 1 : Nat) : Int) x.f0 x.f1 x.f2 x.f3 x.f4 x.f5) r) ∧ (b = true → Ev (fun k => if b = true then some false else impl_IsCenter.l0 k x.f5 (x.f5.length : Int) ((i + 1 : Nat) : Int) x.f0 x.f1 x.f2 x.f3 x.f4 x.f5) false) := by
      intro b
      constructor
      · rintro rfl r hr; exact Ev.neg (by simp) hr
      · rintro rfl; exact Ev.pos rfl (Ev.now _)
    simp only [rd_at_T64 hx]
    have e0 : (((i + 1 : Nat) : Int)) = (i : Int) + 1 := by omega
    unfold markB
    have hstep : ∀ r, (Ev (fun k => if c.f0 = ((i + 1 : Nat) : Int) then (if certB c.f0 c.f1 c.f2 c.f3 c.f4 = true then (impl_MarkCert.f k x.f4 c.f0 c.f1 c.f2 c.f3 c.f4 c.f5).bind fun bt => if (!(bt.1 == c.f0) || (!(bt.2.1 == c.f1) || (!(bt.2.2.1 == c.f2) || (!(bt.2.2.2.1 == c.f3) || (!(bt.2.2.2.2.1 == c.f4) || (!(bt.2.2.2.2.2 == c.f5))))))) = true then some false else impl_IsCenter.l0 k x.f5 (x.f5.length : Int) ((i + 1 : Nat) : Int) x.f0 x.f1 x.f2 x.f3 x.f4 x.f5 else some false) else some false) r) → Ev (fun k => (fun i => impl_IsCenter.l0 k x.f5 (x.f5.length : Int) i x.f0 x.f1 x.f2 x.f3 x.f4 x.f5) (i : Int)) r := by
      intro r hr
      refine Ev.succ ?_
      simp only [impl_IsCenter.l0, h1, h2, if_true, rd_at_T64 hx, h3, impl_IsCert_eq, Option.bind_some]
      exact hr
    constructor
    · intro hp r hr
      simp only [Bool.and_eq_true, decide_eq_true_eq] at hp
      refine hstep r (Ev.pos (by omega) (Ev.pos hp.2.1 ?_))
      refine Ev.bind (impl_MarkCert_ev x.f4 c.f0 c.f1 c.f2 c.f3 c.f4 c.f5) ?_
      exact (hj _).1 (by simp [beq_iff_eq.1 hp.2.2]) r hr
    · intro hp
      apply hstep
      by_cases c1 : c.f0 = (i : Int) + 1
      · refine Ev.pos (by omega) ?_
        cases c2 : certB c.f0 c.f1 c.f2 c.f3 c.f4 with
        | false => simp only [Bool.false_eq_true, if_false]; exact Ev.now _
        | true =>
          simp only [if_true]
          rw [decide_eq_true c1, c2, Bool.true_and, Bool.true_and] at hp
          refine Ev.bind (impl_MarkCert_ev x.f4 c.f0 c.f1 c.f2 c.f3 c.f4 c.f5) ?_
          exact (hj _).2 (by simp [hp])
      · exact Ev.neg (by omega) (Ev.now _)

theorem laws_eqIntS_refl (l : List Int) (h : l.length ≤ 1048576) : Ev (fun k => laws_eqIntS.f k l l) true := by
  unfold laws_eqIntS.f
  refine Ev.pos rfl ?_
  refine ev_walk l (fun k i => laws_eqIntS.l0 k l l i) true ?_ ?_
  · refine Ev.succ ?_
    simp only [laws_eqIntS.l0, Int.lt_irrefl, if_false]
    exact Ev.now _
  · intro i x hx hr
    have hi := lt_of_get hx
    have h1 : ((i : Int) < (l.length : Int)) = True := eq_true (by omega)
    have h2 : (0 ≤ (i : Int)) = True := eq_true (by omega)
    refine Ev.succ ?_
    simp only [laws_eqIntS.l0, h1, h2, if_true, rd_nat l i x hx, wr1 hi (by omega)]
    exact hr

theorem laws_eqIssuer_refl (x : S110) (h : n110 x ≤ 1048576) : Ev (fun k => laws_eqIssuer.f k x.f0 x.f1 x.f2 x.f0 x.f1 x.f2) true := by
  unfold n110 at h
  unfold laws_eqIssuer.f
  simp only [if_true, bne_self_eq_false, Bool.false_eq_true, if_false]
  repeat (first | exact Ev.now _ | (refine Ev.bind (laws_eqIntS_refl _ (by omega)) ?_; simp only [if_true, bne_self_eq_false, Bool.false_eq_true, if_false]))

theorem laws_eqIssuerS_refl (l : List (S110)) (h : l.length + (l.map n110).sum ≤ 1048576) : Ev (fun k => laws_eqIssuerS.f k l l) true := by
  unfold laws_eqIssuerS.f
  refine Ev.pos rfl ?_
  refine ev_walk l (fun k i => laws_eqIssuerS.l0 k l l i) true ?_ ?_
  · refine Ev.succ ?_
    simp only [laws_eqIssuerS.l0, Int.lt_irrefl, if_false]
    exact Ev.now _
  · intro i x hx hr
    have hi := lt_of_get hx
    have h1 : ((i : Int) < (l.length : Int)) = True := eq_true (by omega)
    have h2 : (0 ≤ (i : Int)) = True := eq_true (by omega)
    refine Ev.succ ?_
    simp only [laws_eqIssuerS.l0, h1, h2, if_true, rd_at_T110 hx, wr1 hi (by omega)]
    refine Ev.bind (laws_eqIssuer_refl x (by have := le_sum n110 hx; omega)) ?_
    simp only [if_true]
    exact hr

theorem laws_eqIncludes_refl (x : S161) : laws_eqIncludes.f x.f0 x.f1 x.f0 x.f1 = some true := by
  unfold laws_eqIncludes.f
  simp

theorem laws_eqIncludesS_refl (l : List (S161)) (h : l.length ≤ 1048576) : Ev (fun k => laws_eqIncludesS.f k l l) true := by
  unfold laws_eqIncludesS.f
  refine Ev.pos rfl ?_
  refine ev_walk l (fun k i => laws_eqIncludesS.l0 k l l i) true ?_ ?_
  · refine Ev.succ ?_
    simp only [laws_eqIncludesS.l0, Int.lt_irrefl, if_false]
    exact Ev.now _
  · intro i x hx hr
    have hi := lt_of_get hx
    have h1 : ((i : Int) < (l.length : Int)) = True := eq_true (by omega)
    have h2 : (0 ≤ (i : Int)) = True := eq_true (by omega)
    refine Ev.succ ?_
    simp only [laws_eqIncludesS.l0, h1, h2, if_true, rd_at_T161 hx, wr1 hi (by omega), laws_eqIncludes_refl x, Option.bind_some]
    exact hr

theorem laws_eqCondS_reflN (N : Nat) : ∀ l : List S164, l.length + (l.map n164).sum ≤ N → N ≤ 1048576 → Ev (fun k => laws_eqCondS.f k l l) true := by
  induction N using Nat.strongRecOn with
  | _ N ih =>
  intro l h hN
  refine Ev.succ ?_
  simp only [laws_eqCondS.f]
  refine Ev.pos (by first | trivial | rfl) ?_
  refine ev_walk l (fun k i => laws_eqCondS.l0 k l l i) true ?_ ?_
  · refine Ev.succ ?_
    simp only [laws_eqCondS.l0, Int.lt_irrefl, if_false]
    exact Ev.now _
  · intro i x hx hr
    have hi := lt_of_get hx
    have h1 : ((i : Int) < (l.length : Int)) = True := eq_true (by omega)
    have h2 : (0 ≤ (i : Int)) = True := eq_true (by omega)
    have hn := le_sum n164 hx
    rw [n164_f] at hn
    have e := ih (x.f3.length + (x.f3.map n164).sum) (by omega) x.f3 (Nat.le_refl _) (by omega)
    have e' : Ev (fun k => laws_eqCond.f k x.f0 x.f1 x.f2 x.f3 x.f0 x.f1 x.f2 x.f3) true := by
      refine Ev.succ ?_
      simp only [laws_eqCond.f, if_true]
      refine Ev.bind e ?_
      simp only [if_true]
      exact Ev.now _
    refine Ev.succ ?_
    simp only [laws_eqCondS.l0, h1, h2, if_true, rd_at_T164 hx, wr1 hi (by omega)]
    refine Ev.bind e' ?_
    simp only [if_true]
    exact hr
theorem laws_eqCondS_refl (l : List S164) (h : l.length + (l.map n164).sum ≤ 1048576) : Ev (fun k => laws_eqCondS.f k l l) true := laws_eqCondS_reflN _ l (Nat.le_refl _) h
theorem laws_eqCond_refl (x : S164) (h : n164 x ≤ 1048576) : Ev (fun k => laws_eqCond.f k x.f0 x.f1 x.f2 x.f3 x.f0 x.f1 x.f2 x.f3) true := by
  rw [n164_f] at h
  refine Ev.succ ?_
  simp only [laws_eqCond.f, if_true]
  refine Ev.bind (laws_eqCondS_refl x.f3 h) ?_
  simp only [if_true]
  exact Ev.now _



theorem laws_eqRule_refl (x : S166) (h : n166 x ≤ 1048576) : Ev (fun k => laws_eqRule.f k x.f0 x.f1 x.f2 x.f3.f0 x.f3.f1 x.f3.f2 x.f3.f3 x.f0 x.f1 x.f2 x.f3.f0 x.f3.f1 x.f3.f2 x.f3.f3) true := by
  unfold n166 at h
  unfold laws_eqRule.f
  simp only [if_true, bne_self_eq_false, Bool.false_eq_true, if_false]
  repeat (first | exact Ev.now _ | (refine Ev.bind (laws_eqCond_refl _ (by omega)) ?_; simp only [if_true, bne_self_eq_false, Bool.false_eq_true, if_false]))

theorem laws_eqRuleS_refl (l : List (S166)) (h : l.length + (l.map n166).sum ≤ 1048576) : Ev (fun k => laws_eqRuleS.f k l l) true := by
  unfold laws_eqRuleS.f
  refine Ev.pos rfl ?_
  refine ev_walk l (fun k i => laws_eqRuleS.l0 k l l i) true ?_ ?_
  · refine Ev.succ ?_
    simp only [laws_eqRuleS.l0, Int.lt_irrefl, if_false]
    exact Ev.now _
  · intro i x hx hr
    have hi := lt_of_get hx
    have h1 : ((i : Int) < (l.length : Int)) = True := eq_true (by omega)
    have h2 : (0 ≤ (i : Int)) = True := eq_true (by omega)
    refine Ev.succ ?_
    simp only [laws_eqRuleS.l0, h1, h2, if_true, rd_at_T166 hx, wr1 hi (by omega)]
    refine Ev.bind (laws_eqRule_refl x (by have := le_sum n166 hx; omega)) ?_
    simp only [if_true]
    exact hr

theorem laws_eqPolicy_refl (x : S115) (h : n115 x ≤ 1048576) : Ev (fun k => laws_eqPolicy.f k x.f0 x.f1 x.f0 x.f1) true := by
  unfold n115 at h
  unfold laws_eqPolicy.f
  simp only [if_true, bne_self_eq_false, Bool.false_eq_true, if_false]
  repeat (first | exact Ev.now _ | (refine Ev.bind (laws_eqRuleS_refl _ (by omega)) ?_; simp only [if_true, bne_self_eq_false, Bool.false_eq_true, if_false]))

theorem laws_eqEpoch_refl (x : S117) (h : n117 x ≤ 1048576) : Ev (fun k => laws_eqEpoch.f k x.f0 x.f1 x.f2 x.f3.f0 x.f3.f1 x.f0 x.f1 x.f2 x.f3.f0 x.f3.f1) true := by
  unfold n117 at h
  unfold laws_eqEpoch.f
  simp only [if_true, bne_self_eq_false, Bool.false_eq_true, if_false]
  repeat (first | exact Ev.now _ | (refine Ev.bind (laws_eqIncludesS_refl _ (by omega)) ?_; simp only [if_true, bne_self_eq_false, Bool.false_eq_true, if_false]) | (refine Ev.bind (laws_eqPolicy_refl _ (by omega)) ?_; simp only [if_true, bne_self_eq_false, Bool.false_eq_true, if_false]))

theorem laws_eqEpochS_refl (l : List (S117)) (h : l.length + (l.map n117).sum ≤ 1048576) : Ev (fun k => laws_eqEpochS.f k l l) true := by
  unfold laws_eqEpochS.f
  refine Ev.pos rfl ?_
  refine ev_walk l (fun k i => laws_eqEpochS.l0 k l l i) true ?_ ?_
  · refine Ev.succ ?_
    simp only [laws_eqEpochS.l0, Int.lt_irrefl, if_false]
    exact Ev.now _
  · intro i x hx hr
    have hi := lt_of_get hx
    have h1 : ((i : Int) < (l.length : Int)) = True := eq_true (by omega)
    have h2 : (0 ≤ (i : Int)) = True := eq_true (by omega)
    refine Ev.succ ?_
    simp only [laws_eqEpochS.l0, h1, h2, if_true, rd_at_T117 hx, wr1 hi (by omega)]
    refine Ev.bind (laws_eqEpoch_refl x (by have := le_sum n117 hx; omega)) ?_
    simp only [if_true]
    exact hr

theorem laws_eqFact_refl (x : S53) : laws_eqFact.f x.f0 x.f1 x.f2 x.f3 x.f4 x.f5 x.f0 x.f1 x.f2 x.f3 x.f4 x.f5 = some true := by
  unfold laws_eqFact.f
  simp

theorem laws_eqFactS_refl (l : List (S53)) (h : l.length ≤ 1048576) : Ev (fun k => laws_eqFactS.f k l l) true := by
  unfold laws_eqFactS.f
  refine Ev.pos rfl ?_
  refine ev_walk l (fun k i => laws_eqFactS.l0 k l l i) true ?_ ?_
  · refine Ev.succ ?_
    simp only [laws_eqFactS.l0, Int.lt_irrefl, if_false]
    exact Ev.now _
  · intro i x hx hr
    have hi := lt_of_get hx
    have h1 : ((i : Int) < (l.length : Int)) = True := eq_true (by omega)
    have h2 : (0 ≤ (i : Int)) = True := eq_true (by omega)
    refine Ev.succ ?_
    simp only [laws_eqFactS.l0, h1, h2, if_true, rd_at_T53 hx, wr1 hi (by omega), laws_eqFact_refl x, Option.bind_some]
    exact hr

theorem laws_eqRevoked_refl (x : S121) : laws_eqRevoked.f x.f0 x.f1 x.f0 x.f1 = some true := by
  unfold laws_eqRevoked.f
  simp

theorem laws_eqRevokedS_refl (l : List (S121)) (h : l.length ≤ 1048576) : Ev (fun k => laws_eqRevokedS.f k l l) true := by
  unfold laws_eqRevokedS.f
  refine Ev.pos rfl ?_
  refine ev_walk l (fun k i => laws_eqRevokedS.l0 k l l i) true ?_ ?_
  · refine Ev.succ ?_
    simp only [laws_eqRevokedS.l0, Int.lt_irrefl, if_false]
    exact Ev.now _
  · intro i x hx hr
    have hi := lt_of_get hx
    have h1 : ((i : Int) < (l.length : Int)) = True := eq_true (by omega)
    have h2 : (0 ≤ (i : Int)) = True := eq_true (by omega)
    refine Ev.succ ?_
    simp only [laws_eqRevokedS.l0, h1, h2, if_true, rd_at_T121 hx, wr1 hi (by omega), laws_eqRevoked_refl x, Option.bind_some]
    exact hr

theorem laws_eqCert_refl (x : S64) : laws_eqCert.f x.f0 x.f1 x.f2 x.f3 x.f4 x.f5 x.f0 x.f1 x.f2 x.f3 x.f4 x.f5 = some true := by
  unfold laws_eqCert.f
  simp

theorem laws_eqCertS_refl (l : List (S64)) (h : l.length ≤ 1048576) : Ev (fun k => laws_eqCertS.f k l l) true := by
  unfold laws_eqCertS.f
  refine Ev.pos rfl ?_
  refine ev_walk l (fun k i => laws_eqCertS.l0 k l l i) true ?_ ?_
  · refine Ev.succ ?_
    simp only [laws_eqCertS.l0, Int.lt_irrefl, if_false]
    exact Ev.now _
  · intro i x hx hr
    have hi := lt_of_get hx
    have h1 : ((i : Int) < (l.length : Int)) = True := eq_true (by omega)
    have h2 : (0 ≤ (i : Int)) = True := eq_true (by omega)
    refine Ev.succ ?_
    simp only [laws_eqCertS.l0, h1, h2, if_true, rd_at_T64 hx, wr1 hi (by omega), laws_eqCert_refl x, Option.bind_some]
    exact hr

theorem laws_eqCenter_refl (x : S37) (h : n37 x ≤ 1048576) : Ev (fun k => laws_eqCenter.f k x.f0 x.f1 x.f2 x.f3 x.f4 x.f5 x.f0 x.f1 x.f2 x.f3 x.f4 x.f5) true := by
  unfold n37 at h
  unfold laws_eqCenter.f
  simp only [if_true, bne_self_eq_false, Bool.false_eq_true, if_false]
  repeat (first | exact Ev.now _ | (refine Ev.bind (laws_eqIssuerS_refl _ (by omega)) ?_; simp only [if_true, bne_self_eq_false, Bool.false_eq_true, if_false]) | (refine Ev.bind (laws_eqEpochS_refl _ (by omega)) ?_; simp only [if_true, bne_self_eq_false, Bool.false_eq_true, if_false]) | (refine Ev.bind (laws_eqFactS_refl _ (by omega)) ?_; simp only [if_true, bne_self_eq_false, Bool.false_eq_true, if_false]) | (refine Ev.bind (laws_eqRevokedS_refl _ (by omega)) ?_; simp only [if_true, bne_self_eq_false, Bool.false_eq_true, if_false]) | (refine Ev.bind (laws_eqCertS_refl _ (by omega)) ?_; simp only [if_true, bne_self_eq_false, Bool.false_eq_true, if_false]))

theorem FnExactIsCenter : laws_FnExactIsCenter.Pure := by
  intro x hx
  refine Ev.rounds ?_
  unfold laws_FnExactIsCenter.f
  obtain ⟨r, e, hr1, hr⟩ := laws_szCenter_le x hx 1048576 (by omega) (by omega)
  refine Ev.bind e ?_
  by_cases c : r < 0
  · simp only [if_pos c]; exact Ev.now _
  simp only [if_neg c]
  have hb := hr (by omega)
  have hmx : n37 (cv28 x) ≤ 1048576 := by rw [ncv28]; omega
  repeat (first
    | exact Ev.now _
    | ((first | refine Ev.bind (laws_toCenter_ev x (by omega)) ?_ | refine Ev.bind (spec_IsCenter_ev (cv28 x) hmx) ?_ | refine Ev.bind (impl_IsCenter_ev (cv28 x) hmx) ?_ | refine Ev.bind (laws_eqCenter_refl _ hmx) ?_); try simp only [])
    | simp only [bne_self_eq_false, Bool.false_eq_true, if_false, if_true])

end Go.Proofs.YtineejdlpcgnkaaGreat.Pure
