/- The law FnExactExposure answers true for all arguments, over numbers and lists alone: what each function computes, and that program and reference compute the same. No condition. -/
import Derived.Test.YtineejdlpcgnkaaQFnExactExposurex13
import Derived.Test.YtineejdlpcgnkaaL
namespace Go.Proofs.Ytineejdlpcgnkaa.Pure
open Go.RowKit Go.Proofs.Ytineejdlpcgnkaa.QFnExactExposure Go.Proofs.YtineejdlpcgnkaaL Go.Proofs.YtineejdlpcgnkaaW.PrintWords Go.Proofs.YtineejdlpcgnkaaW.PrintLast
set_option linter.unusedVariables false
set_option linter.unusedSimpArgs false

def cv164 (x : S164) : S149 := ⟨x.f0, x.f1⟩
theorem eta183 (x : S183) : (⟨x.f0, x.f1, x.f2, x.f3⟩ : S183) = x := by cases x; rfl
mutual
def n183 : S183 → Nat
  | ⟨x0, x1, x2, x3⟩ => x3.length + nL183 x3
def nL183 : List S183 → Nat
  | [] => 0
  | x :: l => n183 x + nL183 l
end
theorem nL183_eq : ∀ l : List S183, nL183 l = (l.map n183).sum
  | [] => by simp [nL183]
  | x :: l => by simp [nL183, nL183_eq l]
theorem n183_f (x : S183) : n183 x = x.f3.length + (x.f3.map n183).sum := by
  cases x
  simp only [n183, nL183_eq]
mutual
def cv183 : S183 → S172
  | ⟨x0, x1, x2, x3⟩ => ⟨x0, x1, x2, cvL183 x3⟩
def cvL183 : List S183 → List S172
  | [] => []
  | x :: l => cv183 x :: cvL183 l
end
theorem cvL183_eq : ∀ l : List S183, cvL183 l = l.map cv183
  | [] => by simp [cvL183]
  | x :: l => by simp [cvL183, cvL183_eq l]
theorem cv183_f (x : S183) : cv183 x = ⟨x.f0, x.f1, x.f2, x.f3.map cv183⟩ := by
  cases x
  simp only [cv183, cvL183_eq]
def cv185 (x : S185) : S174 := ⟨x.f0, x.f1, x.f2, (cv183 x.f3)⟩
def n185 (x : S185) : Nat := n183 x.f3
def cv25 (x : S25) : S38 := ⟨x.f0, (x.f1.map cv185)⟩
def n25 (x : S25) : Nat := x.f1.length + (x.f1.map n185).sum
def cv27 (x : S27) : S40 := ⟨x.f0, x.f1, (x.f2.map cv164), (cv25 x.f3)⟩
def n27 (x : S27) : Nat := x.f2.length + n25 x.f3
def cv134 (x : S134) : S132 := ⟨x.f0, x.f1, x.f2, x.f3, x.f4, x.f5⟩
def cv136 (x : S136) : S99 := ⟨x.f0, x.f1⟩
def cv138 (x : S138) : S101 := ⟨x.f0, x.f1, x.f2, x.f3, x.f4, x.f5⟩
def cv140 (x : S140) : S103 := ⟨(cv138 x.f0), x.f1, x.f2⟩
def cv32 (x : S32) : S45 := ⟨x.f0, (cv27 x.f1), (x.f2.map cv134), (x.f3.map cv136), x.f4, (x.f5.map cv140)⟩
def n32 (x : S32) : Nat := n27 x.f1 + x.f2.length + x.f3.length + x.f5.length
theorem eta172 (x : S172) : (⟨x.f0, x.f1, x.f2, x.f3⟩ : S172) = x := by cases x; rfl
mutual
def n172 : S172 → Nat
  | ⟨x0, x1, x2, x3⟩ => x3.length + nL172 x3
def nL172 : List S172 → Nat
  | [] => 0
  | x :: l => n172 x + nL172 l
end
theorem nL172_eq : ∀ l : List S172, nL172 l = (l.map n172).sum
  | [] => by simp [nL172]
  | x :: l => by simp [nL172, nL172_eq l]
theorem n172_f (x : S172) : n172 x = x.f3.length + (x.f3.map n172).sum := by
  cases x
  simp only [n172, nL172_eq]
def n174 (x : S174) : Nat := n172 x.f3
def n38 (x : S38) : Nat := x.f1.length + (x.f1.map n174).sum
def n40 (x : S40) : Nat := x.f2.length + n38 x.f3
def n45 (x : S45) : Nat := n40 x.f1 + x.f2.length + x.f3.length + x.f5.length
def n107 (x : S107) : Nat := x.f1.length
def n64 (x : S64) : Nat := x.f0.length + (x.f0.map n107).sum + x.f1.length + (x.f1.map n40).sum + x.f2.length + x.f3.length + x.f5.length
def cv154 (x : S154) : S107 := ⟨x.f0, x.f1, x.f2⟩
def n154 (x : S154) : Nat := x.f1.length
def cv158 (x : S158) : S118 := ⟨x.f0, x.f1, x.f2, x.f3, x.f4, x.f5⟩
def cv73 (x : S73) : S64 := ⟨(x.f0.map cv154), (x.f1.map cv27), (x.f2.map cv134), (x.f3.map cv136), x.f4, (x.f5.map cv158)⟩
def n73 (x : S73) : Nat := x.f0.length + (x.f0.map n154).sum + x.f1.length + (x.f1.map n27).sum + x.f2.length + x.f3.length + x.f5.length
theorem rd_at_T164 {l : List S164} {i : Nat} {x : S164} (h : l[i]? = some x) : rd_T164 l (i : Int) = x := getD_nat l _ i x h
theorem rd_at_T183 {l : List S183} {i : Nat} {x : S183} (h : l[i]? = some x) : rd_T183 l (i : Int) = x := getD_nat l _ i x h
theorem rd_at_T185 {l : List S185} {i : Nat} {x : S185} (h : l[i]? = some x) : rd_T185 l (i : Int) = x := getD_nat l _ i x h
theorem rd_at_T25 {l : List S25} {i : Nat} {x : S25} (h : l[i]? = some x) : rd_T25 l (i : Int) = x := getD_nat l _ i x h
theorem rd_at_T27 {l : List S27} {i : Nat} {x : S27} (h : l[i]? = some x) : rd_T27 l (i : Int) = x := getD_nat l _ i x h
theorem rd_at_T134 {l : List S134} {i : Nat} {x : S134} (h : l[i]? = some x) : rd_T134 l (i : Int) = x := getD_nat l _ i x h
theorem rd_at_T136 {l : List S136} {i : Nat} {x : S136} (h : l[i]? = some x) : rd_T136 l (i : Int) = x := getD_nat l _ i x h
theorem rd_at_T138 {l : List S138} {i : Nat} {x : S138} (h : l[i]? = some x) : rd_T138 l (i : Int) = x := getD_nat l _ i x h
theorem rd_at_T140 {l : List S140} {i : Nat} {x : S140} (h : l[i]? = some x) : rd_T140 l (i : Int) = x := getD_nat l _ i x h
theorem rd_at_T32 {l : List S32} {i : Nat} {x : S32} (h : l[i]? = some x) : rd_T32 l (i : Int) = x := getD_nat l _ i x h
theorem rd_at_T149 {l : List S149} {i : Nat} {x : S149} (h : l[i]? = some x) : rd_T149 l (i : Int) = x := getD_nat l _ i x h
theorem rd_at_T172 {l : List S172} {i : Nat} {x : S172} (h : l[i]? = some x) : rd_T172 l (i : Int) = x := getD_nat l _ i x h
theorem rd_at_T174 {l : List S174} {i : Nat} {x : S174} (h : l[i]? = some x) : rd_T174 l (i : Int) = x := getD_nat l _ i x h
theorem rd_at_T132 {l : List S132} {i : Nat} {x : S132} (h : l[i]? = some x) : rd_T132 l (i : Int) = x := getD_nat l _ i x h
theorem rd_at_T99 {l : List S99} {i : Nat} {x : S99} (h : l[i]? = some x) : rd_T99 l (i : Int) = x := getD_nat l _ i x h
theorem rd_at_T101 {l : List S101} {i : Nat} {x : S101} (h : l[i]? = some x) : rd_T101 l (i : Int) = x := getD_nat l _ i x h
theorem rd_at_T103 {l : List S103} {i : Nat} {x : S103} (h : l[i]? = some x) : rd_T103 l (i : Int) = x := getD_nat l _ i x h
theorem rd_at_T38 {l : List S38} {i : Nat} {x : S38} (h : l[i]? = some x) : rd_T38 l (i : Int) = x := getD_nat l _ i x h
theorem rd_at_T40 {l : List S40} {i : Nat} {x : S40} (h : l[i]? = some x) : rd_T40 l (i : Int) = x := getD_nat l _ i x h
theorem rd_at_T45 {l : List S45} {i : Nat} {x : S45} (h : l[i]? = some x) : rd_T45 l (i : Int) = x := getD_nat l _ i x h
theorem rd_at_T107 {l : List S107} {i : Nat} {x : S107} (h : l[i]? = some x) : rd_T107 l (i : Int) = x := getD_nat l _ i x h
theorem rd_at_T118 {l : List S118} {i : Nat} {x : S118} (h : l[i]? = some x) : rd_T118 l (i : Int) = x := getD_nat l _ i x h
theorem rd_at_T64 {l : List S64} {i : Nat} {x : S64} (h : l[i]? = some x) : rd_T64 l (i : Int) = x := getD_nat l _ i x h
theorem rd_at_T154 {l : List S154} {i : Nat} {x : S154} (h : l[i]? = some x) : rd_T154 l (i : Int) = x := getD_nat l _ i x h
theorem rd_at_T158 {l : List S158} {i : Nat} {x : S158} (h : l[i]? = some x) : rd_T158 l (i : Int) = x := getD_nat l _ i x h
theorem rd_at_T73 {l : List S73} {i : Nat} {x : S73} (h : l[i]? = some x) : rd_T73 l (i : Int) = x := getD_nat l _ i x h
theorem ncvN183 (l : List S183) : (cvL183 l).length = l.length := by rw [cvL183_eq, List.length_map]
mutual
theorem ncv183 : ∀ x : S183, n172 (cv183 x) = n183 x
  | ⟨x0, x1, x2, x3⟩ => by simp only [cv183, n172, n183, ncvL183 x3, ncvN183 x3]
theorem ncvL183 : ∀ l : List S183, nL172 (cvL183 l) = nL183 l
  | [] => by simp [cvL183, nL172, nL183]
  | x :: l => by simp only [cvL183, nL172, nL183, ncv183 x, ncvL183 l]
end
theorem ncv185 (x : S185) : n174 (cv185 x) = n185 x := by
  simp only [cv185, n174, n185, List.length_map, List.map_map, Function.comp_def, ncv183]
theorem ncv25 (x : S25) : n38 (cv25 x) = n25 x := by
  simp only [cv25, n38, n25, List.length_map, List.map_map, Function.comp_def, ncv185]
theorem ncv27 (x : S27) : n40 (cv27 x) = n27 x := by
  simp only [cv27, n40, n27, List.length_map, List.map_map, Function.comp_def, ncv25]
theorem ncv32 (x : S32) : n45 (cv32 x) = n32 x := by
  simp only [cv32, n45, n32, List.length_map, List.map_map, Function.comp_def, ncv27]
theorem ncv154 (x : S154) : n107 (cv154 x) = n154 x := by
  simp only [cv154, n107, n154, List.length_map, List.map_map, Function.comp_def]
theorem ncv73 (x : S73) : n64 (cv73 x) = n73 x := by
  simp only [cv73, n64, n73, List.length_map, List.map_map, Function.comp_def, ncv154, ncv27]

theorem laws_szIncludesS_le (l : List (S164)) (hl : l.length ≤ maxLen) (a : Int) (h0 : 0 ≤ a) (ha : a ≤ 1048576) : ∃ r, laws_szIncludesS.f l a = some r ∧ r ≤ 1048576 ∧ (0 ≤ r → r + (l.length : Nat) ≤ a) := by
  unfold laws_szIncludesS.f
  unfold maxLen at hl
  rw [wr (by omega) (by omega)]
  split
  · exact ⟨_, rfl, by omega, by omega⟩
  · exact ⟨_, rfl, by omega, by omega⟩

theorem gin183 {x : S183} (h : g183 x) : x.f3.length ≤ maxLen ∧ ∀ y ∈ x.f3, g183 y := by
  obtain ⟨k, h⟩ := h
  cases k with
  | zero => exact h.elim
  | succ k =>
    obtain ⟨_, _, _, h1, h2⟩ := (show GF183 _ x from h)
    exact ⟨h1, fun y hy => ⟨k, h2 y hy⟩⟩
theorem laws_szCondS_leN (N : Nat) : ∀ (l : List S183) (hl : l.length ≤ maxLen) (hg : ∀ y ∈ l, g183 y) (a : Int), 0 ≤ a → a ≤ 1048576 → a.toNat ≤ N → ∃ r, Ev (fun k => laws_szCondS.f k l a) r ∧ r ≤ 1048576 ∧ (0 ≤ r → r + (l.length + (l.map n183).sum : Nat) ≤ a) := by
  induction N using Nat.strongRecOn with
  | _ N ih =>
  intro l hl hg a h0 ha hN
  unfold maxLen at hl
  by_cases c : a - (l.length : Int) < 0
  · refine ⟨-1, Ev.succ ?_, by omega, by omega⟩
    simp only [laws_szCondS.f, wr (x := a - (l.length : Int)) (by omega) (by omega), if_pos c]
    exact Ev.now _
  have hend : ∀ a, Ev (fun k => laws_szCondS.l0 k l a (l.length : Int)) a := by
    intro a
    refine Ev.succ ?_
    simp only [laws_szCondS.l0, Int.lt_irrefl, if_false]
    exact Ev.now _
  have hstep : ∀ (i : Nat) (x : S183) (b : Int), l[i]? = some x → 0 ≤ b → b ≤ a - (l.length : Int) → (∃ r, Ev (fun k => laws_szCondS.l0 k l b (i : Int)) r ∧ r < 0) ∨ ∃ a', 0 ≤ a' ∧ a' + n183 x ≤ b ∧ ∀ r, Ev (fun k => laws_szCondS.l0 k l a' ((i + 1 : Nat) : Int)) r → Ev (fun k => laws_szCondS.l0 k l b (i : Int)) r := by
    intro i x b hx hb0 hba
    have hi := lt_of_get hx
    have h1 : ((i : Int) < (l.length : Int)) = True := eq_true (by omega)
    have h2 : (0 ≤ (i : Int)) = True := eq_true (by omega)
    have hgx := gin183 (hg x (List.mem_of_getElem? hx))
    obtain ⟨r, e, br, s⟩ := ih b.toNat (by omega) x.f3 hgx.1 hgx.2 b hb0 (by omega) (Nat.le_refl _)
    have e' : Ev (fun k => laws_szCond.f k x.f0 x.f1 x.f2 x.f3 b) (if r < 0 then -1 else r) := by
      refine Ev.succ ?_
      simp only [laws_szCond.f]
      refine Ev.bind e ?_
      by_cases c2 : r < 0
      · simp only [if_pos c2]; exact Ev.now _
      · simp only [if_neg c2]; exact Ev.now _
    by_cases c2 : r < 0
    · left
      rw [if_pos c2] at e'
      refine ⟨-1, Ev.succ ?_, by omega⟩
      simp only [laws_szCondS.l0, h1, h2, if_true, rd_at_T183 hx]
      refine Ev.bind e' ?_
      exact Ev.pos (by omega) (Ev.now _)
    · right
      rw [if_neg c2] at e'
      have s' := s (by omega)
      rw [← n183_f] at s'
      refine ⟨r, by omega, by omega, fun r' hr => Ev.succ ?_⟩
      simp only [laws_szCondS.l0, h1, h2, if_true, rd_at_T183 hx]
      refine Ev.bind e' ?_
      simp only [if_neg c2, wr1 hi (by omega)]
      exact hr
  obtain ⟨r, h1, h2, h3⟩ := ev_sz n183 l (fun k a i => laws_szCondS.l0 k l a i) (a - (l.length : Int)) hend hstep (a - (l.length : Int)) (by omega) (by omega)
  refine ⟨r, Ev.succ ?_, by omega, fun h => by have := h3 h; omega⟩
  simp only [laws_szCondS.f, wr (x := a - (l.length : Int)) (by omega) (by omega), if_neg c]
  exact h1
theorem laws_szCondS_le (l : List S183) (hl : l.length ≤ maxLen) (hg : ∀ y ∈ l, g183 y) (a : Int) (h0 : 0 ≤ a) (ha : a ≤ 1048576) : ∃ r, Ev (fun k => laws_szCondS.f k l a) r ∧ r ≤ 1048576 ∧ (0 ≤ r → r + (l.length + (l.map n183).sum : Nat) ≤ a) := laws_szCondS_leN _ l hl hg a h0 ha (Nat.le_refl _)
theorem laws_szCond_le (x : S183) (hg : g183 x) (a : Int) (h0 : 0 ≤ a) (ha : a ≤ 1048576) : ∃ r, Ev (fun k => laws_szCond.f k x.f0 x.f1 x.f2 x.f3 a) r ∧ r ≤ 1048576 ∧ (0 ≤ r → r + (n183 x : Nat) ≤ a) := by
  have hgx := gin183 hg
  obtain ⟨r, e, b, s⟩ := laws_szCondS_le x.f3 hgx.1 hgx.2 a h0 ha
  by_cases c : r < 0
  · refine ⟨-1, Ev.succ ?_, by omega, by omega⟩
    simp only [laws_szCond.f]
    refine Ev.bind e ?_
    simp only [if_pos c]; exact Ev.now _
  · refine ⟨r, Ev.succ ?_, b, fun h => by rw [n183_f]; exact s h⟩
    simp only [laws_szCond.f]
    refine Ev.bind e ?_
    simp only [if_neg c]; exact Ev.now _



theorem laws_szRule_le (x : S185) (hg : g185 x) (a : Int) (h0 : 0 ≤ a) (ha : a ≤ 1048576) : ∃ r, Ev (fun k => laws_szRule.f k x.f0 x.f1 x.f2 x.f3.f0 x.f3.f1 x.f3.f2 x.f3.f3 a) r ∧ r ≤ 1048576 ∧ (0 ≤ r → r + (n185 x : Nat) ≤ a) := by
  unfold g185 at hg
  unfold n185 laws_szRule.f
  obtain ⟨r0, e0, b0, s0⟩ := laws_szCond_le x.f3 (by have := hg; simp_all) a (by omega) (by omega)
  by_cases c0 : r0 < 0
  · exact ⟨-1, by refine Ev.bind e0 ?_; simp only [if_pos c0]; exact Ev.now _, by omega, by omega⟩
  have s0' := s0 (by omega)
  exact ⟨r0, by refine Ev.bind e0 ?_; simp only [if_neg c0]; exact Ev.now _, by omega, fun _ => by omega⟩

theorem laws_szRuleS_le (l : List (S185)) (hl : l.length ≤ maxLen) (hg : ∀ y_ ∈ l, g185 y_) (a : Int) (h0 : 0 ≤ a) (ha : a ≤ 1048576) : ∃ r, Ev (fun k => laws_szRuleS.f k l a) r ∧ r ≤ 1048576 ∧ (0 ≤ r → r + (l.length + (l.map n185).sum : Nat) ≤ a) := by
  unfold laws_szRuleS.f
  unfold maxLen at hl
  rw [wr (by omega) (by omega)]
  by_cases c : a - (l.length : Int) < 0
  · simp only [if_pos c]; exact ⟨_, Ev.now _, by omega, by omega⟩
  simp only [if_neg c]
  have hend : ∀ a, Ev (fun k => laws_szRuleS.l0 k l a (l.length : Int)) a := by
    intro a
    refine Ev.succ ?_
    simp only [laws_szRuleS.l0, Int.lt_irrefl, if_false]
    exact Ev.now _
  have hstep : ∀ (i : Nat) (x : S185) (a : Int), l[i]? = some x → 0 ≤ a → a ≤ 1048576 → (∃ r, Ev (fun k => laws_szRuleS.l0 k l a (i : Int)) r ∧ r < 0) ∨ ∃ a', 0 ≤ a' ∧ a' + n185 x ≤ a ∧ ∀ r, Ev (fun k => laws_szRuleS.l0 k l a' ((i + 1 : Nat) : Int)) r → Ev (fun k => laws_szRuleS.l0 k l a (i : Int)) r := by
    intro i x a hx h0 ha
    have hi := lt_of_get hx
    have h1 : ((i : Int) < (l.length : Int)) = True := eq_true (by omega)
    have h2 : (0 ≤ (i : Int)) = True := eq_true (by omega)
    obtain ⟨r, e, b, s⟩ := laws_szRule_le x (hg x (List.mem_of_getElem? hx)) a h0 ha
    by_cases c2 : r < 0
    · left
      refine ⟨-1, Ev.succ ?_, by omega⟩
      simp only [laws_szRuleS.l0, h1, h2, if_true, rd_at_T185 hx]
      refine Ev.bind e ?_
      simp only [if_pos c2]
      exact Ev.now _
    · right
      have s' := s (by omega)
      refine ⟨r, by omega, by omega, fun r' hr => Ev.succ ?_⟩
      simp only [laws_szRuleS.l0, h1, h2, if_true, rd_at_T185 hx]
      refine Ev.bind e ?_
      simp only [if_neg c2, wr1 hi (by omega)]
      exact hr
  obtain ⟨r, h1, h2, h3⟩ := ev_sz n185 l (fun k a i => laws_szRuleS.l0 k l a i) 1048576 hend hstep (a - l.length) (by omega) (by omega)
  exact ⟨r, h1, h2, fun h => by have := h3 h; omega⟩

theorem laws_szPolicy_le (x : S25) (hg : g25 x) (a : Int) (h0 : 0 ≤ a) (ha : a ≤ 1048576) : ∃ r, Ev (fun k => laws_szPolicy.f k x.f0 x.f1 a) r ∧ r ≤ 1048576 ∧ (0 ≤ r → r + (n25 x : Nat) ≤ a) := by
  unfold g25 at hg
  unfold n25 laws_szPolicy.f
  obtain ⟨r0, e0, b0, s0⟩ := laws_szRuleS_le x.f1 (by have := hg; simp_all) (by have := hg; simp_all) a (by omega) (by omega)
  by_cases c0 : r0 < 0
  · exact ⟨-1, by refine Ev.bind e0 ?_; simp only [if_pos c0]; exact Ev.now _, by omega, by omega⟩
  have s0' := s0 (by omega)
  exact ⟨r0, by refine Ev.bind e0 ?_; simp only [if_neg c0]; exact Ev.now _, by omega, fun _ => by omega⟩

theorem laws_szEpoch_le (x : S27) (hg : g27 x) (a : Int) (h0 : 0 ≤ a) (ha : a ≤ 1048576) : ∃ r, Ev (fun k => laws_szEpoch.f k x.f0 x.f1 x.f2 x.f3.f0 x.f3.f1 a) r ∧ r ≤ 1048576 ∧ (0 ≤ r → r + (n27 x : Nat) ≤ a) := by
  unfold g27 at hg
  unfold n27 laws_szEpoch.f
  obtain ⟨r0, e0, b0, s0⟩ := laws_szIncludesS_le x.f2 (by have := hg; simp_all) a (by omega) (by omega)
  by_cases c0 : r0 < 0
  · exact ⟨-1, by simp only [e0, Option.bind_some]; simp only [if_pos c0]; exact Ev.now _, by omega, by omega⟩
  have s0' := s0 (by omega)
  obtain ⟨r1, e1, b1, s1⟩ := laws_szPolicy_le x.f3 (by have := hg; simp_all) r0 (by omega) (by omega)
  by_cases c1 : r1 < 0
  · exact ⟨-1, by simp only [e0, Option.bind_some]; simp only [if_neg c0]; refine Ev.bind e1 ?_; simp only [if_pos c1]; exact Ev.now _, by omega, by omega⟩
  have s1' := s1 (by omega)
  exact ⟨r1, by simp only [e0, Option.bind_some]; simp only [if_neg c0]; refine Ev.bind e1 ?_; simp only [if_neg c1]; exact Ev.now _, by omega, fun _ => by omega⟩

theorem laws_szFactS_le (l : List (S134)) (hl : l.length ≤ maxLen) (a : Int) (h0 : 0 ≤ a) (ha : a ≤ 1048576) : ∃ r, laws_szFactS.f l a = some r ∧ r ≤ 1048576 ∧ (0 ≤ r → r + (l.length : Nat) ≤ a) := by
  unfold laws_szFactS.f
  unfold maxLen at hl
  rw [wr (by omega) (by omega)]
  split
  · exact ⟨_, rfl, by omega, by omega⟩
  · exact ⟨_, rfl, by omega, by omega⟩

theorem laws_szRevokedS_le (l : List (S136)) (hl : l.length ≤ maxLen) (a : Int) (h0 : 0 ≤ a) (ha : a ≤ 1048576) : ∃ r, laws_szRevokedS.f l a = some r ∧ r ≤ 1048576 ∧ (0 ≤ r → r + (l.length : Nat) ≤ a) := by
  unfold laws_szRevokedS.f
  unfold maxLen at hl
  rw [wr (by omega) (by omega)]
  split
  · exact ⟨_, rfl, by omega, by omega⟩
  · exact ⟨_, rfl, by omega, by omega⟩

theorem laws_szSavedS_le (l : List (S140)) (hl : l.length ≤ maxLen) (a : Int) (h0 : 0 ≤ a) (ha : a ≤ 1048576) : ∃ r, laws_szSavedS.f l a = some r ∧ r ≤ 1048576 ∧ (0 ≤ r → r + (l.length : Nat) ≤ a) := by
  unfold laws_szSavedS.f
  unfold maxLen at hl
  rw [wr (by omega) (by omega)]
  split
  · exact ⟨_, rfl, by omega, by omega⟩
  · exact ⟨_, rfl, by omega, by omega⟩

theorem laws_szPoint_le (x : S32) (hg : g32 x) (a : Int) (h0 : 0 ≤ a) (ha : a ≤ 1048576) : ∃ r, Ev (fun k => laws_szPoint.f k x.f0 x.f1.f0 x.f1.f1 x.f1.f2 x.f1.f3.f0 x.f1.f3.f1 x.f2 x.f3 x.f4 x.f5 a) r ∧ r ≤ 1048576 ∧ (0 ≤ r → r + (n32 x : Nat) ≤ a) := by
  unfold g32 at hg
  unfold n32 laws_szPoint.f
  obtain ⟨r0, e0, b0, s0⟩ := laws_szEpoch_le x.f1 (by have := hg; simp_all) a (by omega) (by omega)
  by_cases c0 : r0 < 0
  · exact ⟨-1, by refine Ev.bind e0 ?_; simp only [if_pos c0]; exact Ev.now _, by omega, by omega⟩
  have s0' := s0 (by omega)
  obtain ⟨r1, e1, b1, s1⟩ := laws_szFactS_le x.f2 (by have := hg; simp_all) r0 (by omega) (by omega)
  by_cases c1 : r1 < 0
  · exact ⟨-1, by refine Ev.bind e0 ?_; simp only [if_neg c0]; simp only [e1, Option.bind_some]; simp only [if_pos c1]; exact Ev.now _, by omega, by omega⟩
  have s1' := s1 (by omega)
  obtain ⟨r2, e2, b2, s2⟩ := laws_szRevokedS_le x.f3 (by have := hg; simp_all) r1 (by omega) (by omega)
  by_cases c2 : r2 < 0
  · exact ⟨-1, by refine Ev.bind e0 ?_; simp only [if_neg c0]; simp only [e1, Option.bind_some]; simp only [if_neg c1]; simp only [e2, Option.bind_some]; simp only [if_pos c2]; exact Ev.now _, by omega, by omega⟩
  have s2' := s2 (by omega)
  obtain ⟨r3, e3, b3, s3⟩ := laws_szSavedS_le x.f5 (by have := hg; simp_all) r2 (by omega) (by omega)
  by_cases c3 : r3 < 0
  · exact ⟨-1, by refine Ev.bind e0 ?_; simp only [if_neg c0]; simp only [e1, Option.bind_some]; simp only [if_neg c1]; simp only [e2, Option.bind_some]; simp only [if_neg c2]; simp only [e3, Option.bind_some]; simp only [if_pos c3]; exact Ev.now _, by omega, by omega⟩
  have s3' := s3 (by omega)
  exact ⟨r3, by refine Ev.bind e0 ?_; simp only [if_neg c0]; simp only [e1, Option.bind_some]; simp only [if_neg c1]; simp only [e2, Option.bind_some]; simp only [if_neg c2]; simp only [e3, Option.bind_some]; simp only [if_neg c3]; exact Ev.now _, by omega, fun _ => by omega⟩

theorem laws_toIncludes_eq (x : S164) : laws_toIncludes.f x.f0 x.f1 = some ((cv164 x).f0, (cv164 x).f1) := by
  unfold laws_toIncludes.f
  first | rfl | (simp only [Option.bind_some]; rfl)

theorem laws_toIncludesS_ev (l : List (S164)) (h : l.length ≤ 1048576) : Ev (fun k => laws_toIncludesS.f k l) (l.map cv164) := by
  unfold laws_toIncludesS.f
  refine Ev.pos (by omega) (Ev.pos (by omega) ?_)
  refine ev_fill l cv164 (fun k out i => laws_toIncludesS.l0 k l out i) ?_ ?_ _ (by simp)
  · intro out ho
    refine Ev.succ ?_
    simp only [laws_toIncludesS.l0, Int.lt_irrefl, if_false]
    exact Ev.now _
  · intro i x out r hx ho hr
    have hi := lt_of_get hx
    have h1 : ((i : Int) < (l.length : Int)) = True := eq_true (by omega)
    have h2 : (0 ≤ (i : Int)) = True := eq_true (by omega)
    have h3 : ((i : Int) < (out.length : Int)) = True := eq_true (by omega)
    refine Ev.succ ?_
    simp only [laws_toIncludesS.l0, h1, h2, h3, if_true, rd_at_T164 hx, wr1 hi (by omega), Int.toNat_natCast, laws_toIncludes_eq x, Option.bind_some]
    exact hr

theorem laws_toCondS_evN (N : Nat) : ∀ l : List S183, l.length + (l.map n183).sum ≤ N → N ≤ 1048576 → Ev (fun k => laws_toCondS.f k l) (l.map cv183) := by
  induction N using Nat.strongRecOn with
  | _ N ih =>
  intro l h hN
  refine Ev.succ ?_
  simp only [laws_toCondS.f]
  refine Ev.pos (by omega) (Ev.pos (by omega) ?_)
  refine ev_fill l cv183 (fun k out i => laws_toCondS.l0 k l out i) ?_ ?_ _ (by simp)
  · intro out ho
    refine Ev.succ ?_
    simp only [laws_toCondS.l0, Int.lt_irrefl, if_false]
    exact Ev.now _
  · intro i x out r hx ho hr
    have hi := lt_of_get hx
    have h1 : ((i : Int) < (l.length : Int)) = True := eq_true (by omega)
    have h2 : (0 ≤ (i : Int)) = True := eq_true (by omega)
    have h3 : ((i : Int) < (out.length : Int)) = True := eq_true (by omega)
    have hn := le_sum n183 hx
    rw [n183_f] at hn
    have e := ih (x.f3.length + (x.f3.map n183).sum) (by omega) x.f3 (Nat.le_refl _) (by omega)
    have e' : Ev (fun k => laws_toCond.f k x.f0 x.f1 x.f2 x.f3) (x.f0, x.f1, x.f2, x.f3.map cv183) := by
      refine Ev.succ ?_
      simp only [laws_toCond.f]
      refine Ev.bind e ?_
      exact Ev.now _
    refine Ev.succ ?_
    simp only [laws_toCondS.l0, h1, h2, if_true, rd_at_T183 hx, wr1 hi (by omega), Int.toNat_natCast]
    refine Ev.bind e' ?_
    simp only [h3, if_true]
    rw [cv183_f] at hr
    exact hr
theorem laws_toCondS_ev (l : List S183) (h : l.length + (l.map n183).sum ≤ 1048576) : Ev (fun k => laws_toCondS.f k l) (l.map cv183) := laws_toCondS_evN _ l (Nat.le_refl _) h
theorem laws_toCond_ev (x : S183) (h : n183 x ≤ 1048576) : Ev (fun k => laws_toCond.f k x.f0 x.f1 x.f2 x.f3) ((cv183 x).f0, (cv183 x).f1, (cv183 x).f2, (cv183 x).f3) := by
  rw [n183_f] at h
  rw [cv183_f]
  refine Ev.succ ?_
  simp only [laws_toCond.f]
  refine Ev.bind (laws_toCondS_ev x.f3 h) ?_
  exact Ev.now _



theorem laws_toRule_ev (x : S185) (h : n185 x ≤ 1048576) : Ev (fun k => laws_toRule.f k x.f0 x.f1 x.f2 x.f3.f0 x.f3.f1 x.f3.f2 x.f3.f3) ((cv185 x).f0, (cv185 x).f1, (cv185 x).f2, (cv185 x).f3.f0, (cv185 x).f3.f1, (cv185 x).f3.f2, (cv185 x).f3.f3) := by
  unfold n185 at h
  unfold laws_toRule.f
  repeat (first | exact Ev.now _ | (refine Ev.bind (laws_toCond_ev _ (by omega)) ?_; try simp only []))

theorem laws_toRuleS_ev (l : List (S185)) (h : l.length + (l.map n185).sum ≤ 1048576) : Ev (fun k => laws_toRuleS.f k l) (l.map cv185) := by
  unfold laws_toRuleS.f
  refine Ev.pos (by omega) (Ev.pos (by omega) ?_)
  refine ev_fill l cv185 (fun k out i => laws_toRuleS.l0 k l out i) ?_ ?_ _ (by simp)
  · intro out ho
    refine Ev.succ ?_
    simp only [laws_toRuleS.l0, Int.lt_irrefl, if_false]
    exact Ev.now _
  · intro i x out r hx ho hr
    have hi := lt_of_get hx
    have h1 : ((i : Int) < (l.length : Int)) = True := eq_true (by omega)
    have h2 : (0 ≤ (i : Int)) = True := eq_true (by omega)
    have h3 : ((i : Int) < (out.length : Int)) = True := eq_true (by omega)
    refine Ev.succ ?_
    simp only [laws_toRuleS.l0, h1, h2, h3, if_true, rd_at_T185 hx, wr1 hi (by omega), Int.toNat_natCast]
    refine Ev.bind (laws_toRule_ev x (by have := le_sum n185 hx; omega)) ?_
    simp only [h3, if_true]
    (try simp only [eta183, eta172])
    exact hr

theorem laws_toPolicy_ev (x : S25) (h : n25 x ≤ 1048576) : Ev (fun k => laws_toPolicy.f k x.f0 x.f1) ((cv25 x).f0, (cv25 x).f1) := by
  unfold n25 at h
  unfold laws_toPolicy.f
  repeat (first | exact Ev.now _ | (refine Ev.bind (laws_toRuleS_ev _ (by omega)) ?_; try simp only []))

theorem laws_toEpoch_ev (x : S27) (h : n27 x ≤ 1048576) : Ev (fun k => laws_toEpoch.f k x.f0 x.f1 x.f2 x.f3.f0 x.f3.f1) ((cv27 x).f0, (cv27 x).f1, (cv27 x).f2, (cv27 x).f3.f0, (cv27 x).f3.f1) := by
  unfold n27 at h
  unfold laws_toEpoch.f
  repeat (first | exact Ev.now _ | (refine Ev.bind (laws_toIncludesS_ev _ (by omega)) ?_; try simp only []) | (refine Ev.bind (laws_toPolicy_ev _ (by omega)) ?_; try simp only []))

theorem laws_toFact_eq (x : S134) : laws_toFact.f x.f0 x.f1 x.f2 x.f3 x.f4 x.f5 = some ((cv134 x).f0, (cv134 x).f1, (cv134 x).f2, (cv134 x).f3, (cv134 x).f4, (cv134 x).f5) := by
  unfold laws_toFact.f
  first | rfl | (simp only [Option.bind_some]; rfl)

theorem laws_toFactS_ev (l : List (S134)) (h : l.length ≤ 1048576) : Ev (fun k => laws_toFactS.f k l) (l.map cv134) := by
  unfold laws_toFactS.f
  refine Ev.pos (by omega) (Ev.pos (by omega) ?_)
  refine ev_fill l cv134 (fun k out i => laws_toFactS.l0 k l out i) ?_ ?_ _ (by simp)
  · intro out ho
    refine Ev.succ ?_
    simp only [laws_toFactS.l0, Int.lt_irrefl, if_false]
    exact Ev.now _
  · intro i x out r hx ho hr
    have hi := lt_of_get hx
    have h1 : ((i : Int) < (l.length : Int)) = True := eq_true (by omega)
    have h2 : (0 ≤ (i : Int)) = True := eq_true (by omega)
    have h3 : ((i : Int) < (out.length : Int)) = True := eq_true (by omega)
    refine Ev.succ ?_
    simp only [laws_toFactS.l0, h1, h2, h3, if_true, rd_at_T134 hx, wr1 hi (by omega), Int.toNat_natCast, laws_toFact_eq x, Option.bind_some]
    exact hr

theorem laws_toRevoked_eq (x : S136) : laws_toRevoked.f x.f0 x.f1 = some ((cv136 x).f0, (cv136 x).f1) := by
  unfold laws_toRevoked.f
  first | rfl | (simp only [Option.bind_some]; rfl)

theorem laws_toRevokedS_ev (l : List (S136)) (h : l.length ≤ 1048576) : Ev (fun k => laws_toRevokedS.f k l) (l.map cv136) := by
  unfold laws_toRevokedS.f
  refine Ev.pos (by omega) (Ev.pos (by omega) ?_)
  refine ev_fill l cv136 (fun k out i => laws_toRevokedS.l0 k l out i) ?_ ?_ _ (by simp)
  · intro out ho
    refine Ev.succ ?_
    simp only [laws_toRevokedS.l0, Int.lt_irrefl, if_false]
    exact Ev.now _
  · intro i x out r hx ho hr
    have hi := lt_of_get hx
    have h1 : ((i : Int) < (l.length : Int)) = True := eq_true (by omega)
    have h2 : (0 ≤ (i : Int)) = True := eq_true (by omega)
    have h3 : ((i : Int) < (out.length : Int)) = True := eq_true (by omega)
    refine Ev.succ ?_
    simp only [laws_toRevokedS.l0, h1, h2, h3, if_true, rd_at_T136 hx, wr1 hi (by omega), Int.toNat_natCast, laws_toRevoked_eq x, Option.bind_some]
    exact hr

theorem laws_toRequest_eq (x : S138) : laws_toRequest.f x.f0 x.f1 x.f2 x.f3 x.f4 x.f5 = some ((cv138 x).f0, (cv138 x).f1, (cv138 x).f2, (cv138 x).f3, (cv138 x).f4, (cv138 x).f5) := by
  unfold laws_toRequest.f
  first | rfl | (simp only [Option.bind_some]; rfl)

theorem laws_toSaved_eq (x : S140) : laws_toSaved.f x.f0.f0 x.f0.f1 x.f0.f2 x.f0.f3 x.f0.f4 x.f0.f5 x.f1 x.f2 = some ((cv140 x).f0.f0, (cv140 x).f0.f1, (cv140 x).f0.f2, (cv140 x).f0.f3, (cv140 x).f0.f4, (cv140 x).f0.f5, (cv140 x).f1, (cv140 x).f2) := by
  unfold laws_toSaved.f
  first | rfl | (simp only [Option.bind_some]; rfl)

theorem laws_toSavedS_ev (l : List (S140)) (h : l.length ≤ 1048576) : Ev (fun k => laws_toSavedS.f k l) (l.map cv140) := by
  unfold laws_toSavedS.f
  refine Ev.pos (by omega) (Ev.pos (by omega) ?_)
  refine ev_fill l cv140 (fun k out i => laws_toSavedS.l0 k l out i) ?_ ?_ _ (by simp)
  · intro out ho
    refine Ev.succ ?_
    simp only [laws_toSavedS.l0, Int.lt_irrefl, if_false]
    exact Ev.now _
  · intro i x out r hx ho hr
    have hi := lt_of_get hx
    have h1 : ((i : Int) < (l.length : Int)) = True := eq_true (by omega)
    have h2 : (0 ≤ (i : Int)) = True := eq_true (by omega)
    have h3 : ((i : Int) < (out.length : Int)) = True := eq_true (by omega)
    refine Ev.succ ?_
    simp only [laws_toSavedS.l0, h1, h2, h3, if_true, rd_at_T140 hx, wr1 hi (by omega), Int.toNat_natCast, laws_toSaved_eq x, Option.bind_some]
    exact hr

theorem laws_toPoint_ev (x : S32) (h : n32 x ≤ 1048576) : Ev (fun k => laws_toPoint.f k x.f0 x.f1.f0 x.f1.f1 x.f1.f2 x.f1.f3.f0 x.f1.f3.f1 x.f2 x.f3 x.f4 x.f5) ((cv32 x).f0, (cv32 x).f1.f0, (cv32 x).f1.f1, (cv32 x).f1.f2, (cv32 x).f1.f3.f0, (cv32 x).f1.f3.f1, (cv32 x).f2, (cv32 x).f3, (cv32 x).f4, (cv32 x).f5) := by
  unfold n32 at h
  unfold laws_toPoint.f
  repeat (first | exact Ev.now _ | (refine Ev.bind (laws_toEpoch_ev _ (by omega)) ?_; try simp only []) | (refine Ev.bind (laws_toFactS_ev _ (by omega)) ?_; try simp only []) | (refine Ev.bind (laws_toRevokedS_ev _ (by omega)) ?_; try simp only []) | (refine Ev.bind (laws_toSavedS_ev _ (by omega)) ?_; try simp only []))

theorem laws_eqIncludes_refl (x : S149) : laws_eqIncludes.f x.f0 x.f1 x.f0 x.f1 = some true := by
  unfold laws_eqIncludes.f
  simp

theorem laws_eqIncludesS_refl (l : List (S149)) (h : l.length ≤ 1048576) : Ev (fun k => laws_eqIncludesS.f k l l) true := by
  unfold laws_eqIncludesS.f
  refine Ev.pos rfl ?_
  refine ev_walk l (fun k i => laws_eqIncludesS.l0 k l l i) true ?_ ?_
  · refine Ev.succ ?_
    simp only [laws_eqIncludesS.l0, Int.lt_irrefl, if_false]
    exact Ev.now _
  · intro i x hx hr
    have hi := lt_of_get hx
    have h1 : ((i : Int) < (l.length : Int)) = True := eq_true (by omega)
    have h2 : (0 ≤ (i : Int)) = True := eq_true (by omega)
    refine Ev.succ ?_
    simp only [laws_eqIncludesS.l0, h1, h2, if_true, rd_at_T149 hx, wr1 hi (by omega), laws_eqIncludes_refl x, Option.bind_some]
    exact hr

theorem laws_eqCondS_reflN (N : Nat) : ∀ l : List S172, l.length + (l.map n172).sum ≤ N → N ≤ 1048576 → Ev (fun k => laws_eqCondS.f k l l) true := by
  induction N using Nat.strongRecOn with
  | _ N ih =>
  intro l h hN
  refine Ev.succ ?_
  simp only [laws_eqCondS.f]
  refine Ev.pos (by first | trivial | rfl) ?_
  refine ev_walk l (fun k i => laws_eqCondS.l0 k l l i) true ?_ ?_
  · refine Ev.succ ?_
    simp only [laws_eqCondS.l0, Int.lt_irrefl, if_false]
    exact Ev.now _
  · intro i x hx hr
    have hi := lt_of_get hx
    have h1 : ((i : Int) < (l.length : Int)) = True := eq_true (by omega)
    have h2 : (0 ≤ (i : Int)) = True := eq_true (by omega)
    have hn := le_sum n172 hx
    rw [n172_f] at hn
    have e := ih (x.f3.length + (x.f3.map n172).sum) (by omega) x.f3 (Nat.le_refl _) (by omega)
    have e' : Ev (fun k => laws_eqCond.f k x.f0 x.f1 x.f2 x.f3 x.f0 x.f1 x.f2 x.f3) true := by
      refine Ev.succ ?_
      simp only [laws_eqCond.f, if_true]
      refine Ev.bind e ?_
      simp only [if_true]
      exact Ev.now _
    refine Ev.succ ?_
    simp only [laws_eqCondS.l0, h1, h2, if_true, rd_at_T172 hx, wr1 hi (by omega)]
    refine Ev.bind e' ?_
    simp only [if_true]
    exact hr
theorem laws_eqCondS_refl (l : List S172) (h : l.length + (l.map n172).sum ≤ 1048576) : Ev (fun k => laws_eqCondS.f k l l) true := laws_eqCondS_reflN _ l (Nat.le_refl _) h
theorem laws_eqCond_refl (x : S172) (h : n172 x ≤ 1048576) : Ev (fun k => laws_eqCond.f k x.f0 x.f1 x.f2 x.f3 x.f0 x.f1 x.f2 x.f3) true := by
  rw [n172_f] at h
  refine Ev.succ ?_
  simp only [laws_eqCond.f, if_true]
  refine Ev.bind (laws_eqCondS_refl x.f3 h) ?_
  simp only [if_true]
  exact Ev.now _



theorem laws_eqRule_refl (x : S174) (h : n174 x ≤ 1048576) : Ev (fun k => laws_eqRule.f k x.f0 x.f1 x.f2 x.f3.f0 x.f3.f1 x.f3.f2 x.f3.f3 x.f0 x.f1 x.f2 x.f3.f0 x.f3.f1 x.f3.f2 x.f3.f3) true := by
  unfold n174 at h
  unfold laws_eqRule.f
  simp only [if_true, bne_self_eq_false, Bool.false_eq_true, if_false]
  repeat (first | exact Ev.now _ | (refine Ev.bind (laws_eqCond_refl _ (by omega)) ?_; simp only [if_true, bne_self_eq_false, Bool.false_eq_true, if_false]))

theorem laws_eqRuleS_refl (l : List (S174)) (h : l.length + (l.map n174).sum ≤ 1048576) : Ev (fun k => laws_eqRuleS.f k l l) true := by
  unfold laws_eqRuleS.f
  refine Ev.pos rfl ?_
  refine ev_walk l (fun k i => laws_eqRuleS.l0 k l l i) true ?_ ?_
  · refine Ev.succ ?_
    simp only [laws_eqRuleS.l0, Int.lt_irrefl, if_false]
    exact Ev.now _
  · intro i x hx hr
    have hi := lt_of_get hx
    have h1 : ((i : Int) < (l.length : Int)) = True := eq_true (by omega)
    have h2 : (0 ≤ (i : Int)) = True := eq_true (by omega)
    refine Ev.succ ?_
    simp only [laws_eqRuleS.l0, h1, h2, if_true, rd_at_T174 hx, wr1 hi (by omega)]
    refine Ev.bind (laws_eqRule_refl x (by have := le_sum n174 hx; omega)) ?_
    simp only [if_true]
    exact hr

theorem laws_eqPolicy_refl (x : S38) (h : n38 x ≤ 1048576) : Ev (fun k => laws_eqPolicy.f k x.f0 x.f1 x.f0 x.f1) true := by
  unfold n38 at h
  unfold laws_eqPolicy.f
  simp only [if_true, bne_self_eq_false, Bool.false_eq_true, if_false]
  repeat (first | exact Ev.now _ | (refine Ev.bind (laws_eqRuleS_refl _ (by omega)) ?_; simp only [if_true, bne_self_eq_false, Bool.false_eq_true, if_false]))

theorem laws_eqEpoch_refl (x : S40) (h : n40 x ≤ 1048576) : Ev (fun k => laws_eqEpoch.f k x.f0 x.f1 x.f2 x.f3.f0 x.f3.f1 x.f0 x.f1 x.f2 x.f3.f0 x.f3.f1) true := by
  unfold n40 at h
  unfold laws_eqEpoch.f
  simp only [if_true, bne_self_eq_false, Bool.false_eq_true, if_false]
  repeat (first | exact Ev.now _ | (refine Ev.bind (laws_eqIncludesS_refl _ (by omega)) ?_; simp only [if_true, bne_self_eq_false, Bool.false_eq_true, if_false]) | (refine Ev.bind (laws_eqPolicy_refl _ (by omega)) ?_; simp only [if_true, bne_self_eq_false, Bool.false_eq_true, if_false]))

theorem laws_eqFact_refl (x : S132) : laws_eqFact.f x.f0 x.f1 x.f2 x.f3 x.f4 x.f5 x.f0 x.f1 x.f2 x.f3 x.f4 x.f5 = some true := by
  unfold laws_eqFact.f
  simp

theorem laws_eqFactS_refl (l : List (S132)) (h : l.length ≤ 1048576) : Ev (fun k => laws_eqFactS.f k l l) true := by
  unfold laws_eqFactS.f
  refine Ev.pos rfl ?_
  refine ev_walk l (fun k i => laws_eqFactS.l0 k l l i) true ?_ ?_
  · refine Ev.succ ?_
    simp only [laws_eqFactS.l0, Int.lt_irrefl, if_false]
    exact Ev.now _
  · intro i x hx hr
    have hi := lt_of_get hx
    have h1 : ((i : Int) < (l.length : Int)) = True := eq_true (by omega)
    have h2 : (0 ≤ (i : Int)) = True := eq_true (by omega)
    refine Ev.succ ?_
    simp only [laws_eqFactS.l0, h1, h2, if_true, rd_at_T132 hx, wr1 hi (by omega), laws_eqFact_refl x, Option.bind_some]
    exact hr

theorem laws_eqRevoked_refl (x : S99) : laws_eqRevoked.f x.f0 x.f1 x.f0 x.f1 = some true := by
  unfold laws_eqRevoked.f
  simp

theorem laws_eqRevokedS_refl (l : List (S99)) (h : l.length ≤ 1048576) : Ev (fun k => laws_eqRevokedS.f k l l) true := by
  unfold laws_eqRevokedS.f
  refine Ev.pos rfl ?_
  refine ev_walk l (fun k i => laws_eqRevokedS.l0 k l l i) true ?_ ?_
  · refine Ev.succ ?_
    simp only [laws_eqRevokedS.l0, Int.lt_irrefl, if_false]
    exact Ev.now _
  · intro i x hx hr
    have hi := lt_of_get hx
    have h1 : ((i : Int) < (l.length : Int)) = True := eq_true (by omega)
    have h2 : (0 ≤ (i : Int)) = True := eq_true (by omega)
    refine Ev.succ ?_
    simp only [laws_eqRevokedS.l0, h1, h2, if_true, rd_at_T99 hx, wr1 hi (by omega), laws_eqRevoked_refl x, Option.bind_some]
    exact hr

theorem laws_eqRequest_refl (x : S101) : laws_eqRequest.f x.f0 x.f1 x.f2 x.f3 x.f4 x.f5 x.f0 x.f1 x.f2 x.f3 x.f4 x.f5 = some true := by
  unfold laws_eqRequest.f
  simp

theorem laws_eqSaved_refl (x : S103) : laws_eqSaved.f x.f0.f0 x.f0.f1 x.f0.f2 x.f0.f3 x.f0.f4 x.f0.f5 x.f1 x.f2 x.f0.f0 x.f0.f1 x.f0.f2 x.f0.f3 x.f0.f4 x.f0.f5 x.f1 x.f2 = some true := by
  unfold laws_eqSaved.f
  simp [laws_eqRequest_refl]

theorem laws_eqSavedS_refl (l : List (S103)) (h : l.length ≤ 1048576) : Ev (fun k => laws_eqSavedS.f k l l) true := by
  unfold laws_eqSavedS.f
  refine Ev.pos rfl ?_
  refine ev_walk l (fun k i => laws_eqSavedS.l0 k l l i) true ?_ ?_
  · refine Ev.succ ?_
    simp only [laws_eqSavedS.l0, Int.lt_irrefl, if_false]
    exact Ev.now _
  · intro i x hx hr
    have hi := lt_of_get hx
    have h1 : ((i : Int) < (l.length : Int)) = True := eq_true (by omega)
    have h2 : (0 ≤ (i : Int)) = True := eq_true (by omega)
    refine Ev.succ ?_
    simp only [laws_eqSavedS.l0, h1, h2, if_true, rd_at_T103 hx, wr1 hi (by omega), laws_eqSaved_refl x, Option.bind_some]
    exact hr

theorem laws_eqPoint_refl (x : S45) (h : n45 x ≤ 1048576) : Ev (fun k => laws_eqPoint.f k x.f0 x.f1.f0 x.f1.f1 x.f1.f2 x.f1.f3.f0 x.f1.f3.f1 x.f2 x.f3 x.f4 x.f5 x.f0 x.f1.f0 x.f1.f1 x.f1.f2 x.f1.f3.f0 x.f1.f3.f1 x.f2 x.f3 x.f4 x.f5) true := by
  unfold n45 at h
  unfold laws_eqPoint.f
  simp only [if_true, bne_self_eq_false, Bool.false_eq_true, if_false]
  repeat (first | exact Ev.now _ | (refine Ev.bind (laws_eqEpoch_refl _ (by omega)) ?_; simp only [if_true, bne_self_eq_false, Bool.false_eq_true, if_false]) | (refine Ev.bind (laws_eqFactS_refl _ (by omega)) ?_; simp only [if_true, bne_self_eq_false, Bool.false_eq_true, if_false]) | (refine Ev.bind (laws_eqRevokedS_refl _ (by omega)) ?_; simp only [if_true, bne_self_eq_false, Bool.false_eq_true, if_false]) | (refine Ev.bind (laws_eqSavedS_refl _ (by omega)) ?_; simp only [if_true, bne_self_eq_false, Bool.false_eq_true, if_false]))

theorem laws_eqIntS_refl (l : List Int) (h : l.length ≤ 1048576) : Ev (fun k => laws_eqIntS.f k l l) true := by
  unfold laws_eqIntS.f
  refine Ev.pos rfl ?_
  refine ev_walk l (fun k i => laws_eqIntS.l0 k l l i) true ?_ ?_
  · refine Ev.succ ?_
    simp only [laws_eqIntS.l0, Int.lt_irrefl, if_false]
    exact Ev.now _
  · intro i x hx hr
    have hi := lt_of_get hx
    have h1 : ((i : Int) < (l.length : Int)) = True := eq_true (by omega)
    have h2 : (0 ≤ (i : Int)) = True := eq_true (by omega)
    refine Ev.succ ?_
    simp only [laws_eqIntS.l0, h1, h2, if_true, rd_nat l i x hx, wr1 hi (by omega)]
    exact hr

theorem laws_eqIssuer_refl (x : S107) (h : n107 x ≤ 1048576) : Ev (fun k => laws_eqIssuer.f k x.f0 x.f1 x.f2 x.f0 x.f1 x.f2) true := by
  unfold n107 at h
  unfold laws_eqIssuer.f
  simp only [if_true, bne_self_eq_false, Bool.false_eq_true, if_false]
  repeat (first | exact Ev.now _ | (refine Ev.bind (laws_eqIntS_refl _ (by omega)) ?_; simp only [if_true, bne_self_eq_false, Bool.false_eq_true, if_false]))

theorem laws_eqIssuerS_refl (l : List (S107)) (h : l.length + (l.map n107).sum ≤ 1048576) : Ev (fun k => laws_eqIssuerS.f k l l) true := by
  unfold laws_eqIssuerS.f
  refine Ev.pos rfl ?_
  refine ev_walk l (fun k i => laws_eqIssuerS.l0 k l l i) true ?_ ?_
  · refine Ev.succ ?_
    simp only [laws_eqIssuerS.l0, Int.lt_irrefl, if_false]
    exact Ev.now _
  · intro i x hx hr
    have hi := lt_of_get hx
    have h1 : ((i : Int) < (l.length : Int)) = True := eq_true (by omega)
    have h2 : (0 ≤ (i : Int)) = True := eq_true (by omega)
    refine Ev.succ ?_
    simp only [laws_eqIssuerS.l0, h1, h2, if_true, rd_at_T107 hx, wr1 hi (by omega)]
    refine Ev.bind (laws_eqIssuer_refl x (by have := le_sum n107 hx; omega)) ?_
    simp only [if_true]
    exact hr

theorem laws_eqEpochS_refl (l : List (S40)) (h : l.length + (l.map n40).sum ≤ 1048576) : Ev (fun k => laws_eqEpochS.f k l l) true := by
  unfold laws_eqEpochS.f
  refine Ev.pos rfl ?_
  refine ev_walk l (fun k i => laws_eqEpochS.l0 k l l i) true ?_ ?_
  · refine Ev.succ ?_
    simp only [laws_eqEpochS.l0, Int.lt_irrefl, if_false]
    exact Ev.now _
  · intro i x hx hr
    have hi := lt_of_get hx
    have h1 : ((i : Int) < (l.length : Int)) = True := eq_true (by omega)
    have h2 : (0 ≤ (i : Int)) = True := eq_true (by omega)
    refine Ev.succ ?_
    simp only [laws_eqEpochS.l0, h1, h2, if_true, rd_at_T40 hx, wr1 hi (by omega)]
    refine Ev.bind (laws_eqEpoch_refl x (by have := le_sum n40 hx; omega)) ?_
    simp only [if_true]
    exact hr

theorem laws_eqCert_refl (x : S118) : laws_eqCert.f x.f0 x.f1 x.f2 x.f3 x.f4 x.f5 x.f0 x.f1 x.f2 x.f3 x.f4 x.f5 = some true := by
  unfold laws_eqCert.f
  simp

theorem laws_eqCertS_refl (l : List (S118)) (h : l.length ≤ 1048576) : Ev (fun k => laws_eqCertS.f k l l) true := by
  unfold laws_eqCertS.f
  refine Ev.pos rfl ?_
  refine ev_walk l (fun k i => laws_eqCertS.l0 k l l i) true ?_ ?_
  · refine Ev.succ ?_
    simp only [laws_eqCertS.l0, Int.lt_irrefl, if_false]
    exact Ev.now _
  · intro i x hx hr
    have hi := lt_of_get hx
    have h1 : ((i : Int) < (l.length : Int)) = True := eq_true (by omega)
    have h2 : (0 ≤ (i : Int)) = True := eq_true (by omega)
    refine Ev.succ ?_
    simp only [laws_eqCertS.l0, h1, h2, if_true, rd_at_T118 hx, wr1 hi (by omega), laws_eqCert_refl x, Option.bind_some]
    exact hr

theorem laws_eqCenter_refl (x : S64) (h : n64 x ≤ 1048576) : Ev (fun k => laws_eqCenter.f k x.f0 x.f1 x.f2 x.f3 x.f4 x.f5 x.f0 x.f1 x.f2 x.f3 x.f4 x.f5) true := by
  unfold n64 at h
  unfold laws_eqCenter.f
  simp only [if_true, bne_self_eq_false, Bool.false_eq_true, if_false]
  repeat (first | exact Ev.now _ | (refine Ev.bind (laws_eqFactS_refl _ (by omega)) ?_; simp only [if_true, bne_self_eq_false, Bool.false_eq_true, if_false]) | (refine Ev.bind (laws_eqRevokedS_refl _ (by omega)) ?_; simp only [if_true, bne_self_eq_false, Bool.false_eq_true, if_false]) | (refine Ev.bind (laws_eqIssuerS_refl _ (by omega)) ?_; simp only [if_true, bne_self_eq_false, Bool.false_eq_true, if_false]) | (refine Ev.bind (laws_eqEpochS_refl _ (by omega)) ?_; simp only [if_true, bne_self_eq_false, Bool.false_eq_true, if_false]) | (refine Ev.bind (laws_eqCertS_refl _ (by omega)) ?_; simp only [if_true, bne_self_eq_false, Bool.false_eq_true, if_false]))

theorem laws_szIntS_le (l : List Int) (hl : l.length ≤ maxLen) (a : Int) (h0 : 0 ≤ a) (ha : a ≤ 1048576) : ∃ r, laws_szIntS.f l a = some r ∧ r ≤ 1048576 ∧ (0 ≤ r → r + (l.length : Nat) ≤ a) := by
  unfold laws_szIntS.f
  unfold maxLen at hl
  rw [wr (by omega) (by omega)]
  split
  · exact ⟨_, rfl, by omega, by omega⟩
  · exact ⟨_, rfl, by omega, by omega⟩

theorem laws_szIssuer_le (x : S154) (hg : g154 x) (a : Int) (h0 : 0 ≤ a) (ha : a ≤ 1048576) : ∃ r, laws_szIssuer.f x.f0 x.f1 x.f2 a = some r ∧ r ≤ 1048576 ∧ (0 ≤ r → r + (n154 x : Nat) ≤ a) := by
  unfold g154 at hg
  unfold n154 laws_szIssuer.f
  obtain ⟨r0, e0, b0, s0⟩ := laws_szIntS_le x.f1 (by have := hg; simp_all) a (by omega) (by omega)
  rw [e0]; simp only [Option.bind_some]
  by_cases c0 : r0 < 0
  · rw [if_pos c0]; exact ⟨_, rfl, by omega, by omega⟩
  rw [if_neg c0]
  have s0' := s0 (by omega)
  exact ⟨_, rfl, by omega, by omega⟩

theorem laws_szIssuerS_le (l : List (S154)) (hl : l.length ≤ maxLen) (hg : ∀ y_ ∈ l, g154 y_) (a : Int) (h0 : 0 ≤ a) (ha : a ≤ 1048576) : ∃ r, Ev (fun k => laws_szIssuerS.f k l a) r ∧ r ≤ 1048576 ∧ (0 ≤ r → r + (l.length + (l.map n154).sum : Nat) ≤ a) := by
  unfold laws_szIssuerS.f
  unfold maxLen at hl
  rw [wr (by omega) (by omega)]
  by_cases c : a - (l.length : Int) < 0
  · simp only [if_pos c]; exact ⟨_, Ev.now _, by omega, by omega⟩
  simp only [if_neg c]
  have hend : ∀ a, Ev (fun k => laws_szIssuerS.l0 k l a (l.length : Int)) a := by
    intro a
    refine Ev.succ ?_
    simp only [laws_szIssuerS.l0, Int.lt_irrefl, if_false]
    exact Ev.now _
  have hstep : ∀ (i : Nat) (x : S154) (a : Int), l[i]? = some x → 0 ≤ a → a ≤ 1048576 → (∃ r, Ev (fun k => laws_szIssuerS.l0 k l a (i : Int)) r ∧ r < 0) ∨ ∃ a', 0 ≤ a' ∧ a' + n154 x ≤ a ∧ ∀ r, Ev (fun k => laws_szIssuerS.l0 k l a' ((i + 1 : Nat) : Int)) r → Ev (fun k => laws_szIssuerS.l0 k l a (i : Int)) r := by
    intro i x a hx h0 ha
    have hi := lt_of_get hx
    have h1 : ((i : Int) < (l.length : Int)) = True := eq_true (by omega)
    have h2 : (0 ≤ (i : Int)) = True := eq_true (by omega)
    obtain ⟨r, e, b, s⟩ := laws_szIssuer_le x (hg x (List.mem_of_getElem? hx)) a h0 ha
    by_cases c2 : r < 0
    · left
      refine ⟨-1, Ev.succ ?_, by omega⟩
      simp only [laws_szIssuerS.l0, h1, h2, if_true, rd_at_T154 hx, e, Option.bind_some, if_pos c2]
      exact Ev.now _
    · right
      have s' := s (by omega)
      refine ⟨r, by omega, by omega, fun r' hr => Ev.succ ?_⟩
      simp only [laws_szIssuerS.l0, h1, h2, if_true, rd_at_T154 hx, e, Option.bind_some, if_neg c2, wr1 hi (by omega)]
      exact hr
  obtain ⟨r, h1, h2, h3⟩ := ev_sz n154 l (fun k a i => laws_szIssuerS.l0 k l a i) 1048576 hend hstep (a - l.length) (by omega) (by omega)
  exact ⟨r, h1, h2, fun h => by have := h3 h; omega⟩

theorem laws_szEpochS_le (l : List (S27)) (hl : l.length ≤ maxLen) (hg : ∀ y_ ∈ l, g27 y_) (a : Int) (h0 : 0 ≤ a) (ha : a ≤ 1048576) : ∃ r, Ev (fun k => laws_szEpochS.f k l a) r ∧ r ≤ 1048576 ∧ (0 ≤ r → r + (l.length + (l.map n27).sum : Nat) ≤ a) := by
  unfold laws_szEpochS.f
  unfold maxLen at hl
  rw [wr (by omega) (by omega)]
  by_cases c : a - (l.length : Int) < 0
  · simp only [if_pos c]; exact ⟨_, Ev.now _, by omega, by omega⟩
  simp only [if_neg c]
  have hend : ∀ a, Ev (fun k => laws_szEpochS.l0 k l a (l.length : Int)) a := by
    intro a
    refine Ev.succ ?_
    simp only [laws_szEpochS.l0, Int.lt_irrefl, if_false]
    exact Ev.now _
  have hstep : ∀ (i : Nat) (x : S27) (a : Int), l[i]? = some x → 0 ≤ a → a ≤ 1048576 → (∃ r, Ev (fun k => laws_szEpochS.l0 k l a (i : Int)) r ∧ r < 0) ∨ ∃ a', 0 ≤ a' ∧ a' + n27 x ≤ a ∧ ∀ r, Ev (fun k => laws_szEpochS.l0 k l a' ((i + 1 : Nat) : Int)) r → Ev (fun k => laws_szEpochS.l0 k l a (i : Int)) r := by
    intro i x a hx h0 ha
    have hi := lt_of_get hx
    have h1 : ((i : Int) < (l.length : Int)) = True := eq_true (by omega)
    have h2 : (0 ≤ (i : Int)) = True := eq_true (by omega)
    obtain ⟨r, e, b, s⟩ := laws_szEpoch_le x (hg x (List.mem_of_getElem? hx)) a h0 ha
    by_cases c2 : r < 0
    · left
      refine ⟨-1, Ev.succ ?_, by omega⟩
      simp only [laws_szEpochS.l0, h1, h2, if_true, rd_at_T27 hx]
      refine Ev.bind e ?_
      simp only [if_pos c2]
      exact Ev.now _
    · right
      have s' := s (by omega)
      refine ⟨r, by omega, by omega, fun r' hr => Ev.succ ?_⟩
      simp only [laws_szEpochS.l0, h1, h2, if_true, rd_at_T27 hx]
      refine Ev.bind e ?_
      simp only [if_neg c2, wr1 hi (by omega)]
      exact hr
  obtain ⟨r, h1, h2, h3⟩ := ev_sz n27 l (fun k a i => laws_szEpochS.l0 k l a i) 1048576 hend hstep (a - l.length) (by omega) (by omega)
  exact ⟨r, h1, h2, fun h => by have := h3 h; omega⟩

theorem laws_szCertS_le (l : List (S158)) (hl : l.length ≤ maxLen) (a : Int) (h0 : 0 ≤ a) (ha : a ≤ 1048576) : ∃ r, laws_szCertS.f l a = some r ∧ r ≤ 1048576 ∧ (0 ≤ r → r + (l.length : Nat) ≤ a) := by
  unfold laws_szCertS.f
  unfold maxLen at hl
  rw [wr (by omega) (by omega)]
  split
  · exact ⟨_, rfl, by omega, by omega⟩
  · exact ⟨_, rfl, by omega, by omega⟩

theorem laws_szCenter_le (x : S73) (hg : g73 x) (a : Int) (h0 : 0 ≤ a) (ha : a ≤ 1048576) : ∃ r, Ev (fun k => laws_szCenter.f k x.f0 x.f1 x.f2 x.f3 x.f4 x.f5 a) r ∧ r ≤ 1048576 ∧ (0 ≤ r → r + (n73 x : Nat) ≤ a) := by
  unfold g73 at hg
  unfold n73 laws_szCenter.f
  obtain ⟨r0, e0, b0, s0⟩ := laws_szIssuerS_le x.f0 (by have := hg; simp_all) (by have := hg; simp_all) a (by omega) (by omega)
  by_cases c0 : r0 < 0
  · exact ⟨-1, by refine Ev.bind e0 ?_; simp only [if_pos c0]; exact Ev.now _, by omega, by omega⟩
  have s0' := s0 (by omega)
  obtain ⟨r1, e1, b1, s1⟩ := laws_szEpochS_le x.f1 (by have := hg; simp_all) (by have := hg; simp_all) r0 (by omega) (by omega)
  by_cases c1 : r1 < 0
  · exact ⟨-1, by refine Ev.bind e0 ?_; simp only [if_neg c0]; refine Ev.bind e1 ?_; simp only [if_pos c1]; exact Ev.now _, by omega, by omega⟩
  have s1' := s1 (by omega)
  obtain ⟨r2, e2, b2, s2⟩ := laws_szFactS_le x.f2 (by have := hg; simp_all) r1 (by omega) (by omega)
  by_cases c2 : r2 < 0
  · exact ⟨-1, by refine Ev.bind e0 ?_; simp only [if_neg c0]; refine Ev.bind e1 ?_; simp only [if_neg c1]; simp only [e2, Option.bind_some]; simp only [if_pos c2]; exact Ev.now _, by omega, by omega⟩
  have s2' := s2 (by omega)
  obtain ⟨r3, e3, b3, s3⟩ := laws_szRevokedS_le x.f3 (by have := hg; simp_all) r2 (by omega) (by omega)
  by_cases c3 : r3 < 0
  · exact ⟨-1, by refine Ev.bind e0 ?_; simp only [if_neg c0]; refine Ev.bind e1 ?_; simp only [if_neg c1]; simp only [e2, Option.bind_some]; simp only [if_neg c2]; simp only [e3, Option.bind_some]; simp only [if_pos c3]; exact Ev.now _, by omega, by omega⟩
  have s3' := s3 (by omega)
  obtain ⟨r4, e4, b4, s4⟩ := laws_szCertS_le x.f5 (by have := hg; simp_all) r3 (by omega) (by omega)
  by_cases c4 : r4 < 0
  · exact ⟨-1, by refine Ev.bind e0 ?_; simp only [if_neg c0]; refine Ev.bind e1 ?_; simp only [if_neg c1]; simp only [e2, Option.bind_some]; simp only [if_neg c2]; simp only [e3, Option.bind_some]; simp only [if_neg c3]; simp only [e4, Option.bind_some]; simp only [if_pos c4]; exact Ev.now _, by omega, by omega⟩
  have s4' := s4 (by omega)
  exact ⟨r4, by refine Ev.bind e0 ?_; simp only [if_neg c0]; refine Ev.bind e1 ?_; simp only [if_neg c1]; simp only [e2, Option.bind_some]; simp only [if_neg c2]; simp only [e3, Option.bind_some]; simp only [if_neg c3]; simp only [e4, Option.bind_some]; simp only [if_neg c4]; exact Ev.now _, by omega, fun _ => by omega⟩

theorem laws_toIntS_ev (l : List Int) (h : l.length ≤ 1048576) : Ev (fun k => laws_toIntS.f k l) l := by
  unfold laws_toIntS.f
  have e : l = l.map id := by simp
  conv => rhs; rw [e]
  refine Ev.pos (by omega) (Ev.pos (by omega) ?_)
  refine ev_fill l id (fun k out i => laws_toIntS.l0 k l out i) ?_ ?_ _ (by simp)
  · intro out ho
    refine Ev.succ ?_
    simp only [laws_toIntS.l0, Int.lt_irrefl, if_false]
    exact Ev.now _
  · intro i x out r hx ho hr
    have hi := lt_of_get hx
    have h1 : ((i : Int) < (l.length : Int)) = True := eq_true (by omega)
    have h2 : (0 ≤ (i : Int)) = True := eq_true (by omega)
    have h3 : ((i : Int) < (out.length : Int)) = True := eq_true (by omega)
    refine Ev.succ ?_
    simp only [laws_toIntS.l0, h1, h2, h3, if_true, rd_nat l i x hx, wr1 hi (by omega), Int.toNat_natCast]
    exact hr

theorem laws_toIssuer_ev (x : S154) (h : n154 x ≤ 1048576) : Ev (fun k => laws_toIssuer.f k x.f0 x.f1 x.f2) ((cv154 x).f0, (cv154 x).f1, (cv154 x).f2) := by
  unfold n154 at h
  unfold laws_toIssuer.f
  repeat (first | exact Ev.now _ | (refine Ev.bind (laws_toIntS_ev _ (by omega)) ?_; try simp only []))

theorem laws_toIssuerS_ev (l : List (S154)) (h : l.length + (l.map n154).sum ≤ 1048576) : Ev (fun k => laws_toIssuerS.f k l) (l.map cv154) := by
  unfold laws_toIssuerS.f
  refine Ev.pos (by omega) (Ev.pos (by omega) ?_)
  refine ev_fill l cv154 (fun k out i => laws_toIssuerS.l0 k l out i) ?_ ?_ _ (by simp)
  · intro out ho
    refine Ev.succ ?_
    simp only [laws_toIssuerS.l0, Int.lt_irrefl, if_false]
    exact Ev.now _
  · intro i x out r hx ho hr
    have hi := lt_of_get hx
    have h1 : ((i : Int) < (l.length : Int)) = True := eq_true (by omega)
    have h2 : (0 ≤ (i : Int)) = True := eq_true (by omega)
    have h3 : ((i : Int) < (out.length : Int)) = True := eq_true (by omega)
    refine Ev.succ ?_
    simp only [laws_toIssuerS.l0, h1, h2, h3, if_true, rd_at_T154 hx, wr1 hi (by omega), Int.toNat_natCast]
    refine Ev.bind (laws_toIssuer_ev x (by have := le_sum n154 hx; omega)) ?_
    simp only [h3, if_true]
    (try simp only [eta183, eta172])
    exact hr

theorem laws_toEpochS_ev (l : List (S27)) (h : l.length + (l.map n27).sum ≤ 1048576) : Ev (fun k => laws_toEpochS.f k l) (l.map cv27) := by
  unfold laws_toEpochS.f
  refine Ev.pos (by omega) (Ev.pos (by omega) ?_)
  refine ev_fill l cv27 (fun k out i => laws_toEpochS.l0 k l out i) ?_ ?_ _ (by simp)
  · intro out ho
    refine Ev.succ ?_
    simp only [laws_toEpochS.l0, Int.lt_irrefl, if_false]
    exact Ev.now _
  · intro i x out r hx ho hr
    have hi := lt_of_get hx
    have h1 : ((i : Int) < (l.length : Int)) = True := eq_true (by omega)
    have h2 : (0 ≤ (i : Int)) = True := eq_true (by omega)
    have h3 : ((i : Int) < (out.length : Int)) = True := eq_true (by omega)
    refine Ev.succ ?_
    simp only [laws_toEpochS.l0, h1, h2, h3, if_true, rd_at_T27 hx, wr1 hi (by omega), Int.toNat_natCast]
    refine Ev.bind (laws_toEpoch_ev x (by have := le_sum n27 hx; omega)) ?_
    simp only [h3, if_true]
    (try simp only [eta183, eta172])
    exact hr

theorem laws_toCert_eq (x : S158) : laws_toCert.f x.f0 x.f1 x.f2 x.f3 x.f4 x.f5 = some ((cv158 x).f0, (cv158 x).f1, (cv158 x).f2, (cv158 x).f3, (cv158 x).f4, (cv158 x).f5) := by
  unfold laws_toCert.f
  first | rfl | (simp only [Option.bind_some]; rfl)

theorem laws_toCertS_ev (l : List (S158)) (h : l.length ≤ 1048576) : Ev (fun k => laws_toCertS.f k l) (l.map cv158) := by
  unfold laws_toCertS.f
  refine Ev.pos (by omega) (Ev.pos (by omega) ?_)
  refine ev_fill l cv158 (fun k out i => laws_toCertS.l0 k l out i) ?_ ?_ _ (by simp)
  · intro out ho
    refine Ev.succ ?_
    simp only [laws_toCertS.l0, Int.lt_irrefl, if_false]
    exact Ev.now _
  · intro i x out r hx ho hr
    have hi := lt_of_get hx
    have h1 : ((i : Int) < (l.length : Int)) = True := eq_true (by omega)
    have h2 : (0 ≤ (i : Int)) = True := eq_true (by omega)
    have h3 : ((i : Int) < (out.length : Int)) = True := eq_true (by omega)
    refine Ev.succ ?_
    simp only [laws_toCertS.l0, h1, h2, h3, if_true, rd_at_T158 hx, wr1 hi (by omega), Int.toNat_natCast, laws_toCert_eq x, Option.bind_some]
    exact hr

theorem laws_toCenter_ev (x : S73) (h : n73 x ≤ 1048576) : Ev (fun k => laws_toCenter.f k x.f0 x.f1 x.f2 x.f3 x.f4 x.f5) ((cv73 x).f0, (cv73 x).f1, (cv73 x).f2, (cv73 x).f3, (cv73 x).f4, (cv73 x).f5) := by
  unfold n73 at h
  unfold laws_toCenter.f
  repeat (first | exact Ev.now _ | (refine Ev.bind (laws_toFactS_ev _ (by omega)) ?_; try simp only []) | (refine Ev.bind (laws_toRevokedS_ev _ (by omega)) ?_; try simp only []) | (refine Ev.bind (laws_toIssuerS_ev _ (by omega)) ?_; try simp only []) | (refine Ev.bind (laws_toEpochS_ev _ (by omega)) ?_; try simp only []) | (refine Ev.bind (laws_toCertS_ev _ (by omega)) ?_; try simp only []))

theorem spec_l1In_eq (a b c : Int) : spec_l1In.f a b c = some (inB a b c) := by
  unfold spec_l1In.f
  rw [ite_dand]; rfl

theorem spec_IsTime_eq (a : Int) : spec_IsTime.f a = some (timeB a) := by
  unfold spec_IsTime.f
  rw [spec_l1In_eq]; rfl

def ageV (a b : Int) : Int := if timeB a = true ∧ timeB b = true ∧ a ≤ b then b - a else -1
def freshV (a b m : Int) : Bool := if ageV a b = -1 then false else decide (ageV a b ≤ m)
theorem timeAt {t : Int} (h : timeB t = true) : 0 ≤ t ∧ t ≤ 10000 := inB_iff.1 h
theorem ageV_cases (a b : Int) : ageV a b = -1 ∨ 0 ≤ ageV a b := by
  unfold ageV
  split
  · right; omega
  · left; rfl
theorem spec_AgeOf_eq (a b : Int) : spec_AgeOf.f a b = some (ageV a b) := by
  unfold spec_AgeOf.f ageV
  simp only [spec_IsTime_eq, Option.bind_some]
  by_cases c1 : timeB a = true
  · by_cases c2 : timeB b = true
    · have h1 := timeAt c1
      have h2 := timeAt c2
      by_cases c3 : a > b
      · simp only [if_pos c1, if_pos c2, if_pos c3, if_neg (show ¬ (timeB a = true ∧ timeB b = true ∧ a ≤ b) from fun h => by omega)]
      · simp only [if_pos c1, if_pos c2, if_neg c3, if_pos (show timeB a = true ∧ timeB b = true ∧ a ≤ b from ⟨c1, c2, by omega⟩), wr (x := b - a) (by omega) (by omega)]
    · simp only [if_pos c1, if_neg c2, if_neg (show ¬ (timeB a = true ∧ timeB b = true ∧ a ≤ b) from fun h => c2 h.2.1)]
  · simp only [if_neg c1, if_neg (show ¬ (timeB a = true ∧ timeB b = true ∧ a ≤ b) from fun h => c1 h.1)]

theorem spec_IsFresh_eq (a b m : Int) : spec_IsFresh.f a b m = some (freshV a b m) := by
  unfold spec_IsFresh.f freshV
  simp only [spec_AgeOf_eq, Option.bind_some]
  rcases ageV_cases a b with h | h
  · rw [if_neg (by omega), if_pos h]
  · rw [if_pos (by omega), if_neg (by omega)]

theorem spec_IsCurrent_eq (a0 a1 a2 l3 a4 l5 l6 l7 a8 l9 n) : spec_IsCurrent.f a0 a1 a2 l3 a4 l5 l6 l7 a8 l9 n = some (freshV a8 n 10) := by
  unfold spec_IsCurrent.f
  simp only [spec_IsFresh_eq, Option.bind_some]

def endB (a b : Int) : Int := if timeB a = true ∧ timeB b = true then (if 10000 < a + b then 10000 else a + b) else 0
def numStep (t : Int) (s : Int) (x : S40) : Int := if x.f1 ≤ t then x.f0 else s
def numV (l : List S40) (t : Int) : Int := l.foldl (numStep t) 0
def leaseB (n f u : Int) : Bool := inB n 1 999 && (timeB f && (timeB u && (decide (f ≤ u) && decide (u - f ≤ 10))))
def takeLV (l : List S40) (now span : Int) : Int × Int × Int × Bool := if leaseB (numV l now) now (endB now span) = true ∧ ¬ span < 0 then (numV l now, now, endB now span, true) else (0, 0, 0, false)
def renewV (a b c : Int) (l : List S40) (now span : Int) : Int × Int × Int × Bool := if (takeLV l now span).2.2.2 = true ∧ ¬ (takeLV l now span).1 < a then ((takeLV l now span).1, (takeLV l now span).2.1, (takeLV l now span).2.2.1, true) else (a, b, c, false)
theorem timeB_iff {t : Int} : timeB t = true ↔ 0 ≤ t ∧ t ≤ 10000 := inB_iff
theorem idxV_in {α : Type} (p : α → Bool) (l : List α) (h : ¬ idxV p l 0 < 0) : 0 ≤ idxV p l 0 ∧ idxV p l 0 < (l.length : Int) := by
  rcases idxV_spec p l with ⟨h1, _⟩ | ⟨j, x, h1, h2, _⟩
  · omega
  · have := lt_of_get h2; omega
def revAt (l : List S99) (n : Int) : Int := if idxV (fun x => x.f0 == n) l 0 < 0 then -1 else (rd_T99 l (idxV (fun x => x.f0 == n) l 0)).f1
def knowsB (a b : List S99) : Bool := !(b.any fun x => !inB (revAt a x.f0) 0 x.f1)
def behB (ep : List S40) (n : Int) (a b : List S99) (now : Int) : Bool := if n = numV ep now then !knowsB a b else true
theorem spec_RevokedAt_ev (l : List S99) (n : Int) (h : l.length ≤ 1048576) : Ev (fun k => spec_RevokedAt.f k l n) (revAt l n) := by
  unfold spec_RevokedAt.f revAt
  refine ev_idx l (fun x => x.f0 == n) (fun i => if i < 0 then -1 else (rd_T99 l i).f1) (fun k i => spec_RevokedAt.l0 k l n i) ?_ ?_
  · refine Ev.succ ?_
    simp only [spec_RevokedAt.l0, Int.lt_irrefl, if_false]
    exact Ev.now _
  · intro i x hx
    have hi := lt_of_get hx
    have h1 : ((i : Int) < (l.length : Int)) = True := eq_true (by omega)
    have h2 : (0 ≤ (i : Int)) = True := eq_true (by omega)
    constructor
    · intro c r hr
      have c' : ¬ x.f0 = n := by simpa using c
      refine Ev.succ ?_
      simp only [spec_RevokedAt.l0, h1, h2, if_true, rd_at_T99 hx, wr1 hi (by omega), if_neg c']
      exact hr
    · intro c
      have c' : x.f0 = n := by simpa using c
      refine Ev.succ ?_
      simp only [spec_RevokedAt.l0, h1, h2, if_true, rd_at_T99 hx, if_pos c', if_neg (show ¬ (i : Int) < 0 by omega)]
      exact Ev.now _

theorem spec_IsRevoked_ev (l : List S99) (n t : Int) (h : l.length ≤ 1048576) : Ev (fun k => spec_IsRevoked.f k l n t) (inB (revAt l n) 0 t) := by
  unfold spec_IsRevoked.f inB
  refine Ev.bind (spec_RevokedAt_ev l n h) ?_
  by_cases c : revAt l n ≥ 0
  · simp only [if_pos c, decide_eq_true (show 0 ≤ revAt l n from c), Bool.true_and]; exact Ev.now _
  · simp only [if_neg c, decide_eq_false (show ¬ 0 ≤ revAt l n from c), Bool.false_and]; exact Ev.now _

theorem spec_Min_eq (a b : Int) : spec_Min.f a b = some (if b < a then b else a) := by
  unfold spec_Min.f; split <;> rfl

theorem spec_EndOf_eq (a b : Int) : spec_EndOf.f a b = some (endB a b) := by
  unfold spec_EndOf.f endB
  simp only [spec_IsTime_eq, spec_Min_eq, Option.bind_some]
  by_cases c : timeB a = true
  · by_cases c2 : timeB b = true
    · have h1 := timeB_iff.1 c
      have h2 := timeB_iff.1 (show timeB b = true from c2)
      simp only [if_pos c, if_pos c2, if_pos (show timeB a = true ∧ timeB b = true from ⟨c, c2⟩), wr (x := a + b) (by omega) (by omega)]
      by_cases c3 : a + b < 10000
      · rw [if_pos c3, if_neg (by omega)]
      · rw [if_neg c3]; by_cases c4 : 10000 < a + b
        · rw [if_pos c4]
        · rw [if_neg c4]; congr 1; omega
    · simp only [if_pos c, if_neg c2, if_neg (show ¬ (timeB a = true ∧ timeB b = true) from fun h => c2 h.2)]
  · simp only [if_neg c, if_neg (show ¬ (timeB a = true ∧ timeB b = true) from fun h => c h.1)]

def expV (rx rp : List S99) (at_ n t : Int) : Int := if inB (revAt rx n) 0 t = true then (if revAt rp n ≥ 0 then 0 else if freshV at_ t 10 = true then wrap64 (wrap64 (endB at_ 10 - t) + 1) else 0) else 0
theorem spec_Exposure_ev (l0 l1 l2 l3 a4 l5 b0 b1 b2 m3 b4 m5 m6 m7 b8 m9 n t) (h3 : l3.length ≤ 1048576) (h7 : m7.length ≤ 1048576) : Ev (fun k => spec_Exposure.f k l0 l1 l2 l3 a4 l5 b0 b1 b2 m3 b4 m5 m6 m7 b8 m9 n t) (expV l3 m7 b8 n t) := by
  unfold spec_Exposure.f expV
  refine Ev.bind (spec_IsRevoked_ev l3 n t h3) ?_
  by_cases c : inB (revAt l3 n) 0 t = true
  · simp only [if_pos c]
    refine Ev.bind (spec_RevokedAt_ev m7 n h7) ?_
    by_cases c2 : revAt m7 n ≥ 0
    · simp only [if_pos c2]; exact Ev.now _
    · simp only [if_neg c2, spec_IsCurrent_eq, Option.bind_some]
      by_cases c3 : freshV b8 t 10 = true
      · simp only [if_pos c3, spec_EndOf_eq, Option.bind_some]; exact Ev.now _
      · simp only [if_neg c3]; exact Ev.now _
  · simp only [if_neg c]; exact Ev.now _

theorem impl_InRange_eq (a b c : Int) : impl_InRange.f a b c = some (inB a b c) := by
  unfold impl_InRange.f
  rw [ite_dand]; rfl

theorem impl_IsTime_eq (a : Int) : impl_IsTime.f a = some (timeB a) := by
  unfold impl_IsTime.f
  rw [impl_InRange_eq]; rfl

theorem impl_AgeOf_eq (a b : Int) : impl_AgeOf.f a b = some (ageV a b) := by
  unfold impl_AgeOf.f ageV
  simp only [impl_IsTime_eq, Option.bind_some]
  by_cases c1 : timeB a = true
  · by_cases c2 : timeB b = true
    · have h1 := timeAt c1
      have h2 := timeAt c2
      by_cases c3 : a > b
      · simp only [if_pos c1, if_pos c2, if_pos c3, if_neg (show ¬ (timeB a = true ∧ timeB b = true ∧ a ≤ b) from fun h => by omega)]
      · simp only [if_pos c1, if_pos c2, if_neg c3, if_pos (show timeB a = true ∧ timeB b = true ∧ a ≤ b from ⟨c1, c2, by omega⟩), wr (x := b - a) (by omega) (by omega)]
    · simp only [if_pos c1, if_neg c2, if_neg (show ¬ (timeB a = true ∧ timeB b = true ∧ a ≤ b) from fun h => c2 h.2.1)]
  · simp only [if_neg c1, if_neg (show ¬ (timeB a = true ∧ timeB b = true ∧ a ≤ b) from fun h => c1 h.1)]

theorem impl_IsFresh_eq (a b m : Int) : impl_IsFresh.f a b m = some (freshV a b m) := by
  unfold impl_IsFresh.f freshV
  simp only [impl_AgeOf_eq, Option.bind_some]
  split <;> rfl

theorem impl_IsCurrent_eq (a0 a1 a2 l3 a4 l5 l6 l7 a8 l9 n) : impl_IsCurrent.f a0 a1 a2 l3 a4 l5 l6 l7 a8 l9 n = some (freshV a8 n 10) := by
  unfold impl_IsCurrent.f
  simp only [impl_IsFresh_eq, Option.bind_some]

theorem impl_RevokedAt_eq (l : List S99) (n : Int) : impl_RevokedAt.f l n = some (revAt l n) := by
  unfold impl_RevokedAt.f revAt
  rw [idxO_total (fun x : S99 => x.f0 == n) l 0, Option.bind_some]
  by_cases c : idxV (fun x : S99 => x.f0 == n) l 0 < 0
  · rw [if_pos c, if_pos c]
  · rw [if_neg c, if_neg c, if_pos (idxV_in _ l c).2]

theorem impl_IsRevoked_eq (l : List S99) (n t : Int) : impl_IsRevoked.f l n t = some (inB (revAt l n) 0 t) := by
  unfold impl_IsRevoked.f
  simp only [impl_RevokedAt_eq, impl_InRange_eq, Option.bind_some]

theorem impl_EndOf_eq (a b : Int) : impl_EndOf.f a b = some (endB a b) := by
  unfold impl_EndOf.f endB
  simp only [impl_IsTime_eq, impl_InRange_eq, Option.bind_some]
  by_cases c : timeB a = true
  · by_cases c2 : inB b 0 10000 = true
    · have h1 := timeB_iff.1 c
      have h2 := timeB_iff.1 (show timeB b = true from c2)
      simp only [if_pos c, if_pos c2, if_pos (show timeB a = true ∧ timeB b = true from ⟨c, c2⟩), wr (x := a + b) (by omega) (by omega)]
      rfl
    · simp only [if_pos c, if_neg c2, if_neg (show ¬ (timeB a = true ∧ timeB b = true) from fun h => c2 h.2)]
  · simp only [if_neg c, if_neg (show ¬ (timeB a = true ∧ timeB b = true) from fun h => c h.1)]

theorem impl_Exposure_eq (l0 l1 l2 l3 a4 l5 b0 b1 b2 m3 b4 m5 m6 m7 b8 m9 n t) : impl_Exposure.f l0 l1 l2 l3 a4 l5 b0 b1 b2 m3 b4 m5 m6 m7 b8 m9 n t = some (expV l3 m7 b8 n t) := by
  unfold impl_Exposure.f expV
  simp only [impl_IsRevoked_eq, impl_RevokedAt_eq, Option.bind_some]
  by_cases c : inB (revAt l3 n) 0 t = true
  · simp only [if_pos c]
    by_cases c2 : revAt m7 n ≥ 0
    · simp only [if_pos c2]
    · simp only [if_neg c2, impl_IsCurrent_eq, Option.bind_some]
      by_cases c3 : freshV b8 t 10 = true
      · simp only [if_pos c3, impl_EndOf_eq, Option.bind_some]
      · simp only [if_neg c3]
  · simp only [if_neg c]

theorem FnExactExposure : laws_FnExactExposure.Pure := by
  intro x y n now hx hy _ _
  refine Ev.rounds ?_
  unfold laws_FnExactExposure.f
  obtain ⟨r, e, hr1, hr⟩ := laws_szCenter_le x hx 1048576 (by omega) (by omega)
  refine Ev.bind e ?_
  by_cases c : r < 0
  · simp only [if_pos c]; exact Ev.now _
  simp only [if_neg c]
  have hb := hr (by omega)
  obtain ⟨r2, e2, hr2, hr3⟩ := laws_szPoint_le y hy r (by omega) (by omega)
  refine Ev.bind e2 ?_
  by_cases c2 : r2 < 0
  · simp only [if_pos c2]; exact Ev.now _
  simp only [if_neg c2]
  have hb2 := hr3 (by omega)
  have hmx : n64 (cv73 x) ≤ 1048576 := by rw [ncv73]; omega
  have hmy : n45 (cv32 y) ≤ 1048576 := by rw [ncv32]; omega
  have hx1 : (cv73 x).f1.length ≤ 1048576 := by unfold n64 at hmx; omega
  have hx3 : (cv73 x).f3.length ≤ 1048576 := by unfold n64 at hmx; omega
  have hy3 : (cv32 y).f3.length ≤ 1048576 := by unfold n45 at hmy; omega
  repeat (first
    | exact Ev.now _
    | ((first | refine Ev.bind (laws_toCenter_ev x (by omega)) ?_ | refine Ev.bind (laws_toPoint_ev y (by omega)) ?_ | refine Ev.bind (spec_Exposure_ev _ _ _ _ _ _ _ _ _ _ _ _ _ _ _ _ n now hx3 hy3) ?_ | refine Ev.bind (laws_eqCenter_refl _ hmx) ?_ | refine Ev.bind (laws_eqPoint_refl _ hmy) ?_); try simp only [])
    | simp only [impl_Exposure_eq, Option.bind_some, bne_self_eq_false, Bool.false_eq_true, if_false, if_true])

end Go.Proofs.Ytineejdlpcgnkaa.Pure
