/- The law FnExactCenterIssue answers true for all arguments, over numbers and lists alone: what each function computes, and that program and reference compute the same. No condition. -/
import Derived.Test.YthliecjiafjokaaGreatQFnExactCenterIssuex0
import Derived.Test.YthliecjiafjokaaGreatL
namespace Go.Proofs.YthliecjiafjokaaGreat.Pure
open Go.RowKit Go.Proofs.YthliecjiafjokaaGreat.QFnExactCenterIssue Go.Proofs.YthliecjiafjokaaGreatL Go.Proofs.YthliecjiafjokaaGreatW.PrintWords Go.Proofs.YthliecjiafjokaaGreatW.PrintLast
set_option linter.unusedVariables false
set_option linter.unusedSimpArgs false

def cv71 (x : S71) : S86 := ⟨x.f0, x.f1, x.f2⟩
def n71 (x : S71) : Nat := x.f1.length
def cv136 (x : S136) : S125 := ⟨x.f0, x.f1⟩
theorem eta144 (x : S144) : (⟨x.f0, x.f1, x.f2, x.f3⟩ : S144) = x := by cases x; rfl
mutual
def n144 : S144 → Nat
  | ⟨x0, x1, x2, x3⟩ => x3.length + nL144 x3
def nL144 : List S144 → Nat
  | [] => 0
  | x :: l => n144 x + nL144 l
end
theorem nL144_eq : ∀ l : List S144, nL144 l = (l.map n144).sum
  | [] => by simp [nL144]
  | x :: l => by simp [nL144, nL144_eq l]
theorem n144_f (x : S144) : n144 x = x.f3.length + (x.f3.map n144).sum := by
  cases x
  simp only [n144, nL144_eq]
mutual
def cv144 : S144 → S128
  | ⟨x0, x1, x2, x3⟩ => ⟨x0, x1, x2, cvL144 x3⟩
def cvL144 : List S144 → List S128
  | [] => []
  | x :: l => cv144 x :: cvL144 l
end
theorem cvL144_eq : ∀ l : List S144, cvL144 l = l.map cv144
  | [] => by simp [cvL144]
  | x :: l => by simp [cvL144, cvL144_eq l]
theorem cv144_f (x : S144) : cv144 x = ⟨x.f0, x.f1, x.f2, x.f3.map cv144⟩ := by
  cases x
  simp only [cv144, cvL144_eq]
def cv146 (x : S146) : S130 := ⟨x.f0, x.f1, x.f2, (cv144 x.f3)⟩
def n146 (x : S146) : Nat := n144 x.f3
def cv76 (x : S76) : S91 := ⟨x.f0, (x.f1.map cv146)⟩
def n76 (x : S76) : Nat := x.f1.length + (x.f1.map n146).sum
def cv78 (x : S78) : S93 := ⟨x.f0, x.f1, (x.f2.map cv136), (cv76 x.f3)⟩
def n78 (x : S78) : Nat := x.f2.length + n76 x.f3
def cv98 (x : S98) : S96 := ⟨x.f0, x.f1, x.f2, x.f3, x.f4, x.f5⟩
def cv102 (x : S102) : S100 := ⟨x.f0, x.f1⟩
def cv104 (x : S104) : S50 := ⟨x.f0, x.f1, x.f2, x.f3, x.f4, x.f5⟩
def cv28 (x : S28) : S36 := ⟨(x.f0.map cv71), (x.f1.map cv78), (x.f2.map cv98), (x.f3.map cv102), x.f4, (x.f5.map cv104)⟩
def n28 (x : S28) : Nat := x.f0.length + (x.f0.map n71).sum + x.f1.length + (x.f1.map n78).sum + x.f2.length + x.f3.length + x.f5.length
def n86 (x : S86) : Nat := x.f1.length
theorem eta128 (x : S128) : (⟨x.f0, x.f1, x.f2, x.f3⟩ : S128) = x := by cases x; rfl
mutual
def n128 : S128 → Nat
  | ⟨x0, x1, x2, x3⟩ => x3.length + nL128 x3
def nL128 : List S128 → Nat
  | [] => 0
  | x :: l => n128 x + nL128 l
end
theorem nL128_eq : ∀ l : List S128, nL128 l = (l.map n128).sum
  | [] => by simp [nL128]
  | x :: l => by simp [nL128, nL128_eq l]
theorem n128_f (x : S128) : n128 x = x.f3.length + (x.f3.map n128).sum := by
  cases x
  simp only [n128, nL128_eq]
def n130 (x : S130) : Nat := n128 x.f3
def n91 (x : S91) : Nat := x.f1.length + (x.f1.map n130).sum
def n93 (x : S93) : Nat := x.f2.length + n91 x.f3
def n36 (x : S36) : Nat := x.f0.length + (x.f0.map n86).sum + x.f1.length + (x.f1.map n93).sum + x.f2.length + x.f3.length + x.f5.length
theorem rd_at_T71 {l : List S71} {i : Nat} {x : S71} (h : l[i]? = some x) : rd_T71 l (i : Int) = x := getD_nat l _ i x h
theorem rd_at_T136 {l : List S136} {i : Nat} {x : S136} (h : l[i]? = some x) : rd_T136 l (i : Int) = x := getD_nat l _ i x h
theorem rd_at_T144 {l : List S144} {i : Nat} {x : S144} (h : l[i]? = some x) : rd_T144 l (i : Int) = x := getD_nat l _ i x h
theorem rd_at_T146 {l : List S146} {i : Nat} {x : S146} (h : l[i]? = some x) : rd_T146 l (i : Int) = x := getD_nat l _ i x h
theorem rd_at_T78 {l : List S78} {i : Nat} {x : S78} (h : l[i]? = some x) : rd_T78 l (i : Int) = x := getD_nat l _ i x h
theorem rd_at_T98 {l : List S98} {i : Nat} {x : S98} (h : l[i]? = some x) : rd_T98 l (i : Int) = x := getD_nat l _ i x h
theorem rd_at_T102 {l : List S102} {i : Nat} {x : S102} (h : l[i]? = some x) : rd_T102 l (i : Int) = x := getD_nat l _ i x h
theorem rd_at_T104 {l : List S104} {i : Nat} {x : S104} (h : l[i]? = some x) : rd_T104 l (i : Int) = x := getD_nat l _ i x h
theorem rd_at_T86 {l : List S86} {i : Nat} {x : S86} (h : l[i]? = some x) : rd_T86 l (i : Int) = x := getD_nat l _ i x h
theorem rd_at_T128 {l : List S128} {i : Nat} {x : S128} (h : l[i]? = some x) : rd_T128 l (i : Int) = x := getD_nat l _ i x h
theorem rd_at_T130 {l : List S130} {i : Nat} {x : S130} (h : l[i]? = some x) : rd_T130 l (i : Int) = x := getD_nat l _ i x h
theorem rd_at_T125 {l : List S125} {i : Nat} {x : S125} (h : l[i]? = some x) : rd_T125 l (i : Int) = x := getD_nat l _ i x h
theorem rd_at_T93 {l : List S93} {i : Nat} {x : S93} (h : l[i]? = some x) : rd_T93 l (i : Int) = x := getD_nat l _ i x h
theorem rd_at_T96 {l : List S96} {i : Nat} {x : S96} (h : l[i]? = some x) : rd_T96 l (i : Int) = x := getD_nat l _ i x h
theorem rd_at_T100 {l : List S100} {i : Nat} {x : S100} (h : l[i]? = some x) : rd_T100 l (i : Int) = x := getD_nat l _ i x h
theorem rd_at_T50 {l : List S50} {i : Nat} {x : S50} (h : l[i]? = some x) : rd_T50 l (i : Int) = x := getD_nat l _ i x h
def eqT125 (x y : S125) : Bool := (x.f0 == y.f0) && ((x.f1 == y.f1))
def eqT96 (x y : S96) : Bool := (x.f0 == y.f0) && ((x.f1 == y.f1) && ((x.f2 == y.f2) && ((x.f3 == y.f3) && ((x.f4 == y.f4) && ((x.f5 == y.f5))))))
def eqT100 (x y : S100) : Bool := (x.f0 == y.f0) && ((x.f1 == y.f1))
def eqT50 (x y : S50) : Bool := (x.f0 == y.f0) && ((x.f1 == y.f1) && ((x.f2 == y.f2) && ((x.f3 == y.f3) && ((x.f4 == y.f4) && ((x.f5 == y.f5))))))
theorem ncv71 (x : S71) : n86 (cv71 x) = n71 x := by
  simp only [cv71, n86, n71, List.length_map, List.map_map, Function.comp_def]
theorem ncvN144 (l : List S144) : (cvL144 l).length = l.length := by rw [cvL144_eq, List.length_map]
mutual
theorem ncv144 : ∀ x : S144, n128 (cv144 x) = n144 x
  | ⟨x0, x1, x2, x3⟩ => by simp only [cv144, n128, n144, ncvL144 x3, ncvN144 x3]
theorem ncvL144 : ∀ l : List S144, nL128 (cvL144 l) = nL144 l
  | [] => by simp [cvL144, nL128, nL144]
  | x :: l => by simp only [cvL144, nL128, nL144, ncv144 x, ncvL144 l]
end
theorem ncv146 (x : S146) : n130 (cv146 x) = n146 x := by
  simp only [cv146, n130, n146, List.length_map, List.map_map, Function.comp_def, ncv144]
theorem ncv76 (x : S76) : n91 (cv76 x) = n76 x := by
  simp only [cv76, n91, n76, List.length_map, List.map_map, Function.comp_def, ncv146]
theorem ncv78 (x : S78) : n93 (cv78 x) = n78 x := by
  simp only [cv78, n93, n78, List.length_map, List.map_map, Function.comp_def, ncv76]
theorem ncv28 (x : S28) : n36 (cv28 x) = n28 x := by
  simp only [cv28, n36, n28, List.length_map, List.map_map, Function.comp_def, ncv71, ncv78]

-- laws_szIntS
theorem laws_szIntS_le (l : List Int) (hl : l.length ≤ maxLen) (a : Int) (h0 : 0 ≤ a) (ha : a ≤ 2097152) : ∃ r, laws_szIntS.f l a = some r ∧ r ≤ 2097152 ∧ (0 ≤ r → r + (l.length : Nat) ≤ a) := by
  unfold laws_szIntS.f
  unfold maxLen at hl
  rw [wr (by omega) (by omega)]
  split
  · exact ⟨_, rfl, by omega, by omega⟩
  · exact ⟨_, rfl, by omega, by omega⟩

-- laws_szIssuer
theorem laws_szIssuer_le (x : S71) (hg : g71 x) (a : Int) (h0 : 0 ≤ a) (ha : a ≤ 2097152) : ∃ r, laws_szIssuer.f x.f0 x.f1 x.f2 a = some r ∧ r ≤ 2097152 ∧ (0 ≤ r → r + (n71 x : Nat) ≤ a) := by
  unfold g71 at hg
  unfold n71 laws_szIssuer.f
  obtain ⟨r0, e0, b0, s0⟩ := laws_szIntS_le x.f1 (by have := hg; simp_all) a (by omega) (by omega)
  rw [e0]; simp only [Option.bind_some]
  by_cases c0 : r0 < 0
  · rw [if_pos c0]; exact ⟨_, rfl, by omega, by omega⟩
  rw [if_neg c0]
  have s0' := s0 (by omega)
  exact ⟨_, rfl, by omega, by omega⟩

-- laws_szIssuerS
theorem laws_szIssuerS_le (l : List (S71)) (hl : l.length ≤ maxLen) (hg : ∀ y_ ∈ l, g71 y_) (a : Int) (h0 : 0 ≤ a) (ha : a ≤ 2097152) : ∃ r, Ev (fun k => laws_szIssuerS.f k l a) r ∧ r ≤ 2097152 ∧ (0 ≤ r → r + (l.length + (l.map n71).sum : Nat) ≤ a) := by
  unfold laws_szIssuerS.f
  unfold maxLen at hl
  rw [wr (by omega) (by omega)]
  by_cases c : a - (l.length : Int) < 0
  · simp only [if_pos c]; exact ⟨_, Ev.now _, by omega, by omega⟩
  simp only [if_neg c]
  have hend : ∀ a, Ev (fun k => laws_szIssuerS.l0 k l a (l.length : Int)) a := by
    intro a
    refine Ev.succ ?_
    simp only [laws_szIssuerS.l0, Int.lt_irrefl, if_false]
    exact Ev.now _
  have hstep : ∀ (i : Nat) (x : S71) (a : Int), l[i]? = some x → 0 ≤ a → a ≤ 2097152 → (∃ r, Ev (fun k => laws_szIssuerS.l0 k l a (i : Int)) r ∧ r < 0) ∨ ∃ a', 0 ≤ a' ∧ a' + n71 x ≤ a ∧ ∀ r, Ev (fun k => laws_szIssuerS.l0 k l a' ((i + 1 : Nat) : Int)) r → Ev (fun k => laws_szIssuerS.l0 k l a (i : Int)) r := by
    intro i x a hx h0 ha
    have hi := lt_of_get hx
    have h1 : ((i : Int) < (l.length : Int)) = True := eq_true (by omega)
    have h2 : (0 ≤ (i : Int)) = True := eq_true (by omega)
    obtain ⟨r, e, b, s⟩ := laws_szIssuer_le x (hg x (List.mem_of_getElem? hx)) a h0 ha
    by_cases c2 : r < 0
    · left
      refine ⟨-1, Ev.succ ?_, by omega⟩
      simp only [laws_szIssuerS.l0, h1, h2, if_true, rd_at_T71 hx, e, Option.bind_some, if_pos c2]
      exact Ev.now _
    · right
      have s' := s (by omega)
      refine ⟨r, by omega, by omega, fun r' hr => Ev.succ ?_⟩
      simp only [laws_szIssuerS.l0, h1, h2, if_true, rd_at_T71 hx, e, Option.bind_some, if_neg c2, wr1 hi (by omega)]
      exact hr
  obtain ⟨r, h1, h2, h3⟩ := ev_sz n71 l (fun k a i => laws_szIssuerS.l0 k l a i) 2097152 hend hstep (a - l.length) (by omega) (by omega)
  exact ⟨r, h1, h2, fun h => by have := h3 h; omega⟩

-- laws_szIncludesS
theorem laws_szIncludesS_le (l : List (S136)) (hl : l.length ≤ maxLen) (a : Int) (h0 : 0 ≤ a) (ha : a ≤ 2097152) : ∃ r, laws_szIncludesS.f l a = some r ∧ r ≤ 2097152 ∧ (0 ≤ r → r + (l.length : Nat) ≤ a) := by
  unfold laws_szIncludesS.f
  unfold maxLen at hl
  rw [wr (by omega) (by omega)]
  split
  · exact ⟨_, rfl, by omega, by omega⟩
  · exact ⟨_, rfl, by omega, by omega⟩

-- laws_szCondS
theorem gin144 {x : S144} (h : g144 x) : x.f3.length ≤ maxLen ∧ ∀ y ∈ x.f3, g144 y := by
  obtain ⟨k, h⟩ := h
  cases k with
  | zero => exact h.elim
  | succ k =>
    obtain ⟨_, _, _, h1, h2⟩ := (show GF144 _ x from h)
    exact ⟨h1, fun y hy => ⟨k, h2 y hy⟩⟩
theorem laws_szCondS_leN (N : Nat) : ∀ (l : List S144) (hl : l.length ≤ maxLen) (hg : ∀ y ∈ l, g144 y) (a : Int), 0 ≤ a → a ≤ 2097152 → a.toNat ≤ N → ∃ r, Ev (fun k => laws_szCondS.f k l a) r ∧ r ≤ 2097152 ∧ (0 ≤ r → r + (l.length + (l.map n144).sum : Nat) ≤ a) := by
  induction N using Nat.strongRecOn with
  | _ N ih =>
  intro l hl hg a h0 ha hN
  unfold maxLen at hl
  by_cases c : a - (l.length : Int) < 0
  · refine ⟨-1, Ev.succ ?_, by omega, by omega⟩
    simp only [laws_szCondS.f, wr (x := a - (l.length : Int)) (by omega) (by omega), if_pos c]
    exact Ev.now _
  have hend : ∀ a, Ev (fun k => laws_szCondS.l0 k l a (l.length : Int)) a := by
    intro a
    refine Ev.succ ?_
    simp only [laws_szCondS.l0, Int.lt_irrefl, if_false]
    exact Ev.now _
  have hstep : ∀ (i : Nat) (x : S144) (b : Int), l[i]? = some x → 0 ≤ b → b ≤ a - (l.length : Int) → (∃ r, Ev (fun k => laws_szCondS.l0 k l b (i : Int)) r ∧ r < 0) ∨ ∃ a', 0 ≤ a' ∧ a' + n144 x ≤ b ∧ ∀ r, Ev (fun k => laws_szCondS.l0 k l a' ((i + 1 : Nat) : Int)) r → Ev (fun k => laws_szCondS.l0 k l b (i : Int)) r := by
    intro i x b hx hb0 hba
    have hi := lt_of_get hx
    have h1 : ((i : Int) < (l.length : Int)) = True := eq_true (by omega)
    have h2 : (0 ≤ (i : Int)) = True := eq_true (by omega)
    have hgx := gin144 (hg x (List.mem_of_getElem? hx))
    obtain ⟨r, e, br, s⟩ := ih b.toNat (by omega) x.f3 hgx.1 hgx.2 b hb0 (by omega) (Nat.le_refl _)
    have e' : Ev (fun k => laws_szCond.f k x.f0 x.f1 x.f2 x.f3 b) (if r < 0 then -1 else r) := by
      refine Ev.succ ?_
      simp only [laws_szCond.f]
      refine Ev.bind e ?_
      by_cases c2 : r < 0
      · simp only [if_pos c2]; exact Ev.now _
      · simp only [if_neg c2]; exact Ev.now _
    by_cases c2 : r < 0
    · left
      rw [if_pos c2] at e'
      refine ⟨-1, Ev.succ ?_, by omega⟩
      simp only [laws_szCondS.l0, h1, h2, if_true, rd_at_T144 hx]
      refine Ev.bind e' ?_
      exact Ev.pos (by omega) (Ev.now _)
    · right
      rw [if_neg c2] at e'
      have s' := s (by omega)
      rw [← n144_f] at s'
      refine ⟨r, by omega, by omega, fun r' hr => Ev.succ ?_⟩
      simp only [laws_szCondS.l0, h1, h2, if_true, rd_at_T144 hx]
      refine Ev.bind e' ?_
      simp only [if_neg c2, wr1 hi (by omega)]
      exact hr
  obtain ⟨r, h1, h2, h3⟩ := ev_sz n144 l (fun k a i => laws_szCondS.l0 k l a i) (a - (l.length : Int)) hend hstep (a - (l.length : Int)) (by omega) (by omega)
  refine ⟨r, Ev.succ ?_, by omega, fun h => by have := h3 h; omega⟩
  simp only [laws_szCondS.f, wr (x := a - (l.length : Int)) (by omega) (by omega), if_neg c]
  exact h1
theorem laws_szCondS_le (l : List S144) (hl : l.length ≤ maxLen) (hg : ∀ y ∈ l, g144 y) (a : Int) (h0 : 0 ≤ a) (ha : a ≤ 2097152) : ∃ r, Ev (fun k => laws_szCondS.f k l a) r ∧ r ≤ 2097152 ∧ (0 ≤ r → r + (l.length + (l.map n144).sum : Nat) ≤ a) := laws_szCondS_leN _ l hl hg a h0 ha (Nat.le_refl _)
theorem laws_szCond_le (x : S144) (hg : g144 x) (a : Int) (h0 : 0 ≤ a) (ha : a ≤ 2097152) : ∃ r, Ev (fun k => laws_szCond.f k x.f0 x.f1 x.f2 x.f3 a) r ∧ r ≤ 2097152 ∧ (0 ≤ r → r + (n144 x : Nat) ≤ a) := by
  have hgx := gin144 hg
  obtain ⟨r, e, b, s⟩ := laws_szCondS_le x.f3 hgx.1 hgx.2 a h0 ha
  by_cases c : r < 0
  · refine ⟨-1, Ev.succ ?_, by omega, by omega⟩
    simp only [laws_szCond.f]
    refine Ev.bind e ?_
    simp only [if_pos c]; exact Ev.now _
  · refine ⟨r, Ev.succ ?_, b, fun h => by rw [n144_f]; exact s h⟩
    simp only [laws_szCond.f]
    refine Ev.bind e ?_
    simp only [if_neg c]; exact Ev.now _

-- laws_szCond


-- laws_szRule
theorem laws_szRule_le (x : S146) (hg : g146 x) (a : Int) (h0 : 0 ≤ a) (ha : a ≤ 2097152) : ∃ r, Ev (fun k => laws_szRule.f k x.f0 x.f1 x.f2 x.f3.f0 x.f3.f1 x.f3.f2 x.f3.f3 a) r ∧ r ≤ 2097152 ∧ (0 ≤ r → r + (n146 x : Nat) ≤ a) := by
  unfold g146 at hg
  unfold n146 laws_szRule.f
  obtain ⟨r0, e0, b0, s0⟩ := laws_szCond_le x.f3 (by have := hg; simp_all) a (by omega) (by omega)
  by_cases c0 : r0 < 0
  · exact ⟨-1, by refine Ev.bind e0 ?_; simp only [if_pos c0]; exact Ev.now _, by omega, by omega⟩
  have s0' := s0 (by omega)
  exact ⟨r0, by refine Ev.bind e0 ?_; simp only [if_neg c0]; exact Ev.now _, by omega, fun _ => by omega⟩

-- laws_szRuleS
theorem laws_szRuleS_le (l : List (S146)) (hl : l.length ≤ maxLen) (hg : ∀ y_ ∈ l, g146 y_) (a : Int) (h0 : 0 ≤ a) (ha : a ≤ 2097152) : ∃ r, Ev (fun k => laws_szRuleS.f k l a) r ∧ r ≤ 2097152 ∧ (0 ≤ r → r + (l.length + (l.map n146).sum : Nat) ≤ a) := by
  unfold laws_szRuleS.f
  unfold maxLen at hl
  rw [wr (by omega) (by omega)]
  by_cases c : a - (l.length : Int) < 0
  · simp only [if_pos c]; exact ⟨_, Ev.now _, by omega, by omega⟩
  simp only [if_neg c]
  have hend : ∀ a, Ev (fun k => laws_szRuleS.l0 k l a (l.length : Int)) a := by
    intro a
    refine Ev.succ ?_
    simp only [laws_szRuleS.l0, Int.lt_irrefl, if_false]
    exact Ev.now _
  have hstep : ∀ (i : Nat) (x : S146) (a : Int), l[i]? = some x → 0 ≤ a → a ≤ 2097152 → (∃ r, Ev (fun k => laws_szRuleS.l0 k l a (i : Int)) r ∧ r < 0) ∨ ∃ a', 0 ≤ a' ∧ a' + n146 x ≤ a ∧ ∀ r, Ev (fun k => laws_szRuleS.l0 k l a' ((i + 1 : Nat) : Int)) r → Ev (fun k => laws_szRuleS.l0 k l a (i : Int)) r := by
    intro i x a hx h0 ha
    have hi := lt_of_get hx
    have h1 : ((i : Int) < (l.length : Int)) = True := eq_true (by omega)
    have h2 : (0 ≤ (i : Int)) = True := eq_true (by omega)
    obtain ⟨r, e, b, s⟩ := laws_szRule_le x (hg x (List.mem_of_getElem? hx)) a h0 ha
    by_cases c2 : r < 0
    · left
      refine ⟨-1, Ev.succ ?_, by omega⟩
      simp only [laws_szRuleS.l0, h1, h2, if_true, rd_at_T146 hx]
      refine Ev.bind e ?_
      simp only [if_pos c2]
      exact Ev.now _
    · right
      have s' := s (by omega)
      refine ⟨r, by omega, by omega, fun r' hr => Ev.succ ?_⟩
      simp only [laws_szRuleS.l0, h1, h2, if_true, rd_at_T146 hx]
      refine Ev.bind e ?_
      simp only [if_neg c2, wr1 hi (by omega)]
      exact hr
  obtain ⟨r, h1, h2, h3⟩ := ev_sz n146 l (fun k a i => laws_szRuleS.l0 k l a i) 2097152 hend hstep (a - l.length) (by omega) (by omega)
  exact ⟨r, h1, h2, fun h => by have := h3 h; omega⟩

-- laws_szPolicy
theorem laws_szPolicy_le (x : S76) (hg : g76 x) (a : Int) (h0 : 0 ≤ a) (ha : a ≤ 2097152) : ∃ r, Ev (fun k => laws_szPolicy.f k x.f0 x.f1 a) r ∧ r ≤ 2097152 ∧ (0 ≤ r → r + (n76 x : Nat) ≤ a) := by
  unfold g76 at hg
  unfold n76 laws_szPolicy.f
  obtain ⟨r0, e0, b0, s0⟩ := laws_szRuleS_le x.f1 (by have := hg; simp_all) (by have := hg; simp_all) a (by omega) (by omega)
  by_cases c0 : r0 < 0
  · exact ⟨-1, by refine Ev.bind e0 ?_; simp only [if_pos c0]; exact Ev.now _, by omega, by omega⟩
  have s0' := s0 (by omega)
  exact ⟨r0, by refine Ev.bind e0 ?_; simp only [if_neg c0]; exact Ev.now _, by omega, fun _ => by omega⟩

-- laws_szEpoch
theorem laws_szEpoch_le (x : S78) (hg : g78 x) (a : Int) (h0 : 0 ≤ a) (ha : a ≤ 2097152) : ∃ r, Ev (fun k => laws_szEpoch.f k x.f0 x.f1 x.f2 x.f3.f0 x.f3.f1 a) r ∧ r ≤ 2097152 ∧ (0 ≤ r → r + (n78 x : Nat) ≤ a) := by
  unfold g78 at hg
  unfold n78 laws_szEpoch.f
  obtain ⟨r0, e0, b0, s0⟩ := laws_szIncludesS_le x.f2 (by have := hg; simp_all) a (by omega) (by omega)
  by_cases c0 : r0 < 0
  · exact ⟨-1, by simp only [e0, Option.bind_some]; simp only [if_pos c0]; exact Ev.now _, by omega, by omega⟩
  have s0' := s0 (by omega)
  obtain ⟨r1, e1, b1, s1⟩ := laws_szPolicy_le x.f3 (by have := hg; simp_all) r0 (by omega) (by omega)
  by_cases c1 : r1 < 0
  · exact ⟨-1, by simp only [e0, Option.bind_some]; simp only [if_neg c0]; refine Ev.bind e1 ?_; simp only [if_pos c1]; exact Ev.now _, by omega, by omega⟩
  have s1' := s1 (by omega)
  exact ⟨r1, by simp only [e0, Option.bind_some]; simp only [if_neg c0]; refine Ev.bind e1 ?_; simp only [if_neg c1]; exact Ev.now _, by omega, fun _ => by omega⟩

-- laws_szEpochS
theorem laws_szEpochS_le (l : List (S78)) (hl : l.length ≤ maxLen) (hg : ∀ y_ ∈ l, g78 y_) (a : Int) (h0 : 0 ≤ a) (ha : a ≤ 2097152) : ∃ r, Ev (fun k => laws_szEpochS.f k l a) r ∧ r ≤ 2097152 ∧ (0 ≤ r → r + (l.length + (l.map n78).sum : Nat) ≤ a) := by
  unfold laws_szEpochS.f
  unfold maxLen at hl
  rw [wr (by omega) (by omega)]
  by_cases c : a - (l.length : Int) < 0
  · simp only [if_pos c]; exact ⟨_, Ev.now _, by omega, by omega⟩
  simp only [if_neg c]
  have hend : ∀ a, Ev (fun k => laws_szEpochS.l0 k l a (l.length : Int)) a := by
    intro a
    refine Ev.succ ?_
    simp only [laws_szEpochS.l0, Int.lt_irrefl, if_false]
    exact Ev.now _
  have hstep : ∀ (i : Nat) (x : S78) (a : Int), l[i]? = some x → 0 ≤ a → a ≤ 2097152 → (∃ r, Ev (fun k => laws_szEpochS.l0 k l a (i : Int)) r ∧ r < 0) ∨ ∃ a', 0 ≤ a' ∧ a' + n78 x ≤ a ∧ ∀ r, Ev (fun k => laws_szEpochS.l0 k l a' ((i + 1 : Nat) : Int)) r → Ev (fun k => laws_szEpochS.l0 k l a (i : Int)) r := by
    intro i x a hx h0 ha
    have hi := lt_of_get hx
    have h1 : ((i : Int) < (l.length : Int)) = True := eq_true (by omega)
    have h2 : (0 ≤ (i : Int)) = True := eq_true (by omega)
    obtain ⟨r, e, b, s⟩ := laws_szEpoch_le x (hg x (List.mem_of_getElem? hx)) a h0 ha
    by_cases c2 : r < 0
    · left
      refine ⟨-1, Ev.succ ?_, by omega⟩
      simp only [laws_szEpochS.l0, h1, h2, if_true, rd_at_T78 hx]
      refine Ev.bind e ?_
      simp only [if_pos c2]
      exact Ev.now _
    · right
      have s' := s (by omega)
      refine ⟨r, by omega, by omega, fun r' hr => Ev.succ ?_⟩
      simp only [laws_szEpochS.l0, h1, h2, if_true, rd_at_T78 hx]
      refine Ev.bind e ?_
      simp only [if_neg c2, wr1 hi (by omega)]
      exact hr
  obtain ⟨r, h1, h2, h3⟩ := ev_sz n78 l (fun k a i => laws_szEpochS.l0 k l a i) 2097152 hend hstep (a - l.length) (by omega) (by omega)
  exact ⟨r, h1, h2, fun h => by have := h3 h; omega⟩

-- laws_szFactS
theorem laws_szFactS_le (l : List (S98)) (hl : l.length ≤ maxLen) (a : Int) (h0 : 0 ≤ a) (ha : a ≤ 2097152) : ∃ r, laws_szFactS.f l a = some r ∧ r ≤ 2097152 ∧ (0 ≤ r → r + (l.length : Nat) ≤ a) := by
  unfold laws_szFactS.f
  unfold maxLen at hl
  rw [wr (by omega) (by omega)]
  split
  · exact ⟨_, rfl, by omega, by omega⟩
  · exact ⟨_, rfl, by omega, by omega⟩

-- laws_szRevokedS
theorem laws_szRevokedS_le (l : List (S102)) (hl : l.length ≤ maxLen) (a : Int) (h0 : 0 ≤ a) (ha : a ≤ 2097152) : ∃ r, laws_szRevokedS.f l a = some r ∧ r ≤ 2097152 ∧ (0 ≤ r → r + (l.length : Nat) ≤ a) := by
  unfold laws_szRevokedS.f
  unfold maxLen at hl
  rw [wr (by omega) (by omega)]
  split
  · exact ⟨_, rfl, by omega, by omega⟩
  · exact ⟨_, rfl, by omega, by omega⟩

-- laws_szCertS
theorem laws_szCertS_le (l : List (S104)) (hl : l.length ≤ maxLen) (a : Int) (h0 : 0 ≤ a) (ha : a ≤ 2097152) : ∃ r, laws_szCertS.f l a = some r ∧ r ≤ 2097152 ∧ (0 ≤ r → r + (l.length : Nat) ≤ a) := by
  unfold laws_szCertS.f
  unfold maxLen at hl
  rw [wr (by omega) (by omega)]
  split
  · exact ⟨_, rfl, by omega, by omega⟩
  · exact ⟨_, rfl, by omega, by omega⟩

-- laws_szCenter
theorem laws_szCenter_le (x : S28) (hg : g28 x) (a : Int) (h0 : 0 ≤ a) (ha : a ≤ 2097152) : ∃ r, Ev (fun k => laws_szCenter.f k x.f0 x.f1 x.f2 x.f3 x.f4 x.f5 a) r ∧ r ≤ 2097152 ∧ (0 ≤ r → r + (n28 x : Nat) ≤ a) := by
  unfold g28 at hg
  unfold n28 laws_szCenter.f
  obtain ⟨r0, e0, b0, s0⟩ := laws_szIssuerS_le x.f0 (by have := hg; simp_all) (by have := hg; simp_all) a (by omega) (by omega)
  by_cases c0 : r0 < 0
  · exact ⟨-1, by refine Ev.bind e0 ?_; simp only [if_pos c0]; exact Ev.now _, by omega, by omega⟩
  have s0' := s0 (by omega)
  obtain ⟨r1, e1, b1, s1⟩ := laws_szEpochS_le x.f1 (by have := hg; simp_all) (by have := hg; simp_all) r0 (by omega) (by omega)
  by_cases c1 : r1 < 0
  · exact ⟨-1, by refine Ev.bind e0 ?_; simp only [if_neg c0]; refine Ev.bind e1 ?_; simp only [if_pos c1]; exact Ev.now _, by omega, by omega⟩
  have s1' := s1 (by omega)
  obtain ⟨r2, e2, b2, s2⟩ := laws_szFactS_le x.f2 (by have := hg; simp_all) r1 (by omega) (by omega)
  by_cases c2 : r2 < 0
  · exact ⟨-1, by refine Ev.bind e0 ?_; simp only [if_neg c0]; refine Ev.bind e1 ?_; simp only [if_neg c1]; simp only [e2, Option.bind_some]; simp only [if_pos c2]; exact Ev.now _, by omega, by omega⟩
  have s2' := s2 (by omega)
  obtain ⟨r3, e3, b3, s3⟩ := laws_szRevokedS_le x.f3 (by have := hg; simp_all) r2 (by omega) (by omega)
  by_cases c3 : r3 < 0
  · exact ⟨-1, by refine Ev.bind e0 ?_; simp only [if_neg c0]; refine Ev.bind e1 ?_; simp only [if_neg c1]; simp only [e2, Option.bind_some]; simp only [if_neg c2]; simp only [e3, Option.bind_some]; simp only [if_pos c3]; exact Ev.now _, by omega, by omega⟩
  have s3' := s3 (by omega)
  obtain ⟨r4, e4, b4, s4⟩ := laws_szCertS_le x.f5 (by have := hg; simp_all) r3 (by omega) (by omega)
  by_cases c4 : r4 < 0
  · exact ⟨-1, by refine Ev.bind e0 ?_; simp only [if_neg c0]; refine Ev.bind e1 ?_; simp only [if_neg c1]; simp only [e2, Option.bind_some]; simp only [if_neg c2]; simp only [e3, Option.bind_some]; simp only [if_neg c3]; simp only [e4, Option.bind_some]; simp only [if_pos c4]; exact Ev.now _, by omega, by omega⟩
  have s4' := s4 (by omega)
  exact ⟨r4, by refine Ev.bind e0 ?_; simp only [if_neg c0]; refine Ev.bind e1 ?_; simp only [if_neg c1]; simp only [e2, Option.bind_some]; simp only [if_neg c2]; simp only [e3, Option.bind_some]; simp only [if_neg c3]; simp only [e4, Option.bind_some]; simp only [if_neg c4]; exact Ev.now _, by omega, fun _ => by omega⟩

-- laws_toIntS
theorem laws_toIntS_ev (l : List Int) (h : l.length ≤ 2097152) : Ev (fun k => laws_toIntS.f k l) l := by
  unfold laws_toIntS.f
  have e : l = l.map id := by simp
  conv => rhs; rw [e]
  refine Ev.pos rfl (Ev.pos (by omega) (Ev.pos (by omega) ?_))
  refine ev_fill l id (fun k out i => laws_toIntS.l0 k l out i) ?_ ?_ _ (by simp)
  · intro out ho
    refine Ev.succ ?_
    simp only [laws_toIntS.l0, Int.lt_irrefl, if_false]
    exact Ev.now _
  · intro i x out r hx ho hr
    have hi := lt_of_get hx
    have h1 : ((i : Int) < (l.length : Int)) = True := eq_true (by omega)
    have h2 : (0 ≤ (i : Int)) = True := eq_true (by omega)
    have h3 : ((i : Int) < (out.length : Int)) = True := eq_true (by omega)
    refine Ev.succ ?_
    simp only [laws_toIntS.l0, h1, h2, h3, if_true, rd_nat l i x hx, wr1 hi (by omega), Int.toNat_natCast]
    exact hr

-- laws_toIssuer
theorem laws_toIssuer_ev (x : S71) (h : n71 x ≤ 2097152) : Ev (fun k => laws_toIssuer.f k x.f0 x.f1 x.f2) ((cv71 x).f0, (cv71 x).f1, (cv71 x).f2) := by
  unfold n71 at h
  unfold laws_toIssuer.f
  repeat (first | exact Ev.now _ | (refine Ev.bind (laws_toIntS_ev _ (by omega)) ?_; try simp only []))

-- laws_toIssuerS
theorem laws_toIssuerS_ev (l : List (S71)) (h : l.length + (l.map n71).sum ≤ 2097152) : Ev (fun k => laws_toIssuerS.f k l) (l.map cv71) := by
  unfold laws_toIssuerS.f
  refine Ev.pos rfl (Ev.pos (by omega) (Ev.pos (by omega) ?_))
  refine ev_fill l cv71 (fun k out i => laws_toIssuerS.l0 k l out i) ?_ ?_ _ (by simp)
  · intro out ho
    refine Ev.succ ?_
    simp only [laws_toIssuerS.l0, Int.lt_irrefl, if_false]
    exact Ev.now _
  · intro i x out r hx ho hr
    have hi := lt_of_get hx
    have h1 : ((i : Int) < (l.length : Int)) = True := eq_true (by omega)
    have h2 : (0 ≤ (i : Int)) = True := eq_true (by omega)
    have h3 : ((i : Int) < (out.length : Int)) = True := eq_true (by omega)
    refine Ev.succ ?_
    simp only [laws_toIssuerS.l0, h1, h2, h3, if_true, rd_at_T71 hx, wr1 hi (by omega), Int.toNat_natCast]
    refine Ev.bind (laws_toIssuer_ev x (by have := le_sum n71 hx; omega)) ?_
    simp only [h3, if_true]
    (try simp only [eta144, eta128])
    exact hr

-- laws_toIncludes
theorem laws_toIncludes_eq (x : S136) : laws_toIncludes.f x.f0 x.f1 = some ((cv136 x).f0, (cv136 x).f1) := by
  unfold laws_toIncludes.f
  first | rfl | (simp only [Option.bind_some]; rfl)

-- laws_toIncludesS
theorem laws_toIncludesS_ev (l : List (S136)) (h : l.length ≤ 2097152) : Ev (fun k => laws_toIncludesS.f k l) (l.map cv136) := by
  unfold laws_toIncludesS.f
  refine Ev.pos rfl (Ev.pos (by omega) (Ev.pos (by omega) ?_))
  refine ev_fill l cv136 (fun k out i => laws_toIncludesS.l0 k l out i) ?_ ?_ _ (by simp)
  · intro out ho
    refine Ev.succ ?_
    simp only [laws_toIncludesS.l0, Int.lt_irrefl, if_false]
    exact Ev.now _
  · intro i x out r hx ho hr
    have hi := lt_of_get hx
    have h1 : ((i : Int) < (l.length : Int)) = True := eq_true (by omega)
    have h2 : (0 ≤ (i : Int)) = True := eq_true (by omega)
    have h3 : ((i : Int) < (out.length : Int)) = True := eq_true (by omega)
    refine Ev.succ ?_
    simp only [laws_toIncludesS.l0, h1, h2, h3, if_true, rd_at_T136 hx, wr1 hi (by omega), Int.toNat_natCast, laws_toIncludes_eq x, Option.bind_some]
    exact hr

-- laws_toCondS
theorem laws_toCondS_evN (N : Nat) : ∀ l : List S144, l.length + (l.map n144).sum ≤ N → N ≤ 2097152 → Ev (fun k => laws_toCondS.f k l) (l.map cv144) := by
  induction N using Nat.strongRecOn with
  | _ N ih =>
  intro l h hN
  refine Ev.succ ?_
  simp only [laws_toCondS.f]
  refine Ev.pos (by first | trivial | rfl) (Ev.pos (by omega) (Ev.pos (by omega) ?_))
  refine ev_fill l cv144 (fun k out i => laws_toCondS.l0 k l out i) ?_ ?_ _ (by simp)
  · intro out ho
    refine Ev.succ ?_
    simp only [laws_toCondS.l0, Int.lt_irrefl, if_false]
    exact Ev.now _
  · intro i x out r hx ho hr
    have hi := lt_of_get hx
    have h1 : ((i : Int) < (l.length : Int)) = True := eq_true (by omega)
    have h2 : (0 ≤ (i : Int)) = True := eq_true (by omega)
    have h3 : ((i : Int) < (out.length : Int)) = True := eq_true (by omega)
    have hn := le_sum n144 hx
    rw [n144_f] at hn
    have e := ih (x.f3.length + (x.f3.map n144).sum) (by omega) x.f3 (Nat.le_refl _) (by omega)
    have e' : Ev (fun k => laws_toCond.f k x.f0 x.f1 x.f2 x.f3) (x.f0, x.f1, x.f2, x.f3.map cv144) := by
      refine Ev.succ ?_
      simp only [laws_toCond.f]
      refine Ev.bind e ?_
      exact Ev.now _
    refine Ev.succ ?_
    simp only [laws_toCondS.l0, h1, h2, if_true, rd_at_T144 hx, wr1 hi (by omega), Int.toNat_natCast]
    refine Ev.bind e' ?_
    simp only [h3, if_true]
    rw [cv144_f] at hr
    exact hr
theorem laws_toCondS_ev (l : List S144) (h : l.length + (l.map n144).sum ≤ 2097152) : Ev (fun k => laws_toCondS.f k l) (l.map cv144) := laws_toCondS_evN _ l (Nat.le_refl _) h
theorem laws_toCond_ev (x : S144) (h : n144 x ≤ 2097152) : Ev (fun k => laws_toCond.f k x.f0 x.f1 x.f2 x.f3) ((cv144 x).f0, (cv144 x).f1, (cv144 x).f2, (cv144 x).f3) := by
  rw [n144_f] at h
  rw [cv144_f]
  refine Ev.succ ?_
  simp only [laws_toCond.f]
  refine Ev.bind (laws_toCondS_ev x.f3 h) ?_
  exact Ev.now _

-- laws_toCond


-- laws_toRule
theorem laws_toRule_ev (x : S146) (h : n146 x ≤ 2097152) : Ev (fun k => laws_toRule.f k x.f0 x.f1 x.f2 x.f3.f0 x.f3.f1 x.f3.f2 x.f3.f3) ((cv146 x).f0, (cv146 x).f1, (cv146 x).f2, (cv146 x).f3.f0, (cv146 x).f3.f1, (cv146 x).f3.f2, (cv146 x).f3.f3) := by
  unfold n146 at h
  unfold laws_toRule.f
  repeat (first | exact Ev.now _ | (refine Ev.bind (laws_toCond_ev _ (by omega)) ?_; try simp only []))

-- laws_toRuleS
theorem laws_toRuleS_ev (l : List (S146)) (h : l.length + (l.map n146).sum ≤ 2097152) : Ev (fun k => laws_toRuleS.f k l) (l.map cv146) := by
  unfold laws_toRuleS.f
  refine Ev.pos rfl (Ev.pos (by omega) (Ev.pos (by omega) ?_))
  refine ev_fill l cv146 (fun k out i => laws_toRuleS.l0 k l out i) ?_ ?_ _ (by simp)
  · intro out ho
    refine Ev.succ ?_
    simp only [laws_toRuleS.l0, Int.lt_irrefl, if_false]
    exact Ev.now _
  · intro i x out r hx ho hr
    have hi := lt_of_get hx
    have h1 : ((i : Int) < (l.length : Int)) = True := eq_true (by omega)
    have h2 : (0 ≤ (i : Int)) = True := eq_true (by omega)
    have h3 : ((i : Int) < (out.length : Int)) = True := eq_true (by omega)
    refine Ev.succ ?_
    simp only [laws_toRuleS.l0, h1, h2, h3, if_true, rd_at_T146 hx, wr1 hi (by omega), Int.toNat_natCast]
    refine Ev.bind (laws_toRule_ev x (by have := le_sum n146 hx; omega)) ?_
    simp only [h3, if_true]
    (try simp only [eta144, eta128])
    exact hr

-- laws_toPolicy
theorem laws_toPolicy_ev (x : S76) (h : n76 x ≤ 2097152) : Ev (fun k => laws_toPolicy.f k x.f0 x.f1) ((cv76 x).f0, (cv76 x).f1) := by
  unfold n76 at h
  unfold laws_toPolicy.f
  repeat (first | exact Ev.now _ | (refine Ev.bind (laws_toRuleS_ev _ (by omega)) ?_; try simp only []))

-- laws_toEpoch
theorem laws_toEpoch_ev (x : S78) (h : n78 x ≤ 2097152) : Ev (fun k => laws_toEpoch.f k x.f0 x.f1 x.f2 x.f3.f0 x.f3.f1) ((cv78 x).f0, (cv78 x).f1, (cv78 x).f2, (cv78 x).f3.f0, (cv78 x).f3.f1) := by
  unfold n78 at h
  unfold laws_toEpoch.f
  repeat (first | exact Ev.now _ | (refine Ev.bind (laws_toIncludesS_ev _ (by omega)) ?_; try simp only []) | (refine Ev.bind (laws_toPolicy_ev _ (by omega)) ?_; try simp only []))

-- laws_toEpochS
theorem laws_toEpochS_ev (l : List (S78)) (h : l.length + (l.map n78).sum ≤ 2097152) : Ev (fun k => laws_toEpochS.f k l) (l.map cv78) := by
  unfold laws_toEpochS.f
  refine Ev.pos rfl (Ev.pos (by omega) (Ev.pos (by omega) ?_))
  refine ev_fill l cv78 (fun k out i => laws_toEpochS.l0 k l out i) ?_ ?_ _ (by simp)
  · intro out ho
    refine Ev.succ ?_
    simp only [laws_toEpochS.l0, Int.lt_irrefl, if_false]
    exact Ev.now _
  · intro i x out r hx ho hr
    have hi := lt_of_get hx
    have h1 : ((i : Int) < (l.length : Int)) = True := eq_true (by omega)
    have h2 : (0 ≤ (i : Int)) = True := eq_true (by omega)
    have h3 : ((i : Int) < (out.length : Int)) = True := eq_true (by omega)
    refine Ev.succ ?_
    simp only [laws_toEpochS.l0, h1, h2, h3, if_true, rd_at_T78 hx, wr1 hi (by omega), Int.toNat_natCast]
    refine Ev.bind (laws_toEpoch_ev x (by have := le_sum n78 hx; omega)) ?_
    simp only [h3, if_true]
    (try simp only [eta144, eta128])
    exact hr

-- laws_toFact
theorem laws_toFact_eq (x : S98) : laws_toFact.f x.f0 x.f1 x.f2 x.f3 x.f4 x.f5 = some ((cv98 x).f0, (cv98 x).f1, (cv98 x).f2, (cv98 x).f3, (cv98 x).f4, (cv98 x).f5) := by
  unfold laws_toFact.f
  first | rfl | (simp only [Option.bind_some]; rfl)

-- laws_toFactS
theorem laws_toFactS_ev (l : List (S98)) (h : l.length ≤ 2097152) : Ev (fun k => laws_toFactS.f k l) (l.map cv98) := by
  unfold laws_toFactS.f
  refine Ev.pos rfl (Ev.pos (by omega) (Ev.pos (by omega) ?_))
  refine ev_fill l cv98 (fun k out i => laws_toFactS.l0 k l out i) ?_ ?_ _ (by simp)
  · intro out ho
    refine Ev.succ ?_
    simp only [laws_toFactS.l0, Int.lt_irrefl, if_false]
    exact Ev.now _
  · intro i x out r hx ho hr
    have hi := lt_of_get hx
    have h1 : ((i : Int) < (l.length : Int)) = True := eq_true (by omega)
    have h2 : (0 ≤ (i : Int)) = True := eq_true (by omega)
    have h3 : ((i : Int) < (out.length : Int)) = True := eq_true (by omega)
    refine Ev.succ ?_
    simp only [laws_toFactS.l0, h1, h2, h3, if_true, rd_at_T98 hx, wr1 hi (by omega), Int.toNat_natCast, laws_toFact_eq x, Option.bind_some]
    exact hr

-- laws_toRevoked
theorem laws_toRevoked_eq (x : S102) : laws_toRevoked.f x.f0 x.f1 = some ((cv102 x).f0, (cv102 x).f1) := by
  unfold laws_toRevoked.f
  first | rfl | (simp only [Option.bind_some]; rfl)

-- laws_toRevokedS
theorem laws_toRevokedS_ev (l : List (S102)) (h : l.length ≤ 2097152) : Ev (fun k => laws_toRevokedS.f k l) (l.map cv102) := by
  unfold laws_toRevokedS.f
  refine Ev.pos rfl (Ev.pos (by omega) (Ev.pos (by omega) ?_))
  refine ev_fill l cv102 (fun k out i => laws_toRevokedS.l0 k l out i) ?_ ?_ _ (by simp)
  · intro out ho
    refine Ev.succ ?_
    simp only [laws_toRevokedS.l0, Int.lt_irrefl, if_false]
    exact Ev.now _
  · intro i x out r hx ho hr
    have hi := lt_of_get hx
    have h1 : ((i : Int) < (l.length : Int)) = True := eq_true (by omega)
    have h2 : (0 ≤ (i : Int)) = True := eq_true (by omega)
    have h3 : ((i : Int) < (out.length : Int)) = True := eq_true (by omega)
    refine Ev.succ ?_
    simp only [laws_toRevokedS.l0, h1, h2, h3, if_true, rd_at_T102 hx, wr1 hi (by omega), Int.toNat_natCast, laws_toRevoked_eq x, Option.bind_some]
    exact hr

-- laws_toCert
theorem laws_toCert_eq (x : S104) : laws_toCert.f x.f0 x.f1 x.f2 x.f3 x.f4 x.f5 = some ((cv104 x).f0, (cv104 x).f1, (cv104 x).f2, (cv104 x).f3, (cv104 x).f4, (cv104 x).f5) := by
  unfold laws_toCert.f
  first | rfl | (simp only [Option.bind_some]; rfl)

-- laws_toCertS
theorem laws_toCertS_ev (l : List (S104)) (h : l.length ≤ 2097152) : Ev (fun k => laws_toCertS.f k l) (l.map cv104) := by
  unfold laws_toCertS.f
  refine Ev.pos rfl (Ev.pos (by omega) (Ev.pos (by omega) ?_))
  refine ev_fill l cv104 (fun k out i => laws_toCertS.l0 k l out i) ?_ ?_ _ (by simp)
  · intro out ho
    refine Ev.succ ?_
    simp only [laws_toCertS.l0, Int.lt_irrefl, if_false]
    exact Ev.now _
  · intro i x out r hx ho hr
    have hi := lt_of_get hx
    have h1 : ((i : Int) < (l.length : Int)) = True := eq_true (by omega)
    have h2 : (0 ≤ (i : Int)) = True := eq_true (by omega)
    have h3 : ((i : Int) < (out.length : Int)) = True := eq_true (by omega)
    refine Ev.succ ?_
    simp only [laws_toCertS.l0, h1, h2, h3, if_true, rd_at_T104 hx, wr1 hi (by omega), Int.toNat_natCast, laws_toCert_eq x, Option.bind_some]
    exact hr

-- laws_toCenter
theorem laws_toCenter_ev (x : S28) (h : n28 x ≤ 2097152) : Ev (fun k => laws_toCenter.f k x.f0 x.f1 x.f2 x.f3 x.f4 x.f5) ((cv28 x).f0, (cv28 x).f1, (cv28 x).f2, (cv28 x).f3, (cv28 x).f4, (cv28 x).f5) := by
  unfold n28 at h
  unfold laws_toCenter.f
  repeat (first | exact Ev.now _ | (refine Ev.bind (laws_toIssuerS_ev _ (by omega)) ?_; try simp only []) | (refine Ev.bind (laws_toEpochS_ev _ (by omega)) ?_; try simp only []) | (refine Ev.bind (laws_toFactS_ev _ (by omega)) ?_; try simp only []) | (refine Ev.bind (laws_toRevokedS_ev _ (by omega)) ?_; try simp only []) | (refine Ev.bind (laws_toCertS_ev _ (by omega)) ?_; try simp only []))

-- spec_l8Copy
theorem spec_l8Copy_ev (l : List S86) (h : l.length ≤ 2097152) (hn : ∀ x ∈ l, x.f1.length ≤ 2097152) : Ev (fun k => spec_l8Copy.f k l) l := by
  unfold spec_l8Copy.f
  have key : ∀ (d i : Nat), l.length - i = d → i ≤ l.length → Ev (fun k => spec_l8Copy.l0 k l (l.take i) (i : Int)) l := by
    intro d
    induction d with
    | zero =>
      intro i hd hi
      obtain rfl : i = l.length := by omega
      refine Ev.succ ?_
      simp only [spec_l8Copy.l0, Int.lt_irrefl, if_false, List.take_length]
      exact Ev.now _
    | succ d ihd =>
      intro i hd hi
      have hi' : i < l.length := by omega
      obtain ⟨y, hy⟩ := getAt (l := l) (i := i) hi'
      have h1 : ((i : Int) < (l.length : Int)) = True := eq_true (by omega)
      have h2 : (0 ≤ (i : Int)) = True := eq_true (by omega)
      have h3 : ((l.take i).length < 3518437208883) = True := eq_true (by rw [List.length_take]; omega)
      have h4 : (0 + y.f1.length ≤ 17592186044416) = True := eq_true (by have := hn y (List.mem_of_getElem? hy); omega)
      have e3 : l.take i ++ [y] = l.take (i + 1) := by rw [List.take_add_one, hy]; rfl
      refine Ev.succ ?_
      simp only [spec_l8Copy.l0, h1, h2, h3, h4, if_true, rd_at_T86 hy, wr1 hi' (by omega), List.nil_append, e3]
      exact ihd (i + 1) (by omega) (by omega)
  exact key l.length 0 (by omega) (by omega)

-- spec_l15Copy
theorem copyC_evN (N : Nat) : ∀ x : S128, n128 x ≤ N → N ≤ 2097152 → Ev (fun k => spec_l15Copy.f k x.f0 x.f1 x.f2 x.f3) (x.f0, x.f1, x.f2, x.f3) := by
  induction N using Nat.strongRecOn with
  | _ N ih =>
  intro x h hN
  rw [n128_f] at h
  refine Ev.succ ?_
  simp only [spec_l15Copy.f]
  have key : ∀ (d i : Nat), x.f3.length - i = d → i ≤ x.f3.length → Ev (fun k => spec_l15Copy.l0 k x.f0 x.f1 x.f2 x.f3 0 0 0 [] x.f0 x.f1 x.f2 (x.f3.take i) (i : Int)) (x.f0, x.f1, x.f2, x.f3) := by
    intro d
    induction d with
    | zero =>
      intro i hd hi
      obtain rfl : i = x.f3.length := by omega
      refine Ev.succ ?_
      simp only [spec_l15Copy.l0, Int.lt_irrefl, if_false, List.take_length]
      exact Ev.now _
    | succ d ihd =>
      intro i hd hi
      have hi' : i < x.f3.length := by omega
      obtain ⟨y, hy⟩ := getAt (l := x.f3) (i := i) hi'
      have hn := le_sum n128 hy
      have h1 : ((i : Int) < (x.f3.length : Int)) = True := eq_true (by omega)
      have h2 : (0 ≤ (i : Int)) = True := eq_true (by omega)
      have h3 : ((x.f3.take i).length < 2932031007402) = True := eq_true (by rw [List.length_take]; omega)
      have e := ih (n128 y) (by omega) y (Nat.le_refl _) (by omega)
      have e3 : x.f3.take i ++ [y] = x.f3.take (i + 1) := by rw [List.take_add_one, hy]; rfl
      refine Ev.succ ?_
      simp only [spec_l15Copy.l0, h1, h2, if_true, rd_at_T128 hy, wr1 hi' (by omega)]
      refine Ev.bind e ?_
      simp only [h3, if_true, eta128, e3]
      exact ihd (i + 1) (by omega) (by omega)
  exact key x.f3.length 0 (by omega) (by omega)
theorem spec_l15Copy_ev (x : S128) (h : n128 x ≤ 2097152) : Ev (fun k => spec_l15Copy.f k x.f0 x.f1 x.f2 x.f3) (x.f0, x.f1, x.f2, x.f3) := copyC_evN _ x (Nat.le_refl _) h

-- spec_l19Copy
theorem spec_l19Copy_ev (v : Int) (l : List S130) (h : l.length ≤ 2097152) (hn : ∀ x ∈ l, n128 x.f3 ≤ 2097152) : Ev (fun k => spec_l19Copy.f k v l) (v, l) := by
  unfold spec_l19Copy.f
  have key : ∀ (d i : Nat), l.length - i = d → i ≤ l.length → Ev (fun k => spec_l19Copy.l0 k v l 0 [] v (l.take i) (i : Int)) (v, l) := by
    intro d
    induction d with
    | zero =>
      intro i hd hi
      obtain rfl : i = l.length := by omega
      refine Ev.succ ?_
      simp only [spec_l19Copy.l0, Int.lt_irrefl, if_false, List.take_length]
      exact Ev.now _
    | succ d ihd =>
      intro i hd hi
      have hi' : i < l.length := by omega
      obtain ⟨y, hy⟩ := getAt (l := l) (i := i) hi'
      have h1 : ((i : Int) < (l.length : Int)) = True := eq_true (by omega)
      have h2 : (0 ≤ (i : Int)) = True := eq_true (by omega)
      have h3 : ((l.take i).length < 1954687338268) = True := eq_true (by rw [List.length_take]; omega)
      have e3 : l.take i ++ [y] = l.take (i + 1) := by rw [List.take_add_one, hy]; rfl
      refine Ev.succ ?_
      simp only [spec_l19Copy.l0, h1, h2, if_true, rd_at_T130 hy, wr1 hi' (by omega)]
      refine Ev.bind (spec_l15Copy_ev y.f3 (hn y (List.mem_of_getElem? hy))) ?_
      simp only [h3, if_true, eta128, e3]
      exact ihd (i + 1) (by omega) (by omega)
  exact key l.length 0 (by omega) (by omega)

-- spec_l24Copy
/-- What an epoch's size bounds. -/
theorem epN {x : S93} (h : n93 x ≤ 2097152) : x.f2.length ≤ 2097152 ∧ x.f3.f1.length ≤ 2097152 ∧ ∀ r ∈ x.f3.f1, n128 r.f3 ≤ 2097152 := by
  unfold n93 n91 at h
  refine ⟨by omega, by omega, fun r hr => ?_⟩
  obtain ⟨j, hj⟩ := List.getElem?_of_mem hr
  have h1 := le_sum n130 hj
  have h2 : n128 r.f3 ≤ n130 r := by unfold n130; omega
  omega
theorem spec_l24Copy_ev (x : S93) (h : n93 x ≤ 2097152) : Ev (fun k => spec_l24Copy.f k x.f0 x.f1 x.f2 x.f3.f0 x.f3.f1) (x.f0, x.f1, x.f2, x.f3.f0, x.f3.f1) := by
  obtain ⟨h1, h2, h3⟩ := epN h
  unfold spec_l24Copy.f
  refine Ev.pos (by omega) ?_
  exact Ev.bind (spec_l19Copy_ev x.f3.f0 x.f3.f1 h2 h3) (Ev.now _)

-- spec_l24All
theorem spec_l24All_ev (l : List S93) (h : l.length ≤ 2097152) (hn : ∀ x ∈ l, n93 x ≤ 2097152) : Ev (fun k => spec_l24All.f k l) l := by
  unfold spec_l24All.f
  have key : ∀ (d i : Nat), l.length - i = d → i ≤ l.length → Ev (fun k => spec_l24All.l0 k l (l.take i) (i : Int)) l := by
    intro d
    induction d with
    | zero =>
      intro i hd hi
      obtain rfl : i = l.length := by omega
      refine Ev.succ ?_
      simp only [spec_l24All.l0, Int.lt_irrefl, if_false, List.take_length]
      exact Ev.now _
    | succ d ihd =>
      intro i hd hi
      have hi' : i < l.length := by omega
      obtain ⟨y, hy⟩ := getAt (l := l) (i := i) hi'
      have h1 : ((i : Int) < (l.length : Int)) = True := eq_true (by omega)
      have h2 : (0 ≤ (i : Int)) = True := eq_true (by omega)
      have h3 : ((l.take i).length < 1954687338268) = True := eq_true (by rw [List.length_take]; omega)
      have e3 : l.take i ++ [y] = l.take (i + 1) := by rw [List.take_add_one, hy]; rfl
      refine Ev.succ ?_
      simp only [spec_l24All.l0, h1, h2, if_true, rd_at_T93 hy, wr1 hi' (by omega)]
      refine Ev.bind (spec_l24Copy_ev y (hn y (List.mem_of_getElem? hy))) ?_
      simp only [h3, if_true, e3]
      exact ihd (i + 1) (by omega) (by omega)
  exact key l.length 0 (by omega) (by omega)

-- spec_l7Copy
theorem spec_l7Copy_eq (l : List S96) (h : l.length ≤ 2097152) : spec_l7Copy.f l = some l := by
  unfold spec_l7Copy.f
  rw [if_pos (by omega)]; rfl

-- spec_l28Copy
/-- What a center's size bounds. -/
theorem ctN {x : S36} (h : n36 x ≤ 2097152) : x.f0.length ≤ 2097152 ∧ (∀ y ∈ x.f0, y.f1.length ≤ 2097152) ∧ x.f1.length ≤ 2097152 ∧ (∀ y ∈ x.f1, n93 y ≤ 2097152) ∧ x.f2.length ≤ 2097152 ∧ x.f3.length ≤ 2097152 ∧ x.f5.length ≤ 2097152 := by
  unfold n36 at h
  refine ⟨by omega, fun y hy => ?_, by omega, fun y hy => ?_, by omega, by omega, by omega⟩
  · obtain ⟨j, hj⟩ := List.getElem?_of_mem hy
    have h1 := le_sum n86 hj
    have h2 : y.f1.length ≤ n86 y := by unfold n86; omega
    omega
  · obtain ⟨j, hj⟩ := List.getElem?_of_mem hy
    have h1 := le_sum n93 hj
    omega
theorem spec_l28Copy_ev (x : S36) (h : n36 x ≤ 2097152) : Ev (fun k => spec_l28Copy.f k x.f0 x.f1 x.f2 x.f3 x.f4 x.f5) (x.f0, x.f1, x.f2, x.f3, x.f4, x.f5) := by
  obtain ⟨h0, h0', h1, h1', h2, h3, h5⟩ := ctN h
  unfold spec_l28Copy.f
  refine Ev.bind (spec_l8Copy_ev x.f0 h0 h0') (Ev.bind (spec_l24All_ev x.f1 h1 h1') ?_)
  simp only [spec_l7Copy_eq x.f2 h2, Option.bind_some, List.nil_append]
  exact Ev.pos (by omega) (Ev.pos (by omega) (Ev.now _))

-- spec_l1In
theorem spec_l1In_eq (a b c : Int) : spec_l1In.f a b c = some (inB a b c) := by
  unfold spec_l1In.f
  rw [ite_dand]; rfl

-- spec_IsTime
theorem spec_IsTime_eq (a : Int) : spec_IsTime.f a = some (timeB a) := by
  unfold spec_IsTime.f
  rw [spec_l1In_eq]; rfl

-- spec_Min
theorem spec_Min_eq (a b : Int) : spec_Min.f a b = some (if b < a then b else a) := by
  unfold spec_Min.f; split <;> rfl

-- spec_EndOf
def endB (a b : Int) : Int := if timeB a = true ∧ timeB b = true then (if 10000 < a + b then 10000 else a + b) else 0
theorem timeB_iff {t : Int} : timeB t = true ↔ 0 ≤ t ∧ t ≤ 10000 := inB_iff
theorem spec_EndOf_eq (a b : Int) : spec_EndOf.f a b = some (endB a b) := by
  unfold spec_EndOf.f endB
  simp only [spec_IsTime_eq, spec_Min_eq, Option.bind_some]
  by_cases c : timeB a = true
  · by_cases c2 : timeB b = true
    · have h1 := timeB_iff.1 c
      have h2 := timeB_iff.1 (show timeB b = true from c2)
      simp only [if_pos c, if_pos c2, if_pos (show timeB a = true ∧ timeB b = true from ⟨c, c2⟩), wr (x := a + b) (by omega) (by omega)]
      by_cases c3 : a + b < 10000
      · rw [if_pos c3, if_neg (by omega)]
      · rw [if_neg c3]; by_cases c4 : 10000 < a + b
        · rw [if_pos c4]
        · rw [if_neg c4]; congr 1; omega
    · simp only [if_pos c, if_neg c2, if_neg (show ¬ (timeB a = true ∧ timeB b = true) from fun h => c2 h.2)]
  · simp only [if_neg c, if_neg (show ¬ (timeB a = true ∧ timeB b = true) from fun h => c h.1)]

-- spec_Mod
def keyB (a : Int) : Bool := inB a 1 2147483646
def certB (a b c d e : Int) : Bool := inB a 1 9999 && (nameB b && (keyB c && (timeB d && (timeB e && inB (e - d) 0 50))))
def mdV (a : Int) : Int := Int.tmod (wrap64 (Int.tmod a 2147483647 + 2147483647)) 2147483647
def hsX (d v : Int) : Int := Int.tmod (wrap64 (wrap64 (wrap64 (d * 1000003) + mdV v) + 13)) 2147483647
def hashV (l : List Int) : Int := l.foldl hsX 11
def khV (a : Int) (l : List Int) : Int := hashV ([a] ++ l ++ [a])
theorem spec_Mod_eq (a : Int) : spec_Mod.f a 2147483647 = some (mdV a) := by
  unfold spec_Mod.f; rw [spec_l1In_eq]; rfl

-- spec_Hash
theorem spec_Hash_ev (l : List Int) (h : l.length ≤ 2097152) : Ev (fun k => spec_Hash.f k l) (hashV l) := by
  unfold spec_Hash.f hashV
  refine ev_fold l hsX (fun s => s) (fun _ _ => True) (fun k s i => spec_Hash.l0 k l s i) ?_ (fun _ _ _ _ _ => trivial) ?_ 11 trivial
  · intro s _
    refine Ev.succ ?_
    simp only [spec_Hash.l0, Int.lt_irrefl, if_false]
    exact Ev.now _
  · intro i x s r hx _ hr
    have hi := lt_of_get hx
    have h1 : ((i : Int) < (l.length : Int)) = True := eq_true (by omega)
    have h2 : (0 ≤ (i : Int)) = True := eq_true (by omega)
    refine Ev.succ ?_
    simp only [spec_Hash.l0, h1, h2, if_true, rd_nat l i x hx, spec_Mod_eq, Option.bind_some, wr1 hi (by omega)]
    exact hr

-- spec_KeyedHash
theorem spec_KeyedHash_ev (a : Int) (l : List Int) (h : l.length ≤ 1000) : Ev (fun k => spec_KeyedHash.f k a l) (khV a l) := by
  unfold spec_KeyedHash.f khV
  simp only [Option.bind_some]
  refine Ev.pos (by omega) (Ev.pos (by simp only [List.length_append, List.length_singleton]; omega) ?_)
  exact Ev.bind (spec_Hash_ev _ (by simp only [List.length_append, List.length_singleton]; omega)) (Ev.now _)

-- spec_MarkCert
theorem spec_MarkCert_ev (s a b c d e g : Int) : Ev (fun k => spec_MarkCert.f k s a b c d e g) (a, b, c, d, e, khV s [a, b, c, d, e]) := by
  unfold spec_MarkCert.f
  exact Ev.bind (spec_KeyedHash_ev s [a, b, c, d, e] (by simp)) (Ev.now _)

-- spec_IsValidKey
theorem spec_IsValidKey_eq (a : Int) : spec_IsValidKey.f a = some (keyB a) := by
  unfold spec_IsValidKey.f; rw [spec_l1In_eq]; rfl

-- spec_IsName
theorem spec_IsName_eq (a : Int) : spec_IsName.f a = some (nameB a) := by
  unfold spec_IsName.f
  rw [spec_l1In_eq]; rfl

-- spec_IsCert
theorem spec_IsCert_eq (a b c d e g : Int) : spec_IsCert.f a b c d e g = some (certB a b c d e) := by
  have key : timeB d = true → timeB e = true → (if d ≤ e then some (decide (wrap64 (e - d) ≤ 50)) else some false) = some (inB (e - d) 0 50) := by
    intro hd he
    unfold timeB at hd he
    rw [inB_iff] at hd he
    rw [wr (by omega) (by omega)]
    unfold inB
    by_cases c : d ≤ e
    · rw [if_pos c, decide_eq_true (show 0 ≤ e - d by omega), Bool.true_and]
    · rw [if_neg c, decide_eq_false (show ¬ 0 ≤ e - d by omega), Bool.false_and]
  unfold spec_IsCert.f certB
  simp only [spec_l1In_eq, spec_IsName_eq, spec_IsValidKey_eq, spec_IsTime_eq, Option.bind_some]
  cases inB a 1 9999 with
  | false => rfl
  | true => cases nameB b with
    | false => rfl
    | true => cases keyB c with
      | false => rfl
      | true => cases hd : timeB d with
        | false => rfl
        | true => cases he : timeB e with
          | false => rfl
          | true => simp only [if_true, Bool.true_and]; exact key hd he

-- spec_IssueCert
def issueB (s n u key t g : Int) : Bool := keyB s && (certB n u key t (endB t g) && !decide (g < 0))
def issueV (s n u key t g : Int) : Int × Int × Int × Int × Int × Int × Bool := if issueB s n u key t g = true then (n, u, key, t, endB t g, khV s [n, u, key, t, endB t g], true) else (0, 0, 0, 0, 0, 0, false)
theorem spec_IssueCert_ev (s n u key t g : Int) : Ev (fun k => spec_IssueCert.f k s n u key t g) (issueV s n u key t g) := by
  unfold spec_IssueCert.f issueV issueB
  simp only [spec_EndOf_eq, Option.bind_some]
  refine Ev.bind (spec_MarkCert_ev s n u key t (endB t g) 0) ?_
  simp only [spec_IsValidKey_eq, spec_IsCert_eq, Option.bind_some]
  cases keyB s <;> by_cases c : g < 0 <;> cases certB n u key t (endB t g) <;> simp [c] <;> exact Ev.now _

-- spec_CenterIssue
def ctIssueV (x : S36) (u key t g : Int) : S36 × Int :=
  let c := issueV x.f4 ((x.f5.length : Int) + 1) u key t g
  if c.2.2.2.2.2.2 = true then if (x.f5.length : Int) ≥ 20 then (x, 0) else (⟨x.f0, x.f1, x.f2, x.f3, x.f4, x.f5 ++ [⟨c.1, c.2.1, c.2.2.1, c.2.2.2.1, c.2.2.2.2.1, c.2.2.2.2.2.1⟩]⟩, (x.f5.length : Int) + 1) else (x, 0)
theorem spec_CenterIssue_ev (x : S36) (u key t g : Int) (h : n36 x ≤ 2097152) : Ev (fun k => spec_CenterIssue.f k x.f0 x.f1 x.f2 x.f3 x.f4 x.f5 u key t g) ((ctIssueV x u key t g).1.f0, (ctIssueV x u key t g).1.f1, (ctIssueV x u key t g).1.f2, (ctIssueV x u key t g).1.f3, (ctIssueV x u key t g).1.f4, (ctIssueV x u key t g).1.f5, (ctIssueV x u key t g).2) := by
  obtain ⟨h0, h0', h1, h1', h2, h3, h5⟩ := ctN h
  unfold spec_CenterIssue.f
  have hw : wrap64 ((x.f5.length : Int) + 1) = (x.f5.length : Int) + 1 := wr (by omega) (by omega)
  refine Ev.bind (spec_l28Copy_ev x h) ?_
  simp only [hw]
  refine Ev.bind (spec_IssueCert_ev x.f4 ((x.f5.length : Int) + 1) u key t g) ?_
  unfold ctIssueV
  have hs : (issueV x.f4 ((x.f5.length : Int) + 1) u key t g).2.2.2.2.2.2 = true → (issueV x.f4 ((x.f5.length : Int) + 1) u key t g).1 = (x.f5.length : Int) + 1 := by
    unfold issueV
    split
    · intro _; rfl
    · intro h; cases h
  generalize issueV x.f4 ((x.f5.length : Int) + 1) u key t g = c at hs ⊢
  simp only []
  by_cases c1 : c.2.2.2.2.2.2 = true
  · simp only [if_pos c1]
    by_cases c2 : (x.f5.length : Int) ≥ 20
    · simp only [if_pos c2]; exact Ev.now _
    · simp only [if_neg c2]
      refine Ev.pos (by omega) ?_
      first | exact Ev.now _ | (rw [hs c1]; exact Ev.now _)
  · simp only [if_neg c1]; exact Ev.now _

-- impl_copyCond
theorem copyI_evN (N : Nat) : ∀ x : S128, n128 x ≤ N → N ≤ 2097152 → Ev (fun k => impl_copyCond.f k x.f0 x.f1 x.f2 x.f3) (x.f0, x.f1, x.f2, x.f3) := by
  induction N using Nat.strongRecOn with
  | _ N ih =>
  intro x h hN
  rw [n128_f] at h
  refine Ev.succ ?_
  simp only [impl_copyCond.f]
  have key : ∀ (d i : Nat), x.f3.length - i = d → i ≤ x.f3.length → Ev (fun k => impl_copyCond.l0 k 0 0 0 [] x.f0 x.f1 x.f2 (x.f3.take i) x.f3 (x.f3.length : Int) (i : Int)) (x.f0, x.f1, x.f2, x.f3) := by
    intro d
    induction d with
    | zero =>
      intro i hd hi
      obtain rfl : i = x.f3.length := by omega
      refine Ev.succ ?_
      simp only [impl_copyCond.l0, Int.lt_irrefl, if_false, List.take_length]
      exact Ev.now _
    | succ d ihd =>
      intro i hd hi
      have hi' : i < x.f3.length := by omega
      obtain ⟨y, hy⟩ := getAt (l := x.f3) (i := i) hi'
      have hn := le_sum n128 hy
      have h1 : ((i : Int) < (x.f3.length : Int)) = True := eq_true (by omega)
      have h2 : (0 ≤ (i : Int)) = True := eq_true (by omega)
      have h3 : ((x.f3.take i).length < 2932031007402) = True := eq_true (by rw [List.length_take]; omega)
      have e := ih (n128 y) (by omega) y (Nat.le_refl _) (by omega)
      have e3 : x.f3.take i ++ [y] = x.f3.take (i + 1) := by rw [List.take_add_one, hy]; rfl
      refine Ev.succ ?_
      simp only [impl_copyCond.l0, h1, h2, if_true, rd_at_T128 hy, wr1 hi' (by omega)]
      refine Ev.bind e ?_
      simp only [h3, if_true, eta128, e3]
      exact ihd (i + 1) (by omega) (by omega)
  exact key x.f3.length 0 (by omega) (by omega)
theorem impl_copyCond_ev (x : S128) (h : n128 x ≤ 2097152) : Ev (fun k => impl_copyCond.f k x.f0 x.f1 x.f2 x.f3) (x.f0, x.f1, x.f2, x.f3) := copyI_evN _ x (Nat.le_refl _) h

-- impl_copyRules
theorem impl_copyRules_ev (l : List S130) (h : l.length ≤ 2097152) (hn : ∀ x ∈ l, n128 x.f3 ≤ 2097152) : Ev (fun k => impl_copyRules.f k l) l := by
  unfold impl_copyRules.f
  have key : ∀ (d i : Nat), l.length - i = d → i ≤ l.length → Ev (fun k => impl_copyRules.l0 k (l.take i) l (l.length : Int) (i : Int)) l := by
    intro d
    induction d with
    | zero =>
      intro i hd hi
      obtain rfl : i = l.length := by omega
      refine Ev.succ ?_
      simp only [impl_copyRules.l0, Int.lt_irrefl, if_false, List.take_length]
      exact Ev.now _
    | succ d ihd =>
      intro i hd hi
      have hi' : i < l.length := by omega
      obtain ⟨y, hy⟩ := getAt (l := l) (i := i) hi'
      have h1 : ((i : Int) < (l.length : Int)) = True := eq_true (by omega)
      have h2 : (0 ≤ (i : Int)) = True := eq_true (by omega)
      have h3 : ((l.take i).length < 1954687338268) = True := eq_true (by rw [List.length_take]; omega)
      have e3 : l.take i ++ [y] = l.take (i + 1) := by rw [List.take_add_one, hy]; rfl
      refine Ev.succ ?_
      simp only [impl_copyRules.l0, h1, h2, if_true, rd_at_T130 hy, wr1 hi' (by omega)]
      refine Ev.bind (impl_copyCond_ev y.f3 (hn y (List.mem_of_getElem? hy))) ?_
      simp only [h3, if_true, eta128, e3]
      exact ihd (i + 1) (by omega) (by omega)
  exact key l.length 0 (by omega) (by omega)

-- impl_copyPolicy
theorem impl_copyPolicy_ev (v : Int) (l : List S130) (h : l.length ≤ 2097152) (hn : ∀ x ∈ l, n128 x.f3 ≤ 2097152) : Ev (fun k => impl_copyPolicy.f k v l) (v, l) := by
  unfold impl_copyPolicy.f
  exact Ev.bind (impl_copyRules_ev l h hn) (Ev.now _)

-- impl_copyEpoch
theorem impl_copyEpoch_ev (x : S93) (h : n93 x ≤ 2097152) : Ev (fun k => impl_copyEpoch.f k x.f0 x.f1 x.f2 x.f3.f0 x.f3.f1) (x.f0, x.f1, x.f2, x.f3.f0, x.f3.f1) := by
  obtain ⟨h1, h2, h3⟩ := epN h
  unfold impl_copyEpoch.f
  refine Ev.pos (by omega) ?_
  exact Ev.bind (impl_copyPolicy_ev x.f3.f0 x.f3.f1 h2 h3) (Ev.now _)

-- impl_copyEpochs
theorem impl_copyEpochs_ev (l : List S93) (h : l.length ≤ 2097152) (hn : ∀ x ∈ l, n93 x ≤ 2097152) : Ev (fun k => impl_copyEpochs.f k l) l := by
  unfold impl_copyEpochs.f
  have key : ∀ (d i : Nat), l.length - i = d → i ≤ l.length → Ev (fun k => impl_copyEpochs.l0 k (l.take i) l (l.length : Int) (i : Int)) l := by
    intro d
    induction d with
    | zero =>
      intro i hd hi
      obtain rfl : i = l.length := by omega
      refine Ev.succ ?_
      simp only [impl_copyEpochs.l0, Int.lt_irrefl, if_false, List.take_length]
      exact Ev.now _
    | succ d ihd =>
      intro i hd hi
      have hi' : i < l.length := by omega
      obtain ⟨y, hy⟩ := getAt (l := l) (i := i) hi'
      have h1 : ((i : Int) < (l.length : Int)) = True := eq_true (by omega)
      have h2 : (0 ≤ (i : Int)) = True := eq_true (by omega)
      have h3 : ((l.take i).length < 1954687338268) = True := eq_true (by rw [List.length_take]; omega)
      have e3 : l.take i ++ [y] = l.take (i + 1) := by rw [List.take_add_one, hy]; rfl
      refine Ev.succ ?_
      simp only [impl_copyEpochs.l0, h1, h2, if_true, rd_at_T93 hy, wr1 hi' (by omega)]
      refine Ev.bind (impl_copyEpoch_ev y (hn y (List.mem_of_getElem? hy))) ?_
      simp only [h3, if_true, e3]
      exact ihd (i + 1) (by omega) (by omega)
  exact key l.length 0 (by omega) (by omega)

-- impl_copyFacts
theorem impl_copyFacts_eq (l : List S96) (h : l.length ≤ 2097152) : impl_copyFacts.f l = some l := by
  unfold impl_copyFacts.f
  rw [if_pos (by omega)]; rfl

-- impl_copyCenter
theorem copyCenter_loop_ev (l : List S86) (a : List S93) (b : List S96) (c : List S100) (s : Int) (e : List S50) (h : l.length ≤ 2097152) (hn : ∀ x ∈ l, x.f1.length ≤ 2097152) : Ev (fun k => impl_copyCenter.l0 k [] [] [] [] 0 [] [] a b c s e l (l.length : Int) 0) (l, a, b, c, s, e) := by
  have key : ∀ (d i : Nat), l.length - i = d → i ≤ l.length → Ev (fun k => impl_copyCenter.l0 k [] [] [] [] 0 [] (l.take i) a b c s e l (l.length : Int) (i : Int)) (l, a, b, c, s, e) := by
    intro d
    induction d with
    | zero =>
      intro i hd hi
      obtain rfl : i = l.length := by omega
      refine Ev.succ ?_
      simp only [impl_copyCenter.l0, Int.lt_irrefl, if_false, List.take_length]
      exact Ev.now _
    | succ d ihd =>
      intro i hd hi
      have hi' : i < l.length := by omega
      obtain ⟨y, hy⟩ := getAt (l := l) (i := i) hi'
      have h1 : ((i : Int) < (l.length : Int)) = True := eq_true (by omega)
      have h2 : (0 ≤ (i : Int)) = True := eq_true (by omega)
      have h3 : ((l.take i).length < 3518437208883) = True := eq_true (by rw [List.length_take]; omega)
      have h4 : (0 + y.f1.length ≤ 17592186044416) = True := eq_true (by have := hn y (List.mem_of_getElem? hy); omega)
      have e3 : l.take i ++ [y] = l.take (i + 1) := by rw [List.take_add_one, hy]; rfl
      refine Ev.succ ?_
      simp only [impl_copyCenter.l0, h1, h2, h3, h4, if_true, rd_at_T86 hy, wr1 hi' (by omega), List.nil_append, e3]
      exact ihd (i + 1) (by omega) (by omega)
  exact key l.length 0 (by omega) (by omega)
theorem impl_copyCenter_ev (x : S36) (h : n36 x ≤ 2097152) : Ev (fun k => impl_copyCenter.f k x.f0 x.f1 x.f2 x.f3 x.f4 x.f5) (x.f0, x.f1, x.f2, x.f3, x.f4, x.f5) := by
  obtain ⟨h0, h0', h1, h1', h2, h3, h5⟩ := ctN h
  unfold impl_copyCenter.f
  refine Ev.bind (impl_copyEpochs_ev x.f1 h1 h1') ?_
  simp only [impl_copyFacts_eq x.f2 h2, Option.bind_some, List.nil_append]
  exact Ev.pos (by omega) (Ev.pos (by omega) (copyCenter_loop_ev x.f0 x.f1 x.f2 x.f3 x.f4 x.f5 h0 h0'))

-- impl_InRange
theorem impl_InRange_eq (a b c : Int) : impl_InRange.f a b c = some (inB a b c) := by
  unfold impl_InRange.f
  rw [ite_dand]; rfl

-- impl_IsTime
theorem impl_IsTime_eq (a : Int) : impl_IsTime.f a = some (timeB a) := by
  unfold impl_IsTime.f
  rw [impl_InRange_eq]; rfl

-- impl_EndOf
theorem impl_EndOf_eq (a b : Int) : impl_EndOf.f a b = some (endB a b) := by
  unfold impl_EndOf.f endB
  simp only [impl_IsTime_eq, impl_InRange_eq, Option.bind_some]
  by_cases c : timeB a = true
  · by_cases c2 : inB b 0 10000 = true
    · have h1 := timeB_iff.1 c
      have h2 := timeB_iff.1 (show timeB b = true from c2)
      simp only [if_pos c, if_pos c2, if_pos (show timeB a = true ∧ timeB b = true from ⟨c, c2⟩), wr (x := a + b) (by omega) (by omega)]
      try rfl
    · simp only [if_pos c, if_neg c2, if_neg (show ¬ (timeB a = true ∧ timeB b = true) from fun h => c2 h.2)]
  · simp only [if_neg c, if_neg (show ¬ (timeB a = true ∧ timeB b = true) from fun h => c h.1)]

-- slices_Grow_int_int
-- told where Concat is

-- slices_Concat100
theorem slices_Grow_int_int_eq (l : List Int) (n : Int) (h0 : 0 < n) (h1 : n < 2199023255552) : slices_Grow_int_int.f l n = some [] := by
  unfold slices_Grow_int_int.f
  rw [if_pos h0, if_pos h1]
theorem slices_Concat100_ev (ll : List (List Int)) (h0 : 0 < ll.flatten.length) (h1 : ll.flatten.length ≤ 2097152) (hl : ll.length ≤ 2097152) : Ev (fun k => slices_Concat100.f k ll) ll.flatten := by
  have hrd : ∀ {i : Nat} {x : List Int}, ll[i]? = some x → ll.getD (i : Int).toNat [] = x := fun hx => getD_nat ll [] _ _ hx
  unfold slices_Concat100.f
  have hsum : ∀ (l : List (List Int)) (s : Int), l.foldl (fun s x => s + (x.length : Int)) s = s + (l.flatten.length : Int) := by
    intro l
    induction l with
    | nil => intro s; simp
    | cons x l ih => intro s; rw [List.foldl_cons, ih]; simp only [List.flatten_cons, List.length_append]; omega
  have hin : ∀ (i : Nat) x, ll[i]? = some x → (ll.take (i + 1)).flatten.length = (ll.take i).flatten.length + x.length := by
    intro i x hx
    rw [List.take_add_one, hx, List.flatten_append, List.length_append]
    simp
  have hle : ∀ i : Nat, (ll.take i).flatten.length ≤ ll.flatten.length := by
    intro i
    conv => rhs; rw [← List.take_append_drop i ll]
    rw [List.flatten_append, List.length_append]; omega
  refine Ev.eqv (a := (fun s : Int => if 0 < s ∧ s < 2199023255552 then ll.flatten else []) (ll.foldl (fun s x => s + (x.length : Int)) 0)) (by simp only [hsum]; rw [if_pos (by omega)]) ?_
  refine ev_fold ll (fun (s : Int) x => s + (x.length : Int)) (fun s : Int => if 0 < s ∧ s < 2199023255552 then ll.flatten else []) (fun i s => s = ((ll.take i).flatten.length : Int)) (fun k s i => slices_Concat100.l0 k ll s ll (ll.length : Int) i) ?_ ?_ ?_ 0 (by simp)
  · intro s hs
    rw [List.take_length] at hs
    refine Ev.succ ?_
    simp only [slices_Concat100.l0, Int.lt_irrefl, if_false]
    rw [slices_Grow_int_int_eq [] s (by omega) (by omega), if_pos (by omega)]
    simp only [Option.bind_some]
    refine Ev.eqv (a := (fun o : List Int => o) (ll.foldl (fun o x => o ++ x) [])) ?_ ?_
    · have : ∀ (l : List (List Int)) (o : List Int), l.foldl (fun o x => o ++ x) o = o ++ l.flatten := by
        intro l
        induction l with
        | nil => intro o; simp
        | cons x l ih => intro o; rw [List.foldl_cons, ih]; simp
      rw [this]; rfl
    · refine ev_fold ll (fun (o : List Int) x => o ++ x) (fun o => o) (fun i o => o.length = (ll.take i).flatten.length) (fun k o i => slices_Concat100.l1 k o ll (ll.length : Int) i) ?_ ?_ ?_ [] (by simp)
      · intro o _
        refine Ev.succ ?_
        simp only [slices_Concat100.l1, Int.lt_irrefl, if_false]
        exact Ev.now _
      · intro i x o hx ho
        rw [List.length_append, ho, hin i x hx]
      · intro i x o r hx ho hr
        have hi := lt_of_get hx
        have h1' : ((i : Int) < (ll.length : Int)) = True := eq_true (by omega)
        have h2' : (0 ≤ (i : Int)) = True := eq_true (by omega)
        have e1 := hin i x hx
        have e2 := hle (i + 1)
        have e3 : rdOf ([] : List Int) ll (i : Int) = x := getD_nat ll [] i x hx
        refine Ev.succ ?_
        simp only [slices_Concat100.l1, h1', h2', if_true, e3, wr1 hi (by omega)]
        exact Ev.pos (by omega) hr
  · intro i x s hx hs
    rw [hs, hin i x hx]; omega
  · intro i x s r hx hs hr
    have hi := lt_of_get hx
    have h1' : ((i : Int) < (ll.length : Int)) = True := eq_true (by omega)
    have h2' : (0 ≤ (i : Int)) = True := eq_true (by omega)
    have e1 := hin i x hx
    have e2 := hle (i + 1)
    have e3 : rdOf ([] : List Int) ll (i : Int) = x := getD_nat ll [] i x hx
    have e4 : wrap64 (s + (x.length : Int)) = s + (x.length : Int) := wr (by omega) (by omega)
    refine Ev.succ ?_
    simp only [slices_Concat100.l0, h1', h2', if_true, e3, e4, wr1 hi (by omega)]
    exact Ev.neg (by omega) hr

-- impl_Mod
theorem impl_Mod_eq (a : Int) : impl_Mod.f a 2147483647 = some (mdV a) := by
  unfold impl_Mod.f; rw [impl_InRange_eq]; rfl

-- impl_Hash
theorem impl_Hash_ev (l : List Int) (h : l.length ≤ 2097152) : Ev (fun k => impl_Hash.f k l) (hashV l) := by
  unfold impl_Hash.f hashV
  refine ev_fold l hsX (fun s => s) (fun _ _ => True) (fun k s i => impl_Hash.l0 k s l (l.length : Int) i) ?_ (fun _ _ _ _ _ => trivial) ?_ 11 trivial
  · intro s _
    refine Ev.succ ?_
    simp only [impl_Hash.l0, Int.lt_irrefl, if_false]
    exact Ev.now _
  · intro i x s r hx _ hr
    have hi := lt_of_get hx
    have h1 : ((i : Int) < (l.length : Int)) = True := eq_true (by omega)
    have h2 : (0 ≤ (i : Int)) = True := eq_true (by omega)
    refine Ev.succ ?_
    simp only [impl_Hash.l0, h1, h2, if_true, rd_nat l i x hx, impl_Mod_eq, Option.bind_some, wr1 hi (by omega)]
    exact hr

-- impl_KeyedHash
theorem impl_KeyedHash_ev (a : Int) (l : List Int) (h : l.length ≤ 1000) : Ev (fun k => impl_KeyedHash.f k a l) (khV a l) := by
  unfold impl_KeyedHash.f khV
  have e : ([[a], l, [a]] : List (List Int)).flatten = [a] ++ l ++ [a] := by simp
  refine Ev.bind (slices_Concat100_ev _ (by rw [e]; simp) (by rw [e]; simp only [List.length_append, List.length_singleton]; omega) (by simp)) ?_
  rw [e]
  exact Ev.bind (impl_Hash_ev _ (by simp only [List.length_append, List.length_singleton]; omega)) (Ev.now _)

-- impl_MarkCert
theorem impl_MarkCert_ev (s a b c d e g : Int) : Ev (fun k => impl_MarkCert.f k s a b c d e g) (a, b, c, d, e, khV s [a, b, c, d, e]) := by
  unfold impl_MarkCert.f
  exact Ev.bind (impl_KeyedHash_ev s [a, b, c, d, e] (by simp)) (Ev.now _)

-- impl_IsValidKey
theorem impl_IsValidKey_eq (a : Int) : impl_IsValidKey.f a = some (keyB a) := by
  unfold impl_IsValidKey.f; rw [impl_InRange_eq]; rfl

-- impl_IsName
theorem impl_IsName_eq (a : Int) : impl_IsName.f a = some (nameB a) := by
  unfold impl_IsName.f
  rw [impl_InRange_eq]; rfl

-- impl_IsCert
theorem impl_IsCert_eq (a b c d e g : Int) : impl_IsCert.f a b c d e g = some (certB a b c d e) := by
  have key : timeB d = true → timeB e = true → wrap64 (e - d) = e - d := by
    intro hd he
    unfold timeB at hd he
    rw [inB_iff] at hd he
    exact wr (by omega) (by omega)
  unfold impl_IsCert.f certB
  simp only [impl_InRange_eq, impl_IsName_eq, impl_IsValidKey_eq, impl_IsTime_eq, Option.bind_some]
  cases inB a 1 9999 with
  | false => rfl
  | true => cases nameB b with
    | false => rfl
    | true => cases keyB c with
      | false => rfl
      | true => cases hd : timeB d with
        | false => rfl
        | true => cases he : timeB e with
          | false => rfl
          | true => simp only [if_true, Bool.true_and, key hd he]

-- impl_IssueCert
theorem impl_IssueCert_ev (s n u key t g : Int) : Ev (fun k => impl_IssueCert.f k s n u key t g) (issueV s n u key t g) := by
  unfold impl_IssueCert.f issueV issueB
  simp only [impl_EndOf_eq, Option.bind_some]
  refine Ev.bind (impl_MarkCert_ev s n u key t (endB t g) 0) ?_
  simp only [impl_IsValidKey_eq, impl_IsCert_eq, Option.bind_some]
  cases keyB s <;> by_cases c : g < 0 <;> cases certB n u key t (endB t g) <;> simp [c] <;> exact Ev.now _

-- impl_CenterIssue
theorem impl_CenterIssue_ev (x : S36) (u key t g : Int) (h : n36 x ≤ 2097152) : Ev (fun k => impl_CenterIssue.f k x.f0 x.f1 x.f2 x.f3 x.f4 x.f5 u key t g) ((ctIssueV x u key t g).1.f0, (ctIssueV x u key t g).1.f1, (ctIssueV x u key t g).1.f2, (ctIssueV x u key t g).1.f3, (ctIssueV x u key t g).1.f4, (ctIssueV x u key t g).1.f5, (ctIssueV x u key t g).2) := by
  obtain ⟨h0, h0', h1, h1', h2, h3, h5⟩ := ctN h
  unfold impl_CenterIssue.f
  have hw : wrap64 ((x.f5.length : Int) + 1) = (x.f5.length : Int) + 1 := wr (by omega) (by omega)
  refine Ev.bind (impl_copyCenter_ev x h) ?_
  simp only [hw]
  refine Ev.bind (impl_IssueCert_ev x.f4 ((x.f5.length : Int) + 1) u key t g) ?_
  unfold ctIssueV
  have hs : (issueV x.f4 ((x.f5.length : Int) + 1) u key t g).2.2.2.2.2.2 = true → (issueV x.f4 ((x.f5.length : Int) + 1) u key t g).1 = (x.f5.length : Int) + 1 := by
    unfold issueV
    split
    · intro _; rfl
    · intro h; cases h
  generalize issueV x.f4 ((x.f5.length : Int) + 1) u key t g = c at hs ⊢
  simp only []
  by_cases c1 : c.2.2.2.2.2.2 = true
  · simp only [if_pos c1]
    by_cases c2 : (x.f5.length : Int) ≥ 20
    · simp only [if_pos c2]; exact Ev.now _
    · simp only [if_neg c2]
      refine Ev.pos (by omega) ?_
      first | exact Ev.now _ | (rw [hs c1]; exact Ev.now _)
  · simp only [if_neg c1]; exact Ev.now _

-- laws_eqIntS
theorem laws_eqIntS_refl (l : List Int) (h : l.length ≤ 2097152) : Ev (fun k => laws_eqIntS.f k l l) true := by
  unfold laws_eqIntS.f
  refine Ev.pos rfl ?_
  refine ev_walk l (fun k i => laws_eqIntS.l0 k l l i) true ?_ ?_
  · refine Ev.succ ?_
    simp only [laws_eqIntS.l0, Int.lt_irrefl, if_false]
    exact Ev.now _
  · intro i x hx hr
    have hi := lt_of_get hx
    have h1 : ((i : Int) < (l.length : Int)) = True := eq_true (by omega)
    have h2 : (0 ≤ (i : Int)) = True := eq_true (by omega)
    refine Ev.succ ?_
    simp only [laws_eqIntS.l0, h1, h2, if_true, rd_nat l i x hx, wr1 hi (by omega)]
    exact hr

-- laws_eqIssuer
theorem laws_eqIssuer_refl (x : S86) (h : n86 x ≤ 2097152) : Ev (fun k => laws_eqIssuer.f k x.f0 x.f1 x.f2 x.f0 x.f1 x.f2) true := by
  unfold n86 at h
  unfold laws_eqIssuer.f
  simp only [if_true, bne_self_eq_false, Bool.false_eq_true, if_false]
  repeat (first | exact Ev.now _ | (refine Ev.bind (laws_eqIntS_refl _ (by omega)) ?_; simp only [if_true, bne_self_eq_false, Bool.false_eq_true, if_false]))

-- laws_eqIssuerS
theorem laws_eqIssuerS_refl (l : List (S86)) (h : l.length + (l.map n86).sum ≤ 2097152) : Ev (fun k => laws_eqIssuerS.f k l l) true := by
  unfold laws_eqIssuerS.f
  refine Ev.pos rfl ?_
  refine ev_walk l (fun k i => laws_eqIssuerS.l0 k l l i) true ?_ ?_
  · refine Ev.succ ?_
    simp only [laws_eqIssuerS.l0, Int.lt_irrefl, if_false]
    exact Ev.now _
  · intro i x hx hr
    have hi := lt_of_get hx
    have h1 : ((i : Int) < (l.length : Int)) = True := eq_true (by omega)
    have h2 : (0 ≤ (i : Int)) = True := eq_true (by omega)
    refine Ev.succ ?_
    simp only [laws_eqIssuerS.l0, h1, h2, if_true, rd_at_T86 hx, wr1 hi (by omega)]
    refine Ev.bind (laws_eqIssuer_refl x (by have := le_sum n86 hx; omega)) ?_
    simp only [if_true]
    exact hr

-- laws_eqIncludes
theorem laws_eqIncludes_refl (x : S125) : laws_eqIncludes.f x.f0 x.f1 x.f0 x.f1 = some true := by
  unfold laws_eqIncludes.f
  simp

-- laws_eqIncludesS
theorem laws_eqIncludesS_refl (l : List (S125)) (h : l.length ≤ 2097152) : Ev (fun k => laws_eqIncludesS.f k l l) true := by
  unfold laws_eqIncludesS.f
  refine Ev.pos rfl ?_
  refine ev_walk l (fun k i => laws_eqIncludesS.l0 k l l i) true ?_ ?_
  · refine Ev.succ ?_
    simp only [laws_eqIncludesS.l0, Int.lt_irrefl, if_false]
    exact Ev.now _
  · intro i x hx hr
    have hi := lt_of_get hx
    have h1 : ((i : Int) < (l.length : Int)) = True := eq_true (by omega)
    have h2 : (0 ≤ (i : Int)) = True := eq_true (by omega)
    refine Ev.succ ?_
    simp only [laws_eqIncludesS.l0, h1, h2, if_true, rd_at_T125 hx, wr1 hi (by omega), laws_eqIncludes_refl x, Option.bind_some]
    exact hr

-- laws_eqCondS
theorem laws_eqCondS_reflN (N : Nat) : ∀ l : List S128, l.length + (l.map n128).sum ≤ N → N ≤ 2097152 → Ev (fun k => laws_eqCondS.f k l l) true := by
  induction N using Nat.strongRecOn with
  | _ N ih =>
  intro l h hN
  refine Ev.succ ?_
  simp only [laws_eqCondS.f]
  refine Ev.pos (by first | trivial | rfl) ?_
  refine ev_walk l (fun k i => laws_eqCondS.l0 k l l i) true ?_ ?_
  · refine Ev.succ ?_
    simp only [laws_eqCondS.l0, Int.lt_irrefl, if_false]
    exact Ev.now _
  · intro i x hx hr
    have hi := lt_of_get hx
    have h1 : ((i : Int) < (l.length : Int)) = True := eq_true (by omega)
    have h2 : (0 ≤ (i : Int)) = True := eq_true (by omega)
    have hn := le_sum n128 hx
    rw [n128_f] at hn
    have e := ih (x.f3.length + (x.f3.map n128).sum) (by omega) x.f3 (Nat.le_refl _) (by omega)
    have e' : Ev (fun k => laws_eqCond.f k x.f0 x.f1 x.f2 x.f3 x.f0 x.f1 x.f2 x.f3) true := by
      refine Ev.succ ?_
      simp only [laws_eqCond.f, if_true]
      refine Ev.bind e ?_
      simp only [if_true]
      exact Ev.now _
    refine Ev.succ ?_
    simp only [laws_eqCondS.l0, h1, h2, if_true, rd_at_T128 hx, wr1 hi (by omega)]
    refine Ev.bind e' ?_
    simp only [if_true]
    exact hr
theorem laws_eqCondS_refl (l : List S128) (h : l.length + (l.map n128).sum ≤ 2097152) : Ev (fun k => laws_eqCondS.f k l l) true := laws_eqCondS_reflN _ l (Nat.le_refl _) h
theorem laws_eqCond_refl (x : S128) (h : n128 x ≤ 2097152) : Ev (fun k => laws_eqCond.f k x.f0 x.f1 x.f2 x.f3 x.f0 x.f1 x.f2 x.f3) true := by
  rw [n128_f] at h
  refine Ev.succ ?_
  simp only [laws_eqCond.f, if_true]
  refine Ev.bind (laws_eqCondS_refl x.f3 h) ?_
  simp only [if_true]
  exact Ev.now _

-- laws_eqCond


-- laws_eqRule
theorem laws_eqRule_refl (x : S130) (h : n130 x ≤ 2097152) : Ev (fun k => laws_eqRule.f k x.f0 x.f1 x.f2 x.f3.f0 x.f3.f1 x.f3.f2 x.f3.f3 x.f0 x.f1 x.f2 x.f3.f0 x.f3.f1 x.f3.f2 x.f3.f3) true := by
  unfold n130 at h
  unfold laws_eqRule.f
  simp only [if_true, bne_self_eq_false, Bool.false_eq_true, if_false]
  repeat (first | exact Ev.now _ | (refine Ev.bind (laws_eqCond_refl _ (by omega)) ?_; simp only [if_true, bne_self_eq_false, Bool.false_eq_true, if_false]))

-- laws_eqRuleS
theorem laws_eqRuleS_refl (l : List (S130)) (h : l.length + (l.map n130).sum ≤ 2097152) : Ev (fun k => laws_eqRuleS.f k l l) true := by
  unfold laws_eqRuleS.f
  refine Ev.pos rfl ?_
  refine ev_walk l (fun k i => laws_eqRuleS.l0 k l l i) true ?_ ?_
  · refine Ev.succ ?_
    simp only [laws_eqRuleS.l0, Int.lt_irrefl, if_false]
    exact Ev.now _
  · intro i x hx hr
    have hi := lt_of_get hx
    have h1 : ((i : Int) < (l.length : Int)) = True := eq_true (by omega)
    have h2 : (0 ≤ (i : Int)) = True := eq_true (by omega)
    refine Ev.succ ?_
    simp only [laws_eqRuleS.l0, h1, h2, if_true, rd_at_T130 hx, wr1 hi (by omega)]
    refine Ev.bind (laws_eqRule_refl x (by have := le_sum n130 hx; omega)) ?_
    simp only [if_true]
    exact hr

-- laws_eqPolicy
theorem laws_eqPolicy_refl (x : S91) (h : n91 x ≤ 2097152) : Ev (fun k => laws_eqPolicy.f k x.f0 x.f1 x.f0 x.f1) true := by
  unfold n91 at h
  unfold laws_eqPolicy.f
  simp only [if_true, bne_self_eq_false, Bool.false_eq_true, if_false]
  repeat (first | exact Ev.now _ | (refine Ev.bind (laws_eqRuleS_refl _ (by omega)) ?_; simp only [if_true, bne_self_eq_false, Bool.false_eq_true, if_false]))

-- laws_eqEpoch
theorem laws_eqEpoch_refl (x : S93) (h : n93 x ≤ 2097152) : Ev (fun k => laws_eqEpoch.f k x.f0 x.f1 x.f2 x.f3.f0 x.f3.f1 x.f0 x.f1 x.f2 x.f3.f0 x.f3.f1) true := by
  unfold n93 at h
  unfold laws_eqEpoch.f
  simp only [if_true, bne_self_eq_false, Bool.false_eq_true, if_false]
  repeat (first | exact Ev.now _ | (refine Ev.bind (laws_eqIncludesS_refl _ (by omega)) ?_; simp only [if_true, bne_self_eq_false, Bool.false_eq_true, if_false]) | (refine Ev.bind (laws_eqPolicy_refl _ (by omega)) ?_; simp only [if_true, bne_self_eq_false, Bool.false_eq_true, if_false]))

-- laws_eqEpochS
theorem laws_eqEpochS_refl (l : List (S93)) (h : l.length + (l.map n93).sum ≤ 2097152) : Ev (fun k => laws_eqEpochS.f k l l) true := by
  unfold laws_eqEpochS.f
  refine Ev.pos rfl ?_
  refine ev_walk l (fun k i => laws_eqEpochS.l0 k l l i) true ?_ ?_
  · refine Ev.succ ?_
    simp only [laws_eqEpochS.l0, Int.lt_irrefl, if_false]
    exact Ev.now _
  · intro i x hx hr
    have hi := lt_of_get hx
    have h1 : ((i : Int) < (l.length : Int)) = True := eq_true (by omega)
    have h2 : (0 ≤ (i : Int)) = True := eq_true (by omega)
    refine Ev.succ ?_
    simp only [laws_eqEpochS.l0, h1, h2, if_true, rd_at_T93 hx, wr1 hi (by omega)]
    refine Ev.bind (laws_eqEpoch_refl x (by have := le_sum n93 hx; omega)) ?_
    simp only [if_true]
    exact hr

-- laws_eqFact
theorem laws_eqFact_refl (x : S96) : laws_eqFact.f x.f0 x.f1 x.f2 x.f3 x.f4 x.f5 x.f0 x.f1 x.f2 x.f3 x.f4 x.f5 = some true := by
  unfold laws_eqFact.f
  simp

-- laws_eqFactS
theorem laws_eqFactS_refl (l : List (S96)) (h : l.length ≤ 2097152) : Ev (fun k => laws_eqFactS.f k l l) true := by
  unfold laws_eqFactS.f
  refine Ev.pos rfl ?_
  refine ev_walk l (fun k i => laws_eqFactS.l0 k l l i) true ?_ ?_
  · refine Ev.succ ?_
    simp only [laws_eqFactS.l0, Int.lt_irrefl, if_false]
    exact Ev.now _
  · intro i x hx hr
    have hi := lt_of_get hx
    have h1 : ((i : Int) < (l.length : Int)) = True := eq_true (by omega)
    have h2 : (0 ≤ (i : Int)) = True := eq_true (by omega)
    refine Ev.succ ?_
    simp only [laws_eqFactS.l0, h1, h2, if_true, rd_at_T96 hx, wr1 hi (by omega), laws_eqFact_refl x, Option.bind_some]
    exact hr

-- laws_eqRevoked
theorem laws_eqRevoked_refl (x : S100) : laws_eqRevoked.f x.f0 x.f1 x.f0 x.f1 = some true := by
  unfold laws_eqRevoked.f
  simp

-- laws_eqRevokedS
theorem laws_eqRevokedS_refl (l : List (S100)) (h : l.length ≤ 2097152) : Ev (fun k => laws_eqRevokedS.f k l l) true := by
  unfold laws_eqRevokedS.f
  refine Ev.pos rfl ?_
  refine ev_walk l (fun k i => laws_eqRevokedS.l0 k l l i) true ?_ ?_
  · refine Ev.succ ?_
    simp only [laws_eqRevokedS.l0, Int.lt_irrefl, if_false]
    exact Ev.now _
  · intro i x hx hr
    have hi := lt_of_get hx
    have h1 : ((i : Int) < (l.length : Int)) = True := eq_true (by omega)
    have h2 : (0 ≤ (i : Int)) = True := eq_true (by omega)
    refine Ev.succ ?_
    simp only [laws_eqRevokedS.l0, h1, h2, if_true, rd_at_T100 hx, wr1 hi (by omega), laws_eqRevoked_refl x, Option.bind_some]
    exact hr

-- laws_eqCert
theorem laws_eqCert_refl (x : S50) : laws_eqCert.f x.f0 x.f1 x.f2 x.f3 x.f4 x.f5 x.f0 x.f1 x.f2 x.f3 x.f4 x.f5 = some true := by
  unfold laws_eqCert.f
  simp

-- laws_eqCertS
theorem laws_eqCertS_refl (l : List (S50)) (h : l.length ≤ 2097152) : Ev (fun k => laws_eqCertS.f k l l) true := by
  unfold laws_eqCertS.f
  refine Ev.pos rfl ?_
  refine ev_walk l (fun k i => laws_eqCertS.l0 k l l i) true ?_ ?_
  · refine Ev.succ ?_
    simp only [laws_eqCertS.l0, Int.lt_irrefl, if_false]
    exact Ev.now _
  · intro i x hx hr
    have hi := lt_of_get hx
    have h1 : ((i : Int) < (l.length : Int)) = True := eq_true (by omega)
    have h2 : (0 ≤ (i : Int)) = True := eq_true (by omega)
    refine Ev.succ ?_
    simp only [laws_eqCertS.l0, h1, h2, if_true, rd_at_T50 hx, wr1 hi (by omega), laws_eqCert_refl x, Option.bind_some]
    exact hr

-- laws_eqCenter
theorem laws_eqCenter_refl (x : S36) (h : n36 x ≤ 2097152) : Ev (fun k => laws_eqCenter.f k x.f0 x.f1 x.f2 x.f3 x.f4 x.f5 x.f0 x.f1 x.f2 x.f3 x.f4 x.f5) true := by
  unfold n36 at h
  unfold laws_eqCenter.f
  simp only [if_true, bne_self_eq_false, Bool.false_eq_true, if_false]
  repeat (first | exact Ev.now _ | (refine Ev.bind (laws_eqIssuerS_refl _ (by omega)) ?_; simp only [if_true, bne_self_eq_false, Bool.false_eq_true, if_false]) | (refine Ev.bind (laws_eqEpochS_refl _ (by omega)) ?_; simp only [if_true, bne_self_eq_false, Bool.false_eq_true, if_false]) | (refine Ev.bind (laws_eqFactS_refl _ (by omega)) ?_; simp only [if_true, bne_self_eq_false, Bool.false_eq_true, if_false]) | (refine Ev.bind (laws_eqRevokedS_refl _ (by omega)) ?_; simp only [if_true, bne_self_eq_false, Bool.false_eq_true, if_false]) | (refine Ev.bind (laws_eqCertS_refl _ (by omega)) ?_; simp only [if_true, bne_self_eq_false, Bool.false_eq_true, if_false]))

-- laws_markIntS
def ctI (x : Int) : Nat := 1
def mkI (x : Int) (n : Int) : Int × Int := (n, n + 1)
theorem mkI_up (x : Int) (n : Int) : (mkI x n).2 = n + (ctI x : Nat) := by
  simp only [mkI, ctI]
  omega
theorem ctI_bd (x : Int) : ctI x ≤ 8 := by simp only [ctI]; omega
theorem laws_markIntS_ev (l : List Int) (h : l.length ≤ 2097152) (n : Int) (h0 : 0 ≤ n) (hB : n + ((l.map ctI).sum : Nat) ≤ 4611686018427387904) : Ev (fun k => laws_markIntS.f k l n) (n + ((l.map ctI).sum : Nat), (acc mkI l n).1) := by
  unfold laws_markIntS.f
  refine Ev.eqv (by rw [acc_up mkI ctI mkI_up]) (ev_markB mkI ctI 4611686018427387904 mkI_up (fun k l n i => laws_markIntS.l0 k l n i) l ?_ ?_ n h0 hB)
  · intro l' n hl
    refine Ev.succ ?_
    simp only [laws_markIntS.l0, hl, Int.lt_irrefl, if_false]
    exact Ev.now _
  · intro l' i x n r hl hm hx h0 hc hr
    have hi := lt_of_get hx
    have h1 : ((i : Int) < (l'.length : Int)) = True := eq_true (by omega)
    have h2 : (0 ≤ (i : Int)) = True := eq_true (by omega)
    simp only [ctI] at hc
    have e0 : wrap64 (n + 1) = n + 1 := wr (by omega) (by omega)
    simp only [mkI] at hr
    refine Ev.succ ?_
    simp only [laws_markIntS.l0, h1, h2, if_true, Option.bind_some, List.length_set, List.set_set, Int.toNat_natCast, wr1 hi (by omega), rd_nat l' i _ hx, List.length_set, e0]
    exact hr

-- laws_markIssuerS
def ct86 (x : S86) : Nat := 2 + (x.f1.map ctI).sum
def mk86 (x : S86) (n : Int) : S86 × Int := ((⟨n, (acc mkI x.f1 (n + 1)).1, n + 1 + ((x.f1.map ctI).sum : Nat)⟩ : S86), n + 1 + ((x.f1.map ctI).sum : Nat) + 1)
theorem mk86_up (x : S86) (n : Int) : (mk86 x n).2 = n + (ct86 x : Nat) := by
  simp only [mk86, ct86]
  omega
theorem ct86_bd (x : S86) : ct86 x ≤ 8 + 8 * n86 x := by
  have b0 := sum_ct0 ctI x.f1 ctI_bd
  simp only [ct86, n86]
  omega
theorem rds_T86 {l : List S86} {i : Nat} {v : S86} (h : i < l.length) : rd_T86 (l.set i v) (i : Int) = v := rd_at_T86 (List.getElem?_set_self h)
theorem laws_markIssuerS_ev (l : List S86) (h : l.length + (l.map n86).sum ≤ 2097152) (n : Int) (h0 : 0 ≤ n) (hB : n + ((l.map ct86).sum : Nat) ≤ 4611686018427387904) : Ev (fun k => laws_markIssuerS.f k l n) (n + ((l.map ct86).sum : Nat), (acc mk86 l n).1) := by
  unfold laws_markIssuerS.f
  refine Ev.eqv (by rw [acc_up mk86 ct86 mk86_up]) (ev_markB mk86 ct86 4611686018427387904 mk86_up (fun k l n i => laws_markIssuerS.l0 k l n i) l ?_ ?_ n h0 hB)
  · intro l' n hl
    refine Ev.succ ?_
    simp only [laws_markIssuerS.l0, hl, Int.lt_irrefl, if_false]
    exact Ev.now _
  · intro l' i x n r hl hm hx h0 hc hr
    have hi := lt_of_get hx
    have h1 : ((i : Int) < (l'.length : Int)) = True := eq_true (by omega)
    have h2 : (0 ≤ (i : Int)) = True := eq_true (by omega)
    simp only [ct86] at hc
    obtain ⟨jm, hjm⟩ := List.getElem?_of_mem hm
    have hn := le_sum n86 hjm
    simp only [n86] at hn
    have e0 : wrap64 (n + 1) = n + 1 := wr (by omega) (by omega)
    have e1 : wrap64 (n + 1 + ((x.f1.map ctI).sum : Nat) + 1) = n + 1 + ((x.f1.map ctI).sum : Nat) + 1 := wr (by omega) (by omega)
    simp only [mk86] at hr
    refine Ev.succ ?_
    simp only [laws_markIssuerS.l0, h1, h2, if_true, Option.bind_some, List.length_set, List.set_set, Int.toNat_natCast, wr1 hi (by omega), rd_at_T86 hx, rds_T86 hi, e0, e1]
    refine Ev.bind (laws_markIntS_ev x.f1 (by omega) (n + 1) (by omega) (by omega)) ?_
    (try simp only [h1, h2, if_true, Option.bind_some, List.length_set, List.set_set, Int.toNat_natCast, wr1 hi (by omega), rd_at_T86 hx, rds_T86 hi, e0, e1])
    exact hr

-- laws_markIncludesS
def ct125 (x : S125) : Nat := 2
def mk125 (x : S125) (n : Int) : S125 × Int := ((⟨n, n + 1⟩ : S125), n + 1 + 1)
theorem mk125_up (x : S125) (n : Int) : (mk125 x n).2 = n + (ct125 x : Nat) := by
  simp only [mk125, ct125]
  omega
theorem ct125_bd (x : S125) : ct125 x ≤ 8 := by simp only [ct125]; omega
theorem rds_T125 {l : List S125} {i : Nat} {v : S125} (h : i < l.length) : rd_T125 (l.set i v) (i : Int) = v := rd_at_T125 (List.getElem?_set_self h)
theorem laws_markIncludesS_ev (l : List S125) (h : l.length ≤ 2097152) (n : Int) (h0 : 0 ≤ n) (hB : n + ((l.map ct125).sum : Nat) ≤ 4611686018427387904) : Ev (fun k => laws_markIncludesS.f k l n) (n + ((l.map ct125).sum : Nat), (acc mk125 l n).1) := by
  unfold laws_markIncludesS.f
  refine Ev.eqv (by rw [acc_up mk125 ct125 mk125_up]) (ev_markB mk125 ct125 4611686018427387904 mk125_up (fun k l n i => laws_markIncludesS.l0 k l n i) l ?_ ?_ n h0 hB)
  · intro l' n hl
    refine Ev.succ ?_
    simp only [laws_markIncludesS.l0, hl, Int.lt_irrefl, if_false]
    exact Ev.now _
  · intro l' i x n r hl hm hx h0 hc hr
    have hi := lt_of_get hx
    have h1 : ((i : Int) < (l'.length : Int)) = True := eq_true (by omega)
    have h2 : (0 ≤ (i : Int)) = True := eq_true (by omega)
    simp only [ct125] at hc
    have e0 : wrap64 (n + 1) = n + 1 := wr (by omega) (by omega)
    have e1 : wrap64 (n + 1 + 1) = n + 1 + 1 := wr (by omega) (by omega)
    simp only [mk125] at hr
    refine Ev.succ ?_
    simp only [laws_markIncludesS.l0, h1, h2, if_true, Option.bind_some, List.length_set, List.set_set, Int.toNat_natCast, wr1 hi (by omega), rd_at_T125 hx, rds_T125 hi, e0, e1]
    exact hr

-- laws_markCondS
mutual
def mk128 : S128 → Int → S128 × Int
  | ⟨_, _, _, l⟩, n => (⟨n, n + 1, n + 1 + 1, (mkL128 l (n + 1 + 1 + 1)).1⟩, n + 1 + 1 + 1 + (ctL128 l : Nat))
def mkL128 : List S128 → Int → List S128 × Int
  | [], n => ([], n)
  | x :: l, n => ((mk128 x n).1 :: (mkL128 l (mk128 x n).2).1, (mkL128 l (mk128 x n).2).2)
def ct128 : S128 → Nat
  | ⟨_, _, _, l⟩ => 3 + ctL128 l
def ctL128 : List S128 → Nat
  | [] => 0
  | x :: l => ct128 x + ctL128 l
end
theorem ctL_eq : ∀ l : List S128, ctL128 l = (l.map ct128).sum
  | [] => by simp [ctL128]
  | x :: l => by simp [ctL128, ctL_eq l]
theorem mkL_eq : ∀ (l : List S128) (n : Int), mkL128 l n = acc mk128 l n
  | [], n => by simp [mkL128, acc]
  | x :: l, n => by simp only [mkL128, acc, mkL_eq l]
theorem ctC_f (x : S128) : ct128 x = 3 + (x.f3.map ct128).sum := by
  cases x
  simp only [ct128, ctL_eq]
theorem mkC_f (x : S128) (n : Int) : mk128 x n = (⟨n, n + 1, n + 1 + 1, (acc mk128 x.f3 (n + 1 + 1 + 1)).1⟩, n + 1 + 1 + 1 + ((x.f3.map ct128).sum : Nat)) := by
  cases x
  simp only [mk128, mkL_eq, ctL_eq]
theorem mk128_up (x : S128) (n : Int) : (mk128 x n).2 = n + (ct128 x : Nat) := by
  rw [mkC_f, ctC_f]
  simp only []
  omega
theorem ctC_bdN (N : Nat) : ∀ x : S128, n128 x ≤ N → ct128 x ≤ 8 + 8 * n128 x := by
  induction N using Nat.strongRecOn with
  | _ N ih =>
  intro x h
  rw [ctC_f]
  rw [n128_f] at h ⊢
  have key : ∀ l : List S128, (∀ y ∈ l, ct128 y ≤ 8 + 8 * n128 y) → (l.map ct128).sum ≤ 8 * (l.length + (l.map n128).sum) := by
    intro l
    induction l with
    | nil => simp
    | cons y l ihl =>
      intro hl
      have h1 := hl y List.mem_cons_self
      have h2 := ihl fun z hz => hl z (List.mem_cons_of_mem _ hz)
      simp only [List.map_cons, List.sum_cons, List.length_cons]
      omega
  have := key x.f3 fun y hy => by
    obtain ⟨j, hj⟩ := List.getElem?_of_mem hy
    have h1 := le_sum n128 hj
    have h2 := lt_of_get hj
    exact ih (n128 y) (by omega) y (Nat.le_refl _)
  omega
theorem ct128_bd (x : S128) : ct128 x ≤ 8 + 8 * n128 x := ctC_bdN _ x (Nat.le_refl _)
theorem rds_T128 {l : List S128} {i : Nat} {v : S128} (h : i < l.length) : rd_T128 (l.set i v) (i : Int) = v := rd_at_T128 (List.getElem?_set_self h)
theorem laws_markCondS_evN (N : Nat) : ∀ (l : List S128) (n : Int), l.length + (l.map n128).sum ≤ N → N ≤ 2097152 → 0 ≤ n → n + ((l.map ct128).sum : Nat) ≤ 4611686018427387904 → Ev (fun k => laws_markCondS.f k l n) (n + ((l.map ct128).sum : Nat), (acc mk128 l n).1) := by
  induction N using Nat.strongRecOn with
  | _ N ih =>
  intro l n h hN h0 hB
  refine Ev.succ ?_
  simp only [laws_markCondS.f]
  refine Ev.eqv (by rw [acc_up mk128 ct128 mk128_up]) (ev_markB mk128 ct128 4611686018427387904 mk128_up (fun k l n i => laws_markCondS.l0 k l n i) l ?_ ?_ n h0 hB)
  · intro l' n hl
    refine Ev.succ ?_
    simp only [laws_markCondS.l0, hl, Int.lt_irrefl, if_false]
    exact Ev.now _
  · intro l' i x n r hl hm hx h0 hc hr
    have hi := lt_of_get hx
    have h1 : ((i : Int) < (l'.length : Int)) = True := eq_true (by omega)
    have h2 : (0 ≤ (i : Int)) = True := eq_true (by omega)
    rw [ctC_f] at hc
    obtain ⟨jm, hjm⟩ := List.getElem?_of_mem hm
    have hn := le_sum n128 hjm
    have hlt := lt_of_get hjm
    rw [n128_f] at hn
    have e0 : wrap64 (n + 1) = n + 1 := wr (by omega) (by omega)
    have e1 : wrap64 (n + 1 + 1) = n + 1 + 1 := wr (by omega) (by omega)
    have e2 : wrap64 (n + 1 + 1 + 1) = n + 1 + 1 + 1 := wr (by omega) (by omega)
    rw [mkC_f] at hr
    refine Ev.succ ?_
    simp only [laws_markCondS.l0, h1, h2, if_true, Option.bind_some, List.length_set, List.set_set, Int.toNat_natCast, wr1 hi (by omega), rd_at_T128 hx, rds_T128 hi, e0, e1, e2]
    refine Ev.bind (ih (x.f3.length + (x.f3.map n128).sum) (by omega) x.f3 (n + 1 + 1 + 1) (Nat.le_refl _) (by omega) (by omega) (by omega)) ?_
    exact hr
theorem laws_markCondS_ev (l : List S128) (h : l.length + (l.map n128).sum ≤ 2097152) (n : Int) (h0 : 0 ≤ n) (hB : n + ((l.map ct128).sum : Nat) ≤ 4611686018427387904) : Ev (fun k => laws_markCondS.f k l n) (n + ((l.map ct128).sum : Nat), (acc mk128 l n).1) := laws_markCondS_evN _ l n (Nat.le_refl _) h h0 hB

-- laws_markRuleS
def ct130 (x : S130) : Nat := 6 + (x.f3.f3.map ct128).sum
def mk130 (x : S130) (n : Int) : S130 × Int := ((⟨n, n + 1, n + 1 + 1, (⟨n + 1 + 1 + 1, n + 1 + 1 + 1 + 1, n + 1 + 1 + 1 + 1 + 1, (acc mk128 x.f3.f3 (n + 1 + 1 + 1 + 1 + 1 + 1)).1⟩ : S128)⟩ : S130), n + 1 + 1 + 1 + 1 + 1 + 1 + ((x.f3.f3.map ct128).sum : Nat))
theorem mk130_up (x : S130) (n : Int) : (mk130 x n).2 = n + (ct130 x : Nat) := by
  simp only [mk130, ct130]
  omega
theorem ct130_bd (x : S130) : ct130 x ≤ 8 + 8 * n130 x := by
  have b0 := sum_ct ct128 x.f3.f3 ct128_bd
  simp only [ct130, n130, n128_f]
  omega
theorem rds_T130 {l : List S130} {i : Nat} {v : S130} (h : i < l.length) : rd_T130 (l.set i v) (i : Int) = v := rd_at_T130 (List.getElem?_set_self h)
theorem laws_markRuleS_ev (l : List S130) (h : l.length + (l.map n130).sum ≤ 2097152) (n : Int) (h0 : 0 ≤ n) (hB : n + ((l.map ct130).sum : Nat) ≤ 4611686018427387904) : Ev (fun k => laws_markRuleS.f k l n) (n + ((l.map ct130).sum : Nat), (acc mk130 l n).1) := by
  unfold laws_markRuleS.f
  refine Ev.eqv (by rw [acc_up mk130 ct130 mk130_up]) (ev_markB mk130 ct130 4611686018427387904 mk130_up (fun k l n i => laws_markRuleS.l0 k l n i) l ?_ ?_ n h0 hB)
  · intro l' n hl
    refine Ev.succ ?_
    simp only [laws_markRuleS.l0, hl, Int.lt_irrefl, if_false]
    exact Ev.now _
  · intro l' i x n r hl hm hx h0 hc hr
    have hi := lt_of_get hx
    have h1 : ((i : Int) < (l'.length : Int)) = True := eq_true (by omega)
    have h2 : (0 ≤ (i : Int)) = True := eq_true (by omega)
    simp only [ct130] at hc
    obtain ⟨jm, hjm⟩ := List.getElem?_of_mem hm
    have hn := le_sum n130 hjm
    simp only [n130, n128_f] at hn
    have e0 : wrap64 (n + 1) = n + 1 := wr (by omega) (by omega)
    have e1 : wrap64 (n + 1 + 1) = n + 1 + 1 := wr (by omega) (by omega)
    have e2 : wrap64 (n + 1 + 1 + 1) = n + 1 + 1 + 1 := wr (by omega) (by omega)
    have e3 : wrap64 (n + 1 + 1 + 1 + 1) = n + 1 + 1 + 1 + 1 := wr (by omega) (by omega)
    have e4 : wrap64 (n + 1 + 1 + 1 + 1 + 1) = n + 1 + 1 + 1 + 1 + 1 := wr (by omega) (by omega)
    have e5 : wrap64 (n + 1 + 1 + 1 + 1 + 1 + 1) = n + 1 + 1 + 1 + 1 + 1 + 1 := wr (by omega) (by omega)
    simp only [mk130] at hr
    refine Ev.succ ?_
    simp only [laws_markRuleS.l0, h1, h2, if_true, Option.bind_some, List.length_set, List.set_set, Int.toNat_natCast, wr1 hi (by omega), rd_at_T130 hx, rds_T130 hi, e0, e1, e2, e3, e4, e5]
    refine Ev.bind (laws_markCondS_ev x.f3.f3 (by omega) (n + 1 + 1 + 1 + 1 + 1 + 1) (by omega) (by omega)) ?_
    (try simp only [h1, h2, if_true, Option.bind_some, List.length_set, List.set_set, Int.toNat_natCast, wr1 hi (by omega), rd_at_T130 hx, rds_T130 hi, e0, e1, e2, e3, e4, e5])
    exact hr

-- laws_markEpochS
def ct93 (x : S93) : Nat := 3 + (x.f2.map ct125).sum + (x.f3.f1.map ct130).sum
def mk93 (x : S93) (n : Int) : S93 × Int := ((⟨n, n + 1, (acc mk125 x.f2 (n + 1 + 1)).1, (⟨n + 1 + 1 + ((x.f2.map ct125).sum : Nat), (acc mk130 x.f3.f1 (n + 1 + 1 + ((x.f2.map ct125).sum : Nat) + 1)).1⟩ : S91)⟩ : S93), n + 1 + 1 + ((x.f2.map ct125).sum : Nat) + 1 + ((x.f3.f1.map ct130).sum : Nat))
theorem mk93_up (x : S93) (n : Int) : (mk93 x n).2 = n + (ct93 x : Nat) := by
  simp only [mk93, ct93]
  omega
theorem ct93_bd (x : S93) : ct93 x ≤ 8 + 8 * n93 x := by
  have b0 := sum_ct0 ct125 x.f2 ct125_bd
  have b1 := sum_ct ct130 x.f3.f1 ct130_bd
  simp only [ct93, n93, n91]
  omega
theorem rds_T93 {l : List S93} {i : Nat} {v : S93} (h : i < l.length) : rd_T93 (l.set i v) (i : Int) = v := rd_at_T93 (List.getElem?_set_self h)
theorem laws_markEpochS_ev (l : List S93) (h : l.length + (l.map n93).sum ≤ 2097152) (n : Int) (h0 : 0 ≤ n) (hB : n + ((l.map ct93).sum : Nat) ≤ 4611686018427387904) : Ev (fun k => laws_markEpochS.f k l n) (n + ((l.map ct93).sum : Nat), (acc mk93 l n).1) := by
  unfold laws_markEpochS.f
  refine Ev.eqv (by rw [acc_up mk93 ct93 mk93_up]) (ev_markB mk93 ct93 4611686018427387904 mk93_up (fun k l n i => laws_markEpochS.l0 k l n i) l ?_ ?_ n h0 hB)
  · intro l' n hl
    refine Ev.succ ?_
    simp only [laws_markEpochS.l0, hl, Int.lt_irrefl, if_false]
    exact Ev.now _
  · intro l' i x n r hl hm hx h0 hc hr
    have hi := lt_of_get hx
    have h1 : ((i : Int) < (l'.length : Int)) = True := eq_true (by omega)
    have h2 : (0 ≤ (i : Int)) = True := eq_true (by omega)
    simp only [ct93] at hc
    obtain ⟨jm, hjm⟩ := List.getElem?_of_mem hm
    have hn := le_sum n93 hjm
    simp only [n93, n91] at hn
    have e0 : wrap64 (n + 1) = n + 1 := wr (by omega) (by omega)
    have e1 : wrap64 (n + 1 + 1) = n + 1 + 1 := wr (by omega) (by omega)
    have e2 : wrap64 (n + 1 + 1 + ((x.f2.map ct125).sum : Nat) + 1) = n + 1 + 1 + ((x.f2.map ct125).sum : Nat) + 1 := wr (by omega) (by omega)
    simp only [mk93] at hr
    refine Ev.succ ?_
    simp only [laws_markEpochS.l0, h1, h2, if_true, Option.bind_some, List.length_set, List.set_set, Int.toNat_natCast, wr1 hi (by omega), rd_at_T93 hx, rds_T93 hi, e0, e1, e2]
    refine Ev.bind (laws_markIncludesS_ev x.f2 (by omega) (n + 1 + 1) (by omega) (by omega)) ?_
    (try simp only [h1, h2, if_true, Option.bind_some, List.length_set, List.set_set, Int.toNat_natCast, wr1 hi (by omega), rd_at_T93 hx, rds_T93 hi, e0, e1, e2])
    refine Ev.bind (laws_markRuleS_ev x.f3.f1 (by omega) (n + 1 + 1 + ((x.f2.map ct125).sum : Nat) + 1) (by omega) (by omega)) ?_
    (try simp only [h1, h2, if_true, Option.bind_some, List.length_set, List.set_set, Int.toNat_natCast, wr1 hi (by omega), rd_at_T93 hx, rds_T93 hi, e0, e1, e2])
    exact hr

-- laws_markFactS
def ct96 (x : S96) : Nat := 6
def mk96 (x : S96) (n : Int) : S96 × Int := ((⟨n, n + 1, n + 1 + 1, n + 1 + 1 + 1, n + 1 + 1 + 1 + 1, n + 1 + 1 + 1 + 1 + 1⟩ : S96), n + 1 + 1 + 1 + 1 + 1 + 1)
theorem mk96_up (x : S96) (n : Int) : (mk96 x n).2 = n + (ct96 x : Nat) := by
  simp only [mk96, ct96]
  omega
theorem ct96_bd (x : S96) : ct96 x ≤ 8 := by simp only [ct96]; omega
theorem rds_T96 {l : List S96} {i : Nat} {v : S96} (h : i < l.length) : rd_T96 (l.set i v) (i : Int) = v := rd_at_T96 (List.getElem?_set_self h)
theorem laws_markFactS_ev (l : List S96) (h : l.length ≤ 2097152) (n : Int) (h0 : 0 ≤ n) (hB : n + ((l.map ct96).sum : Nat) ≤ 4611686018427387904) : Ev (fun k => laws_markFactS.f k l n) (n + ((l.map ct96).sum : Nat), (acc mk96 l n).1) := by
  unfold laws_markFactS.f
  refine Ev.eqv (by rw [acc_up mk96 ct96 mk96_up]) (ev_markB mk96 ct96 4611686018427387904 mk96_up (fun k l n i => laws_markFactS.l0 k l n i) l ?_ ?_ n h0 hB)
  · intro l' n hl
    refine Ev.succ ?_
    simp only [laws_markFactS.l0, hl, Int.lt_irrefl, if_false]
    exact Ev.now _
  · intro l' i x n r hl hm hx h0 hc hr
    have hi := lt_of_get hx
    have h1 : ((i : Int) < (l'.length : Int)) = True := eq_true (by omega)
    have h2 : (0 ≤ (i : Int)) = True := eq_true (by omega)
    simp only [ct96] at hc
    have e0 : wrap64 (n + 1) = n + 1 := wr (by omega) (by omega)
    have e1 : wrap64 (n + 1 + 1) = n + 1 + 1 := wr (by omega) (by omega)
    have e2 : wrap64 (n + 1 + 1 + 1) = n + 1 + 1 + 1 := wr (by omega) (by omega)
    have e3 : wrap64 (n + 1 + 1 + 1 + 1) = n + 1 + 1 + 1 + 1 := wr (by omega) (by omega)
    have e4 : wrap64 (n + 1 + 1 + 1 + 1 + 1) = n + 1 + 1 + 1 + 1 + 1 := wr (by omega) (by omega)
    have e5 : wrap64 (n + 1 + 1 + 1 + 1 + 1 + 1) = n + 1 + 1 + 1 + 1 + 1 + 1 := wr (by omega) (by omega)
    simp only [mk96] at hr
    refine Ev.succ ?_
    simp only [laws_markFactS.l0, h1, h2, if_true, Option.bind_some, List.length_set, List.set_set, Int.toNat_natCast, wr1 hi (by omega), rd_at_T96 hx, rds_T96 hi, e0, e1, e2, e3, e4, e5]
    exact hr

-- laws_markRevokedS
def ct100 (x : S100) : Nat := 2
def mk100 (x : S100) (n : Int) : S100 × Int := ((⟨n, n + 1⟩ : S100), n + 1 + 1)
theorem mk100_up (x : S100) (n : Int) : (mk100 x n).2 = n + (ct100 x : Nat) := by
  simp only [mk100, ct100]
  omega
theorem ct100_bd (x : S100) : ct100 x ≤ 8 := by simp only [ct100]; omega
theorem rds_T100 {l : List S100} {i : Nat} {v : S100} (h : i < l.length) : rd_T100 (l.set i v) (i : Int) = v := rd_at_T100 (List.getElem?_set_self h)
theorem laws_markRevokedS_ev (l : List S100) (h : l.length ≤ 2097152) (n : Int) (h0 : 0 ≤ n) (hB : n + ((l.map ct100).sum : Nat) ≤ 4611686018427387904) : Ev (fun k => laws_markRevokedS.f k l n) (n + ((l.map ct100).sum : Nat), (acc mk100 l n).1) := by
  unfold laws_markRevokedS.f
  refine Ev.eqv (by rw [acc_up mk100 ct100 mk100_up]) (ev_markB mk100 ct100 4611686018427387904 mk100_up (fun k l n i => laws_markRevokedS.l0 k l n i) l ?_ ?_ n h0 hB)
  · intro l' n hl
    refine Ev.succ ?_
    simp only [laws_markRevokedS.l0, hl, Int.lt_irrefl, if_false]
    exact Ev.now _
  · intro l' i x n r hl hm hx h0 hc hr
    have hi := lt_of_get hx
    have h1 : ((i : Int) < (l'.length : Int)) = True := eq_true (by omega)
    have h2 : (0 ≤ (i : Int)) = True := eq_true (by omega)
    simp only [ct100] at hc
    have e0 : wrap64 (n + 1) = n + 1 := wr (by omega) (by omega)
    have e1 : wrap64 (n + 1 + 1) = n + 1 + 1 := wr (by omega) (by omega)
    simp only [mk100] at hr
    refine Ev.succ ?_
    simp only [laws_markRevokedS.l0, h1, h2, if_true, Option.bind_some, List.length_set, List.set_set, Int.toNat_natCast, wr1 hi (by omega), rd_at_T100 hx, rds_T100 hi, e0, e1]
    exact hr

-- laws_markCertS
def ct50 (x : S50) : Nat := 6
def mk50 (x : S50) (n : Int) : S50 × Int := ((⟨n, n + 1, n + 1 + 1, n + 1 + 1 + 1, n + 1 + 1 + 1 + 1, n + 1 + 1 + 1 + 1 + 1⟩ : S50), n + 1 + 1 + 1 + 1 + 1 + 1)
theorem mk50_up (x : S50) (n : Int) : (mk50 x n).2 = n + (ct50 x : Nat) := by
  simp only [mk50, ct50]
  omega
theorem ct50_bd (x : S50) : ct50 x ≤ 8 := by simp only [ct50]; omega
theorem rds_T50 {l : List S50} {i : Nat} {v : S50} (h : i < l.length) : rd_T50 (l.set i v) (i : Int) = v := rd_at_T50 (List.getElem?_set_self h)
theorem laws_markCertS_ev (l : List S50) (h : l.length ≤ 2097152) (n : Int) (h0 : 0 ≤ n) (hB : n + ((l.map ct50).sum : Nat) ≤ 4611686018427387904) : Ev (fun k => laws_markCertS.f k l n) (n + ((l.map ct50).sum : Nat), (acc mk50 l n).1) := by
  unfold laws_markCertS.f
  refine Ev.eqv (by rw [acc_up mk50 ct50 mk50_up]) (ev_markB mk50 ct50 4611686018427387904 mk50_up (fun k l n i => laws_markCertS.l0 k l n i) l ?_ ?_ n h0 hB)
  · intro l' n hl
    refine Ev.succ ?_
    simp only [laws_markCertS.l0, hl, Int.lt_irrefl, if_false]
    exact Ev.now _
  · intro l' i x n r hl hm hx h0 hc hr
    have hi := lt_of_get hx
    have h1 : ((i : Int) < (l'.length : Int)) = True := eq_true (by omega)
    have h2 : (0 ≤ (i : Int)) = True := eq_true (by omega)
    simp only [ct50] at hc
    have e0 : wrap64 (n + 1) = n + 1 := wr (by omega) (by omega)
    have e1 : wrap64 (n + 1 + 1) = n + 1 + 1 := wr (by omega) (by omega)
    have e2 : wrap64 (n + 1 + 1 + 1) = n + 1 + 1 + 1 := wr (by omega) (by omega)
    have e3 : wrap64 (n + 1 + 1 + 1 + 1) = n + 1 + 1 + 1 + 1 := wr (by omega) (by omega)
    have e4 : wrap64 (n + 1 + 1 + 1 + 1 + 1) = n + 1 + 1 + 1 + 1 + 1 := wr (by omega) (by omega)
    have e5 : wrap64 (n + 1 + 1 + 1 + 1 + 1 + 1) = n + 1 + 1 + 1 + 1 + 1 + 1 := wr (by omega) (by omega)
    simp only [mk50] at hr
    refine Ev.succ ?_
    simp only [laws_markCertS.l0, h1, h2, if_true, Option.bind_some, List.length_set, List.set_set, Int.toNat_natCast, wr1 hi (by omega), rd_at_T50 hx, rds_T50 hi, e0, e1, e2, e3, e4, e5]
    exact hr

-- laws_markCenter
/-- Where the marks of a center's rows begin. -/
def q136 (x : S36) : Int := 1 + ((x.f0.map ct86).sum : Nat)
def q236 (x : S36) : Int := q136 x + ((x.f1.map ct93).sum : Nat)
def q336 (x : S36) : Int := q236 x + ((x.f2.map ct96).sum : Nat)
def q436 (x : S36) : Int := q336 x + ((x.f3.map ct100).sum : Nat)
def q536 (x : S36) : Int := q436 x + ((x.f5.map ct50).sum : Nat)
def mkX36 (x : S36) : S36 := ⟨(acc mk86 x.f0 1).1, (acc mk93 x.f1 (q136 x)).1, (acc mk96 x.f2 (q236 x)).1, (acc mk100 x.f3 (q336 x)).1, x.f4, (acc mk50 x.f5 (q436 x)).1⟩
theorem q_bd36 (x : S36) (h : n36 x ≤ 2097152) : (0 ≤ q136 x ∧ q136 x ≤ 16777217) ∧ (0 ≤ q236 x ∧ q236 x ≤ 33554433) ∧ (0 ≤ q336 x ∧ q336 x ≤ 67108865) ∧ (0 ≤ q436 x ∧ q436 x ≤ 134217729) ∧ (0 ≤ q536 x ∧ q536 x ≤ 268435457) := by
  unfold n36 at h
  have b0 := sum_ct ct86 x.f0 ct86_bd
  have b1 := sum_ct ct93 x.f1 ct93_bd
  have b2 := sum_ct0 ct96 x.f2 ct96_bd
  have b3 := sum_ct0 ct100 x.f3 ct100_bd
  have b5 := sum_ct0 ct50 x.f5 ct50_bd
  simp only [q136, q236, q336, q436, q536]
  omega
theorem laws_markCenter_ev (x : S36) (h : n36 x ≤ 2097152) : Ev (fun k => laws_markCenter.f k x.f0 x.f1 x.f2 x.f3 x.f4 x.f5 1) (q536 x, (mkX36 x).f0, (mkX36 x).f1, (mkX36 x).f2, (mkX36 x).f3, (mkX36 x).f5) := by
  obtain ⟨⟨g1, g1'⟩, ⟨g2, g2'⟩, ⟨g3, g3'⟩, ⟨g4, g4'⟩, ⟨g5, g5'⟩⟩ := q_bd36 x h
  have hn := h
  unfold n36 at hn
  have e1 : 1 + ((x.f0.map ct86).sum : Int) = q136 x := rfl
  unfold laws_markCenter.f
  refine Ev.bind (laws_markIssuerS_ev x.f0 (by omega) (1) (by omega) (show q136 x ≤ _ by omega)) ?_
  refine Ev.bind (laws_markEpochS_ev x.f1 (by omega) (q136 x) (by omega) (show q236 x ≤ _ by omega)) ?_
  refine Ev.bind (laws_markFactS_ev x.f2 (by omega) (q236 x) (by omega) (show q336 x ≤ _ by omega)) ?_
  refine Ev.bind (laws_markRevokedS_ev x.f3 (by omega) (q336 x) (by omega) (show q436 x ≤ _ by omega)) ?_
  refine Ev.bind (laws_markCertS_ev x.f5 (by omega) (q436 x) (by omega) (show q536 x ≤ _ by omega)) ?_
  exact Ev.now _

-- laws_heldIntS
theorem laws_heldIntS_ev (l : List Int) (h : l.length ≤ 2097152) (n : Int) (h0 : 0 ≤ n) (hB : n + ((l.map ctI).sum : Nat) ≤ 4611686018427387904) : Ev (fun k => laws_heldIntS.f k (acc mkI l n).1 n) (n + ((l.map ctI).sum : Nat)) := by
  unfold laws_heldIntS.f
  refine Ev.eqv (acc_up mkI ctI mkI_up l n) (ev_held2 mkI ctI 4611686018427387904 (fun x n _ _ => mkI_up x n) (fun k l n i => laws_heldIntS.l0 k l n i) l ?_ ?_ n h0 hB)
  · intro l' n hl
    refine Ev.succ ?_
    simp only [laws_heldIntS.l0, hl, Int.lt_irrefl, if_false]
    exact Ev.now _
  · intro l' i x n r hl hm h0 hc hx hr
    have hi := lt_of_get hx
    have h1 : ((i : Int) < (l'.length : Int)) = True := eq_true (by omega)
    have h2 : (0 ≤ (i : Int)) = True := eq_true (by omega)
    simp only [ctI] at hc
    have e0 : wrap64 (n + 1) = n + 1 := wr (by omega) (by omega)
    simp only [mkI] at hr
    refine Ev.succ ?_
    simp only [laws_heldIntS.l0, h1, h2, if_true, wr1 hi (by omega), rd_nat l' i _ hx, mkI, e0]
    exact hr

-- laws_heldIssuerS
theorem laws_heldIssuerS_ev (l : List S86) (h : l.length + (l.map n86).sum ≤ 2097152) (n : Int) (h0 : 0 ≤ n) (hB : n + ((l.map ct86).sum : Nat) ≤ 4611686018427387904) : Ev (fun k => laws_heldIssuerS.f k (acc mk86 l n).1 n) (n + ((l.map ct86).sum : Nat)) := by
  unfold laws_heldIssuerS.f
  refine Ev.eqv (acc_up mk86 ct86 mk86_up l n) (ev_held2 mk86 ct86 4611686018427387904 (fun x n _ _ => mk86_up x n) (fun k l n i => laws_heldIssuerS.l0 k l n i) l ?_ ?_ n h0 hB)
  · intro l' n hl
    refine Ev.succ ?_
    simp only [laws_heldIssuerS.l0, hl, Int.lt_irrefl, if_false]
    exact Ev.now _
  · intro l' i x n r hl hm h0 hc hx hr
    have hi := lt_of_get hx
    have h1 : ((i : Int) < (l'.length : Int)) = True := eq_true (by omega)
    have h2 : (0 ≤ (i : Int)) = True := eq_true (by omega)
    simp only [ct86] at hc
    obtain ⟨jm, hjm⟩ := List.getElem?_of_mem hm
    have hn := le_sum n86 hjm
    simp only [n86] at hn
    have e0 : wrap64 (n + 1) = n + 1 := wr (by omega) (by omega)
    have e1 : wrap64 (n + 1 + ((x.f1.map ctI).sum : Nat) + 1) = n + 1 + ((x.f1.map ctI).sum : Nat) + 1 := wr (by omega) (by omega)
    simp only [mk86] at hr
    refine Ev.succ ?_
    simp only [laws_heldIssuerS.l0, h1, h2, if_true, wr1 hi (by omega), rd_at_T86 hx, mk86, e0, e1]
    refine Ev.bind (laws_heldIntS_ev x.f1 (by omega) (n + 1) (by omega) (by omega)) ?_
    refine Ev.neg (by omega) ?_
    (try simp only [h1, h2, if_true, wr1 hi (by omega), rd_at_T86 hx, mk86, e0, e1])
    exact hr

-- laws_heldIncludesS
theorem laws_heldIncludesS_ev (l : List S125) (h : l.length ≤ 2097152) (n : Int) (h0 : 0 ≤ n) (hB : n + ((l.map ct125).sum : Nat) ≤ 4611686018427387904) : Ev (fun k => laws_heldIncludesS.f k (acc mk125 l n).1 n) (n + ((l.map ct125).sum : Nat)) := by
  unfold laws_heldIncludesS.f
  refine Ev.eqv (acc_up mk125 ct125 mk125_up l n) (ev_held2 mk125 ct125 4611686018427387904 (fun x n _ _ => mk125_up x n) (fun k l n i => laws_heldIncludesS.l0 k l n i) l ?_ ?_ n h0 hB)
  · intro l' n hl
    refine Ev.succ ?_
    simp only [laws_heldIncludesS.l0, hl, Int.lt_irrefl, if_false]
    exact Ev.now _
  · intro l' i x n r hl hm h0 hc hx hr
    have hi := lt_of_get hx
    have h1 : ((i : Int) < (l'.length : Int)) = True := eq_true (by omega)
    have h2 : (0 ≤ (i : Int)) = True := eq_true (by omega)
    simp only [ct125] at hc
    have e0 : wrap64 (n + 1) = n + 1 := wr (by omega) (by omega)
    have e1 : wrap64 (n + 1 + 1) = n + 1 + 1 := wr (by omega) (by omega)
    simp only [mk125] at hr
    refine Ev.succ ?_
    simp only [laws_heldIncludesS.l0, h1, h2, if_true, wr1 hi (by omega), rd_at_T125 hx, mk125, e0, e1]
    exact hr

-- laws_heldCondS
theorem laws_heldCondS_evN (N : Nat) : ∀ (l : List S128) (n : Int), l.length + (l.map n128).sum ≤ N → N ≤ 2097152 → 0 ≤ n → n + ((l.map ct128).sum : Nat) ≤ 4611686018427387904 → Ev (fun k => laws_heldCondS.f k (acc mk128 l n).1 n) (n + ((l.map ct128).sum : Nat)) := by
  induction N using Nat.strongRecOn with
  | _ N ih =>
  intro l n h hN h0 hB
  refine Ev.succ ?_
  simp only [laws_heldCondS.f]
  refine Ev.eqv (acc_up mk128 ct128 mk128_up l n) (ev_held2 mk128 ct128 4611686018427387904 (fun x n _ _ => mk128_up x n) (fun k l n i => laws_heldCondS.l0 k l n i) l ?_ ?_ n h0 hB)
  · intro l' n hl
    refine Ev.succ ?_
    simp only [laws_heldCondS.l0, hl, Int.lt_irrefl, if_false]
    exact Ev.now _
  · intro l' i x n r hl hm h0 hc hx hr
    have hi := lt_of_get hx
    have h1 : ((i : Int) < (l'.length : Int)) = True := eq_true (by omega)
    have h2 : (0 ≤ (i : Int)) = True := eq_true (by omega)
    rw [ctC_f] at hc
    obtain ⟨jm, hjm⟩ := List.getElem?_of_mem hm
    have hn := le_sum n128 hjm
    have hlt := lt_of_get hjm
    rw [n128_f] at hn
    have e0 : wrap64 (n + 1) = n + 1 := wr (by omega) (by omega)
    have e1 : wrap64 (n + 1 + 1) = n + 1 + 1 := wr (by omega) (by omega)
    have e2 : wrap64 (n + 1 + 1 + 1) = n + 1 + 1 + 1 := wr (by omega) (by omega)
    have R := rd_at_T128 hx
    rw [mkC_f] at hr R
    refine Ev.succ ?_
    simp only [laws_heldCondS.l0, h1, h2, if_true, wr1 hi (by omega), R, e0, e1, e2]
    refine Ev.bind (ih (x.f3.length + (x.f3.map n128).sum) (by omega) x.f3 (n + 1 + 1 + 1) (Nat.le_refl _) (by omega) (by omega) (by omega)) ?_
    refine Ev.neg (by omega) ?_
    exact hr
theorem laws_heldCondS_ev (l : List S128) (h : l.length + (l.map n128).sum ≤ 2097152) (n : Int) (h0 : 0 ≤ n) (hB : n + ((l.map ct128).sum : Nat) ≤ 4611686018427387904) : Ev (fun k => laws_heldCondS.f k (acc mk128 l n).1 n) (n + ((l.map ct128).sum : Nat)) := laws_heldCondS_evN _ l n (Nat.le_refl _) h h0 hB

-- laws_heldRuleS
theorem laws_heldRuleS_ev (l : List S130) (h : l.length + (l.map n130).sum ≤ 2097152) (n : Int) (h0 : 0 ≤ n) (hB : n + ((l.map ct130).sum : Nat) ≤ 4611686018427387904) : Ev (fun k => laws_heldRuleS.f k (acc mk130 l n).1 n) (n + ((l.map ct130).sum : Nat)) := by
  unfold laws_heldRuleS.f
  refine Ev.eqv (acc_up mk130 ct130 mk130_up l n) (ev_held2 mk130 ct130 4611686018427387904 (fun x n _ _ => mk130_up x n) (fun k l n i => laws_heldRuleS.l0 k l n i) l ?_ ?_ n h0 hB)
  · intro l' n hl
    refine Ev.succ ?_
    simp only [laws_heldRuleS.l0, hl, Int.lt_irrefl, if_false]
    exact Ev.now _
  · intro l' i x n r hl hm h0 hc hx hr
    have hi := lt_of_get hx
    have h1 : ((i : Int) < (l'.length : Int)) = True := eq_true (by omega)
    have h2 : (0 ≤ (i : Int)) = True := eq_true (by omega)
    simp only [ct130] at hc
    obtain ⟨jm, hjm⟩ := List.getElem?_of_mem hm
    have hn := le_sum n130 hjm
    simp only [n130, n128_f] at hn
    have e0 : wrap64 (n + 1) = n + 1 := wr (by omega) (by omega)
    have e1 : wrap64 (n + 1 + 1) = n + 1 + 1 := wr (by omega) (by omega)
    have e2 : wrap64 (n + 1 + 1 + 1) = n + 1 + 1 + 1 := wr (by omega) (by omega)
    have e3 : wrap64 (n + 1 + 1 + 1 + 1) = n + 1 + 1 + 1 + 1 := wr (by omega) (by omega)
    have e4 : wrap64 (n + 1 + 1 + 1 + 1 + 1) = n + 1 + 1 + 1 + 1 + 1 := wr (by omega) (by omega)
    have e5 : wrap64 (n + 1 + 1 + 1 + 1 + 1 + 1) = n + 1 + 1 + 1 + 1 + 1 + 1 := wr (by omega) (by omega)
    simp only [mk130] at hr
    refine Ev.succ ?_
    simp only [laws_heldRuleS.l0, h1, h2, if_true, wr1 hi (by omega), rd_at_T130 hx, mk130, e0, e1, e2, e3, e4, e5]
    refine Ev.bind (laws_heldCondS_ev x.f3.f3 (by omega) (n + 1 + 1 + 1 + 1 + 1 + 1) (by omega) (by omega)) ?_
    refine Ev.neg (by omega) ?_
    (try simp only [h1, h2, if_true, wr1 hi (by omega), rd_at_T130 hx, mk130, e0, e1, e2, e3, e4, e5])
    exact hr

-- laws_heldEpochS
theorem laws_heldEpochS_ev (l : List S93) (h : l.length + (l.map n93).sum ≤ 2097152) (n : Int) (h0 : 0 ≤ n) (hB : n + ((l.map ct93).sum : Nat) ≤ 4611686018427387904) : Ev (fun k => laws_heldEpochS.f k (acc mk93 l n).1 n) (n + ((l.map ct93).sum : Nat)) := by
  unfold laws_heldEpochS.f
  refine Ev.eqv (acc_up mk93 ct93 mk93_up l n) (ev_held2 mk93 ct93 4611686018427387904 (fun x n _ _ => mk93_up x n) (fun k l n i => laws_heldEpochS.l0 k l n i) l ?_ ?_ n h0 hB)
  · intro l' n hl
    refine Ev.succ ?_
    simp only [laws_heldEpochS.l0, hl, Int.lt_irrefl, if_false]
    exact Ev.now _
  · intro l' i x n r hl hm h0 hc hx hr
    have hi := lt_of_get hx
    have h1 : ((i : Int) < (l'.length : Int)) = True := eq_true (by omega)
    have h2 : (0 ≤ (i : Int)) = True := eq_true (by omega)
    simp only [ct93] at hc
    obtain ⟨jm, hjm⟩ := List.getElem?_of_mem hm
    have hn := le_sum n93 hjm
    simp only [n93, n91] at hn
    have e0 : wrap64 (n + 1) = n + 1 := wr (by omega) (by omega)
    have e1 : wrap64 (n + 1 + 1) = n + 1 + 1 := wr (by omega) (by omega)
    have e2 : wrap64 (n + 1 + 1 + ((x.f2.map ct125).sum : Nat) + 1) = n + 1 + 1 + ((x.f2.map ct125).sum : Nat) + 1 := wr (by omega) (by omega)
    simp only [mk93] at hr
    refine Ev.succ ?_
    simp only [laws_heldEpochS.l0, h1, h2, if_true, wr1 hi (by omega), rd_at_T93 hx, mk93, e0, e1, e2]
    refine Ev.bind (laws_heldIncludesS_ev x.f2 (by omega) (n + 1 + 1) (by omega) (by omega)) ?_
    refine Ev.neg (by omega) ?_
    (try simp only [h1, h2, if_true, wr1 hi (by omega), rd_at_T93 hx, mk93, e0, e1, e2])
    refine Ev.bind (laws_heldRuleS_ev x.f3.f1 (by omega) (n + 1 + 1 + ((x.f2.map ct125).sum : Nat) + 1) (by omega) (by omega)) ?_
    refine Ev.neg (by omega) ?_
    (try simp only [h1, h2, if_true, wr1 hi (by omega), rd_at_T93 hx, mk93, e0, e1, e2])
    exact hr

-- laws_heldFactS
theorem laws_heldFactS_ev (l : List S96) (h : l.length ≤ 2097152) (n : Int) (h0 : 0 ≤ n) (hB : n + ((l.map ct96).sum : Nat) ≤ 4611686018427387904) : Ev (fun k => laws_heldFactS.f k (acc mk96 l n).1 n) (n + ((l.map ct96).sum : Nat)) := by
  unfold laws_heldFactS.f
  refine Ev.eqv (acc_up mk96 ct96 mk96_up l n) (ev_held2 mk96 ct96 4611686018427387904 (fun x n _ _ => mk96_up x n) (fun k l n i => laws_heldFactS.l0 k l n i) l ?_ ?_ n h0 hB)
  · intro l' n hl
    refine Ev.succ ?_
    simp only [laws_heldFactS.l0, hl, Int.lt_irrefl, if_false]
    exact Ev.now _
  · intro l' i x n r hl hm h0 hc hx hr
    have hi := lt_of_get hx
    have h1 : ((i : Int) < (l'.length : Int)) = True := eq_true (by omega)
    have h2 : (0 ≤ (i : Int)) = True := eq_true (by omega)
    simp only [ct96] at hc
    have e0 : wrap64 (n + 1) = n + 1 := wr (by omega) (by omega)
    have e1 : wrap64 (n + 1 + 1) = n + 1 + 1 := wr (by omega) (by omega)
    have e2 : wrap64 (n + 1 + 1 + 1) = n + 1 + 1 + 1 := wr (by omega) (by omega)
    have e3 : wrap64 (n + 1 + 1 + 1 + 1) = n + 1 + 1 + 1 + 1 := wr (by omega) (by omega)
    have e4 : wrap64 (n + 1 + 1 + 1 + 1 + 1) = n + 1 + 1 + 1 + 1 + 1 := wr (by omega) (by omega)
    have e5 : wrap64 (n + 1 + 1 + 1 + 1 + 1 + 1) = n + 1 + 1 + 1 + 1 + 1 + 1 := wr (by omega) (by omega)
    simp only [mk96] at hr
    refine Ev.succ ?_
    simp only [laws_heldFactS.l0, h1, h2, if_true, wr1 hi (by omega), rd_at_T96 hx, mk96, e0, e1, e2, e3, e4, e5]
    exact hr

-- laws_heldRevokedS
theorem laws_heldRevokedS_ev (l : List S100) (h : l.length ≤ 2097152) (n : Int) (h0 : 0 ≤ n) (hB : n + ((l.map ct100).sum : Nat) ≤ 4611686018427387904) : Ev (fun k => laws_heldRevokedS.f k (acc mk100 l n).1 n) (n + ((l.map ct100).sum : Nat)) := by
  unfold laws_heldRevokedS.f
  refine Ev.eqv (acc_up mk100 ct100 mk100_up l n) (ev_held2 mk100 ct100 4611686018427387904 (fun x n _ _ => mk100_up x n) (fun k l n i => laws_heldRevokedS.l0 k l n i) l ?_ ?_ n h0 hB)
  · intro l' n hl
    refine Ev.succ ?_
    simp only [laws_heldRevokedS.l0, hl, Int.lt_irrefl, if_false]
    exact Ev.now _
  · intro l' i x n r hl hm h0 hc hx hr
    have hi := lt_of_get hx
    have h1 : ((i : Int) < (l'.length : Int)) = True := eq_true (by omega)
    have h2 : (0 ≤ (i : Int)) = True := eq_true (by omega)
    simp only [ct100] at hc
    have e0 : wrap64 (n + 1) = n + 1 := wr (by omega) (by omega)
    have e1 : wrap64 (n + 1 + 1) = n + 1 + 1 := wr (by omega) (by omega)
    simp only [mk100] at hr
    refine Ev.succ ?_
    simp only [laws_heldRevokedS.l0, h1, h2, if_true, wr1 hi (by omega), rd_at_T100 hx, mk100, e0, e1]
    exact hr

-- laws_heldCertS
theorem laws_heldCertS_ev (l : List S50) (h : l.length ≤ 2097152) (n : Int) (h0 : 0 ≤ n) (hB : n + ((l.map ct50).sum : Nat) ≤ 4611686018427387904) : Ev (fun k => laws_heldCertS.f k (acc mk50 l n).1 n) (n + ((l.map ct50).sum : Nat)) := by
  unfold laws_heldCertS.f
  refine Ev.eqv (acc_up mk50 ct50 mk50_up l n) (ev_held2 mk50 ct50 4611686018427387904 (fun x n _ _ => mk50_up x n) (fun k l n i => laws_heldCertS.l0 k l n i) l ?_ ?_ n h0 hB)
  · intro l' n hl
    refine Ev.succ ?_
    simp only [laws_heldCertS.l0, hl, Int.lt_irrefl, if_false]
    exact Ev.now _
  · intro l' i x n r hl hm h0 hc hx hr
    have hi := lt_of_get hx
    have h1 : ((i : Int) < (l'.length : Int)) = True := eq_true (by omega)
    have h2 : (0 ≤ (i : Int)) = True := eq_true (by omega)
    simp only [ct50] at hc
    have e0 : wrap64 (n + 1) = n + 1 := wr (by omega) (by omega)
    have e1 : wrap64 (n + 1 + 1) = n + 1 + 1 := wr (by omega) (by omega)
    have e2 : wrap64 (n + 1 + 1 + 1) = n + 1 + 1 + 1 := wr (by omega) (by omega)
    have e3 : wrap64 (n + 1 + 1 + 1 + 1) = n + 1 + 1 + 1 + 1 := wr (by omega) (by omega)
    have e4 : wrap64 (n + 1 + 1 + 1 + 1 + 1) = n + 1 + 1 + 1 + 1 + 1 := wr (by omega) (by omega)
    have e5 : wrap64 (n + 1 + 1 + 1 + 1 + 1 + 1) = n + 1 + 1 + 1 + 1 + 1 + 1 := wr (by omega) (by omega)
    simp only [mk50] at hr
    refine Ev.succ ?_
    simp only [laws_heldCertS.l0, h1, h2, if_true, wr1 hi (by omega), rd_at_T50 hx, mk50, e0, e1, e2, e3, e4, e5]
    exact hr

-- laws_heldCenter
theorem laws_heldCenter_ev (x : S36) (h : n36 x ≤ 2097152) : Ev (fun k => laws_heldCenter.f k (mkX36 x).f0 (mkX36 x).f1 (mkX36 x).f2 (mkX36 x).f3 x.f4 (mkX36 x).f5 1) (q536 x) := by
  obtain ⟨⟨g1, g1'⟩, ⟨g2, g2'⟩, ⟨g3, g3'⟩, ⟨g4, g4'⟩, ⟨g5, g5'⟩⟩ := q_bd36 x h
  have hn := h
  unfold n36 at hn
  unfold laws_heldCenter.f
  refine Ev.bind (laws_heldIssuerS_ev x.f0 (by omega) (1) (by omega) (show q136 x ≤ _ by omega)) ?_
  refine Ev.neg (show ¬ q136 x < 0 by omega) ?_
  refine Ev.bind (laws_heldEpochS_ev x.f1 (by omega) (q136 x) (by omega) (show q236 x ≤ _ by omega)) ?_
  refine Ev.neg (show ¬ q236 x < 0 by omega) ?_
  refine Ev.bind (laws_heldFactS_ev x.f2 (by omega) (q236 x) (by omega) (show q336 x ≤ _ by omega)) ?_
  refine Ev.neg (show ¬ q336 x < 0 by omega) ?_
  refine Ev.bind (laws_heldRevokedS_ev x.f3 (by omega) (q336 x) (by omega) (show q436 x ≤ _ by omega)) ?_
  refine Ev.neg (show ¬ q436 x < 0 by omega) ?_
  refine Ev.bind (laws_heldCertS_ev x.f5 (by omega) (q436 x) (by omega) (show q536 x ≤ _ by omega)) ?_
  refine Ev.neg (show ¬ q536 x < 0 by omega) ?_
  exact Ev.now _

-- skip
-- dirs v3 v v2
-- base impl_areNodes impl_IsCond impl_IsRule
-- big
theorem ctIssue_n (x : S36) (u key t g : Int) (h : n36 x ≤ 1048576) : n36 (ctIssueV x u key t g).1 ≤ 2097152 := by
  unfold ctIssueV
  simp only []
  split
  · split
    · simp only []; omega
    · unfold n36 at h ⊢
      simp only [List.length_append, List.length_singleton]
      omega
  · simp only []; omega
theorem FnExactCenterIssue : laws_FnExactCenterIssue.Pure := by
  intro x u key t g hx _ _ _ _
  refine Ev.rounds ?_
  unfold laws_FnExactCenterIssue.f
  obtain ⟨r, e, hr1, hr⟩ := laws_szCenter_le x hx 1048576 (by omega) (by omega)
  refine Ev.bind e ?_
  by_cases c : r < 0
  · simp only [if_pos c]; exact Ev.now _
  simp only [if_neg c]
  have hb := hr (by omega)
  have hz : n36 (cv28 x) ≤ 1048576 := by rw [ncv28]; omega
  have hz1 : n36 (cv28 x) ≤ 2097152 := by omega
  have hy := ctIssue_n (cv28 x) u key t g hz
  have hT := laws_toCenter_ev x (by omega)
  have hS := spec_CenterIssue_ev (cv28 x) u key t g hz1
  have hI := impl_CenterIssue_ev (cv28 x) u key t g hz1
  generalize ctIssueV (cv28 x) u key t g = y at hy hS hI
  generalize cv28 x = z at hz1 hT hS hI
  have qz := (q_bd36 z hz1).2.2.2.2
  have qy := (q_bd36 y.1 hy).2.2.2.2
  repeat (first
    | exact Ev.now _
    | ((first | refine Ev.bind hT ?_ | refine Ev.bind hS ?_ | refine Ev.bind hI ?_ | refine Ev.bind (laws_eqCenter_refl y.1 hy) ?_ | refine Ev.bind (laws_eqCenter_refl z hz1) ?_ | refine Ev.bind (laws_markCenter_ev z hz1) ?_ | refine Ev.bind (laws_markCenter_ev y.1 hy) ?_ | refine Ev.bind (laws_heldCenter_ev y.1 hy) ?_); try simp only [])
    | refine Ev.neg (show ¬ q536 z < 0 by omega) ?_
    | refine Ev.neg (show ¬ q536 y.1 < 0 by omega) ?_
    | simp only [if_true])

end Go.Proofs.YthliecjiafjokaaGreat.Pure
