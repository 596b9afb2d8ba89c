/- The law FnExactAskPoint answers true for all arguments, over numbers and lists alone: what each function computes, and that program and reference compute the same. No condition. -/
import Derived.Lib.RowBridge
import Derived.Test.YtgaefkbfhdnhdaaGreatQFnExactAskPointx0
import Derived.Test.YtgaefkbfhdnhdaaGreatL
namespace Go.Proofs.YtgaefkbfhdnhdaaGreat.Pure
open Go.RowKit Go.Proofs.YtgaefkbfhdnhdaaGreat.QFnExactAskPoint Go.Proofs.YtgaefkbfhdnhdaaGreatL Go.Proofs.YtgaefkbfhdnhdaaGreatW.PrintWords Go.Proofs.YtgaefkbfhdnhdaaGreatW.PrintLast
set_option linter.unusedVariables false
set_option linter.unusedSimpArgs false
def cv135 (x : S135) : S133 := ⟨x.f0, x.f1⟩
theorem eta147 (x : S147) : (⟨x.f0, x.f1, x.f2, x.f3⟩ : S147) = x := by cases x; rfl
mutual
def n147 : S147 → Nat
 | ⟨x0, x1, x2, x3⟩ => x3.length + nL147 x3
def nL147 : List S147 → Nat
 | [] => 0
 | x :: l => n147 x + nL147 l
end
theorem nL147_eq : ∀ l : List S147, nL147 l = (l.map n147).sum
 | [] => by simp [nL147]
 | x :: l => by simp [nL147, nL147_eq l]
theorem n147_f (x : S147) : n147 x = x.f3.length + (x.f3.map n147).sum := by
 cases x
 simp only [n147, nL147_eq]
mutual
def cv147 : S147 → S129
 | ⟨x0, x1, x2, x3⟩ => ⟨x0, x1, x2, cvL147 x3⟩
def cvL147 : List S147 → List S129
 | [] => []
 | x :: l => cv147 x :: cvL147 l
end
theorem cvL147_eq : ∀ l : List S147, cvL147 l = l.map cv147
 | [] => by simp [cvL147]
 | x :: l => by simp [cvL147, cvL147_eq l]
theorem cv147_f (x : S147) : cv147 x = ⟨x.f0, x.f1, x.f2, x.f3.map cv147⟩ := by
 cases x
 simp only [cv147, cvL147_eq]
def cv149 (x : S149) : S131 := ⟨x.f0, x.f1, x.f2, (cv147 x.f3)⟩
def n149 (x : S149) : Nat := n147 x.f3
def cv25 (x : S25) : S41 := ⟨x.f0, (x.f1.map cv149)⟩
def n25 (x : S25) : Nat := x.f1.length + (x.f1.map n149).sum
def cv27 (x : S27) : S43 := ⟨x.f0, x.f1, (x.f2.map cv135), (cv25 x.f3)⟩
def n27 (x : S27) : Nat := x.f2.length + n25 x.f3
def cv102 (x : S102) : S100 := ⟨x.f0, x.f1, x.f2, x.f3, x.f4, x.f5⟩
def cv106 (x : S106) : S104 := ⟨x.f0, x.f1⟩
def cv36 (x : S36) : S54 := ⟨x.f0, x.f1, x.f2, x.f3, x.f4, x.f5⟩
def cv109 (x : S109) : S70 := ⟨(cv36 x.f0), x.f1, x.f2⟩
def cv32 (x : S32) : S48 := ⟨x.f0, (cv27 x.f1), (x.f2.map cv102), (x.f3.map cv106), x.f4, (x.f5.map cv109)⟩
def n32 (x : S32) : Nat := n27 x.f1 + x.f2.length + x.f3.length + x.f5.length
theorem eta129 (x : S129) : (⟨x.f0, x.f1, x.f2, x.f3⟩ : S129) = x := by cases x; rfl
mutual
def n129 : S129 → Nat
 | ⟨x0, x1, x2, x3⟩ => x3.length + nL129 x3
def nL129 : List S129 → Nat
 | [] => 0
 | x :: l => n129 x + nL129 l
end
theorem nL129_eq : ∀ l : List S129, nL129 l = (l.map n129).sum
 | [] => by simp [nL129]
 | x :: l => by simp [nL129, nL129_eq l]
theorem n129_f (x : S129) : n129 x = x.f3.length + (x.f3.map n129).sum := by
 cases x
 simp only [n129, nL129_eq]
def n131 (x : S131) : Nat := n129 x.f3
def n41 (x : S41) : Nat := x.f1.length + (x.f1.map n131).sum
def n43 (x : S43) : Nat := x.f2.length + n41 x.f3
def n48 (x : S48) : Nat := n43 x.f1 + x.f2.length + x.f3.length + x.f5.length
def cv34 (x : S34) : S52 := ⟨x.f0, x.f1, x.f2, x.f3, x.f4, x.f5⟩
theorem rd_at_T135 {l : List S135} {i : Nat} {x : S135} (h : l[i]? = some x) : rd_T135 l (i : Int) = x := getD_nat l _ i x h
theorem rd_at_T147 {l : List S147} {i : Nat} {x : S147} (h : l[i]? = some x) : rd_T147 l (i : Int) = x := getD_nat l _ i x h
theorem rd_at_T149 {l : List S149} {i : Nat} {x : S149} (h : l[i]? = some x) : rd_T149 l (i : Int) = x := getD_nat l _ i x h
theorem rd_at_T102 {l : List S102} {i : Nat} {x : S102} (h : l[i]? = some x) : rd_T102 l (i : Int) = x := getD_nat l _ i x h
theorem rd_at_T106 {l : List S106} {i : Nat} {x : S106} (h : l[i]? = some x) : rd_T106 l (i : Int) = x := getD_nat l _ i x h
theorem rd_at_T109 {l : List S109} {i : Nat} {x : S109} (h : l[i]? = some x) : rd_T109 l (i : Int) = x := getD_nat l _ i x h
theorem rd_at_T129 {l : List S129} {i : Nat} {x : S129} (h : l[i]? = some x) : rd_T129 l (i : Int) = x := getD_nat l _ i x h
theorem rd_at_T131 {l : List S131} {i : Nat} {x : S131} (h : l[i]? = some x) : rd_T131 l (i : Int) = x := getD_nat l _ i x h
theorem rd_at_T133 {l : List S133} {i : Nat} {x : S133} (h : l[i]? = some x) : rd_T133 l (i : Int) = x := getD_nat l _ i x h
theorem rd_at_T100 {l : List S100} {i : Nat} {x : S100} (h : l[i]? = some x) : rd_T100 l (i : Int) = x := getD_nat l _ i x h
theorem rd_at_T104 {l : List S104} {i : Nat} {x : S104} (h : l[i]? = some x) : rd_T104 l (i : Int) = x := getD_nat l _ i x h
theorem rd_at_T70 {l : List S70} {i : Nat} {x : S70} (h : l[i]? = some x) : rd_T70 l (i : Int) = x := getD_nat l _ i x h
def eqT133 (x y : S133) : Bool := (x.f0 == y.f0) && ((x.f1 == y.f1))
def eqT100 (x y : S100) : Bool := (x.f0 == y.f0) && ((x.f1 == y.f1) && ((x.f2 == y.f2) && ((x.f3 == y.f3) && ((x.f4 == y.f4) && ((x.f5 == y.f5))))))
def eqT104 (x y : S104) : Bool := (x.f0 == y.f0) && ((x.f1 == y.f1))
def eqT54 (x y : S54) : Bool := (x.f0 == y.f0) && ((x.f1 == y.f1) && ((x.f2 == y.f2) && ((x.f3 == y.f3) && ((x.f4 == y.f4) && ((x.f5 == y.f5))))))
def eqT70 (x y : S70) : Bool := (x.f0.f0 == y.f0.f0) && ((x.f0.f1 == y.f0.f1) && ((x.f0.f2 == y.f0.f2) && ((x.f0.f3 == y.f0.f3) && ((x.f0.f4 == y.f0.f4) && ((x.f0.f5 == y.f0.f5) && ((x.f1 == y.f1) && ((x.f2 == y.f2))))))))
def eqT52 (x y : S52) : Bool := (x.f0 == y.f0) && ((x.f1 == y.f1) && ((x.f2 == y.f2) && ((x.f3 == y.f3) && ((x.f4 == y.f4) && ((x.f5 == y.f5))))))
theorem ncvN147 (l : List S147) : (cvL147 l).length = l.length := by rw [cvL147_eq, List.length_map]
mutual
theorem ncv147 : ∀ x : S147, n129 (cv147 x) = n147 x
 | ⟨x0, x1, x2, x3⟩ => by simp only [cv147, n129, n147, ncvL147 x3, ncvN147 x3]
theorem ncvL147 : ∀ l : List S147, nL129 (cvL147 l) = nL147 l
 | [] => by simp [cvL147, nL129, nL147]
 | x :: l => by simp only [cvL147, nL129, nL147, ncv147 x, ncvL147 l]
end
theorem ncv149 (x : S149) : n131 (cv149 x) = n149 x := by
 simp only [cv149, n131, n149, List.length_map, List.map_map, Function.comp_def, ncv147]
theorem ncv25 (x : S25) : n41 (cv25 x) = n25 x := by
 simp only [cv25, n41, n25, List.length_map, List.map_map, Function.comp_def, ncv149]
theorem ncv27 (x : S27) : n43 (cv27 x) = n27 x := by
 simp only [cv27, n43, n27, List.length_map, List.map_map, Function.comp_def, ncv25]
theorem ncv32 (x : S32) : n48 (cv32 x) = n32 x := by
 simp only [cv32, n48, n32, List.length_map, List.map_map, Function.comp_def, ncv27]
theorem laws_szIncludesS_le (l : List (S135)) (hl : l.length ≤ maxLen) (a : Int) (h0 : 0 ≤ a) (ha : a ≤ 2097152) : ∃ r, laws_szIncludesS.f l a = some r ∧ r ≤ 2097152 ∧ (0 ≤ r → r + (l.length : Nat) ≤ a) := by
 unfold laws_szIncludesS.f
 unfold maxLen at hl
 rw [wr (by omega) (by omega)]
 split
 ·exact ⟨_, rfl, by omega, by omega⟩
 ·exact ⟨_, rfl, by omega, by omega⟩
theorem gin147 {x : S147} (h : g147 x) : x.f3.length ≤ maxLen ∧ ∀ y ∈ x.f3, g147 y := by
 obtain ⟨k, h⟩ := h
 cases k with
 | zero => exact h.elim
 | succ k =>
  obtain ⟨_, _, _, h1, h2⟩ := (show GF147 _ x from h)
  exact ⟨h1, fun y hy => ⟨k, h2 y hy⟩⟩
theorem laws_szCondS_leN (N : Nat) : ∀ (l : List S147) (hl : l.length ≤ maxLen) (hg : ∀ y ∈ l, g147 y) (a : Int), 0 ≤ a → a ≤ 2097152 → a.toNat ≤ N → ∃ r, Ev (fun k => laws_szCondS.f k l a) r ∧ r ≤ 2097152 ∧ (0 ≤ r → r + (l.length + (l.map n147).sum : Nat) ≤ a) := by
 induction N using Nat.strongRecOn with
 | _ N ih =>
 intro l hl hg a h0 ha hN
 unfold maxLen at hl
 by_cases c : a - (l.length : Int) < 0
 ·refine ⟨-1, Ev.succ ?_, by omega, by omega⟩
  simp only [laws_szCondS.f, wr (x := a - (l.length : Int)) (by omega) (by omega), if_pos c]
  exact Ev.now _
 have hend : ∀ a, Ev (fun k => laws_szCondS.l0 k l a (l.length : Int)) a := by
  intro a
  refine Ev.succ ?_
  simp only [laws_szCondS.l0, Int.lt_irrefl, if_false]
  exact Ev.now _
 have hstep : ∀ (i : Nat) (x : S147) (b : Int), l[i]? = some x → 0 ≤ b → b ≤ a - (l.length : Int) → (∃ r, Ev (fun k => laws_szCondS.l0 k l b (i : Int)) r ∧ r < 0) ∨ ∃ a', 0 ≤ a' ∧ a' + n147 x ≤ b ∧ ∀ r, Ev (fun k => laws_szCondS.l0 k l a' ((i + 1 : Nat) : Int)) r → Ev (fun k => laws_szCondS.l0 k l b (i : Int)) r := by
  intro i x b hx hb0 hba
  have hi := lt_of_get hx
  have h1 : ((i : Int) < (l.length : Int)) = True := eq_true (by omega)
  have h2 : (0 ≤ (i : Int)) = True := eq_true (by omega)
  have hgx := gin147 (hg x (List.mem_of_getElem? hx))
  obtain ⟨r, e, br, s⟩ := ih b.toNat (by omega) x.f3 hgx.1 hgx.2 b hb0 (by omega) (Nat.le_refl _)
  have e' : Ev (fun k => laws_szCond.f k x.f0 x.f1 x.f2 x.f3 b) (if r < 0 then -1 else r) := by
   refine Ev.succ ?_
   simp only [laws_szCond.f]
   refine Ev.bind e ?_
   by_cases c2 : r < 0
   ·simp only [if_pos c2]; exact Ev.now _
   ·simp only [if_neg c2]; exact Ev.now _
  by_cases c2 : r < 0
  ·left
   rw [if_pos c2] at e'
   refine ⟨-1, Ev.succ ?_, by omega⟩
   simp only [laws_szCondS.l0, h1, h2, if_true, rd_at_T147 hx]
   refine Ev.bind e' ?_
   exact Ev.pos (by omega) (Ev.now _)
  ·right
   rw [if_neg c2] at e'
   have s' := s (by omega)
   rw [← n147_f] at s'
   refine ⟨r, by omega, by omega, fun r' hr => Ev.succ ?_⟩
   simp only [laws_szCondS.l0, h1, h2, if_true, rd_at_T147 hx]
   refine Ev.bind e' ?_
   simp only [if_neg c2, wr1 hi (by omega)]
   exact hr
 obtain ⟨r, h1, h2, h3⟩ := ev_sz n147 l (fun k a i => laws_szCondS.l0 k l a i) (a - (l.length : Int)) hend hstep (a - (l.length : Int)) (by omega) (by omega)
 refine ⟨r, Ev.succ ?_, by omega, fun h => by have := h3 h; omega⟩
 simp only [laws_szCondS.f, wr (x := a - (l.length : Int)) (by omega) (by omega), if_neg c]
 exact h1
theorem laws_szCondS_le (l : List S147) (hl : l.length ≤ maxLen) (hg : ∀ y ∈ l, g147 y) (a : Int) (h0 : 0 ≤ a) (ha : a ≤ 2097152) : ∃ r, Ev (fun k => laws_szCondS.f k l a) r ∧ r ≤ 2097152 ∧ (0 ≤ r → r + (l.length + (l.map n147).sum : Nat) ≤ a) := laws_szCondS_leN _ l hl hg a h0 ha (Nat.le_refl _)
theorem laws_szCond_le (x : S147) (hg : g147 x) (a : Int) (h0 : 0 ≤ a) (ha : a ≤ 2097152) : ∃ r, Ev (fun k => laws_szCond.f k x.f0 x.f1 x.f2 x.f3 a) r ∧ r ≤ 2097152 ∧ (0 ≤ r → r + (n147 x : Nat) ≤ a) := by
 have hgx := gin147 hg
 obtain ⟨r, e, b, s⟩ := laws_szCondS_le x.f3 hgx.1 hgx.2 a h0 ha
 by_cases c : r < 0
 ·refine ⟨-1, Ev.succ ?_, by omega, by omega⟩
  simp only [laws_szCond.f]
  refine Ev.bind e ?_
  simp only [if_pos c]; exact Ev.now _
 ·refine ⟨r, Ev.succ ?_, b, fun h => by rw [n147_f]; exact s h⟩
  simp only [laws_szCond.f]
  refine Ev.bind e ?_
  simp only [if_neg c]; exact Ev.now _
theorem laws_szRule_le (x : S149) (hg : g149 x) (a : Int) (h0 : 0 ≤ a) (ha : a ≤ 2097152) : ∃ r, Ev (fun k => laws_szRule.f k x.f0 x.f1 x.f2 x.f3.f0 x.f3.f1 x.f3.f2 x.f3.f3 a) r ∧ r ≤ 2097152 ∧ (0 ≤ r → r + (n149 x : Nat) ≤ a) := by
 unfold g149 at hg
 unfold n149 laws_szRule.f
 obtain ⟨r0, e0, b0, s0⟩ := laws_szCond_le x.f3 (by have := hg; simp_all) a (by omega) (by omega)
 by_cases c0 : r0 < 0
 ·exact ⟨-1, by refine Ev.bind e0 ?_; simp only [if_pos c0]; exact Ev.now _, by omega, by omega⟩
 have s0' := s0 (by omega)
 exact ⟨r0, by refine Ev.bind e0 ?_; simp only [if_neg c0]; exact Ev.now _, by omega, fun _ => by omega⟩
theorem laws_szRuleS_le (l : List (S149)) (hl : l.length ≤ maxLen) (hg : ∀ y_ ∈ l, g149 y_) (a : Int) (h0 : 0 ≤ a) (ha : a ≤ 2097152) : ∃ r, Ev (fun k => laws_szRuleS.f k l a) r ∧ r ≤ 2097152 ∧ (0 ≤ r → r + (l.length + (l.map n149).sum : Nat) ≤ a) := by
 unfold laws_szRuleS.f
 unfold maxLen at hl
 rw [wr (by omega) (by omega)]
 by_cases c : a - (l.length : Int) < 0
 ·simp only [if_pos c]; exact ⟨_, Ev.now _, by omega, by omega⟩
 simp only [if_neg c]
 have hend : ∀ a, Ev (fun k => laws_szRuleS.l0 k l a (l.length : Int)) a := by
  intro a
  refine Ev.succ ?_
  simp only [laws_szRuleS.l0, Int.lt_irrefl, if_false]
  exact Ev.now _
 have hstep : ∀ (i : Nat) (x : S149) (a : Int), l[i]? = some x → 0 ≤ a → a ≤ 2097152 → (∃ r, Ev (fun k => laws_szRuleS.l0 k l a (i : Int)) r ∧ r < 0) ∨ ∃ a', 0 ≤ a' ∧ a' + n149 x ≤ a ∧ ∀ r, Ev (fun k => laws_szRuleS.l0 k l a' ((i + 1 : Nat) : Int)) r → Ev (fun k => laws_szRuleS.l0 k l a (i : Int)) r := by
  intro i x a hx h0 ha
  have hi := lt_of_get hx
  have h1 : ((i : Int) < (l.length : Int)) = True := eq_true (by omega)
  have h2 : (0 ≤ (i : Int)) = True := eq_true (by omega)
  obtain ⟨r, e, b, s⟩ := laws_szRule_le x (hg x (List.mem_of_getElem? hx)) a h0 ha
  by_cases c2 : r < 0
  ·left
   refine ⟨-1, Ev.succ ?_, by omega⟩
   simp only [laws_szRuleS.l0, h1, h2, if_true, rd_at_T149 hx]
   refine Ev.bind e ?_
   simp only [if_pos c2]
   exact Ev.now _
  ·right
   have s' := s (by omega)
   refine ⟨r, by omega, by omega, fun r' hr => Ev.succ ?_⟩
   simp only [laws_szRuleS.l0, h1, h2, if_true, rd_at_T149 hx]
   refine Ev.bind e ?_
   simp only [if_neg c2, wr1 hi (by omega)]
   exact hr
 obtain ⟨r, h1, h2, h3⟩ := ev_sz n149 l (fun k a i => laws_szRuleS.l0 k l a i) 2097152 hend hstep (a - l.length) (by omega) (by omega)
 exact ⟨r, h1, h2, fun h => by have := h3 h; omega⟩
theorem laws_szPolicy_le (x : S25) (hg : g25 x) (a : Int) (h0 : 0 ≤ a) (ha : a ≤ 2097152) : ∃ r, Ev (fun k => laws_szPolicy.f k x.f0 x.f1 a) r ∧ r ≤ 2097152 ∧ (0 ≤ r → r + (n25 x : Nat) ≤ a) := by
 unfold g25 at hg
 unfold n25 laws_szPolicy.f
 obtain ⟨r0, e0, b0, s0⟩ := laws_szRuleS_le x.f1 (by have := hg; simp_all) (by have := hg; simp_all) a (by omega) (by omega)
 by_cases c0 : r0 < 0
 ·exact ⟨-1, by refine Ev.bind e0 ?_; simp only [if_pos c0]; exact Ev.now _, by omega, by omega⟩
 have s0' := s0 (by omega)
 exact ⟨r0, by refine Ev.bind e0 ?_; simp only [if_neg c0]; exact Ev.now _, by omega, fun _ => by omega⟩
theorem laws_szEpoch_le (x : S27) (hg : g27 x) (a : Int) (h0 : 0 ≤ a) (ha : a ≤ 2097152) : ∃ r, Ev (fun k => laws_szEpoch.f k x.f0 x.f1 x.f2 x.f3.f0 x.f3.f1 a) r ∧ r ≤ 2097152 ∧ (0 ≤ r → r + (n27 x : Nat) ≤ a) := by
 unfold g27 at hg
 unfold n27 laws_szEpoch.f
 obtain ⟨r0, e0, b0, s0⟩ := laws_szIncludesS_le x.f2 (by have := hg; simp_all) a (by omega) (by omega)
 by_cases c0 : r0 < 0
 ·exact ⟨-1, by simp only [e0, Option.bind_some]; simp only [if_pos c0]; exact Ev.now _, by omega, by omega⟩
 have s0' := s0 (by omega)
 obtain ⟨r1, e1, b1, s1⟩ := laws_szPolicy_le x.f3 (by have := hg; simp_all) r0 (by omega) (by omega)
 by_cases c1 : r1 < 0
 ·exact ⟨-1, by simp only [e0, Option.bind_some]; simp only [if_neg c0]; refine Ev.bind e1 ?_; simp only [if_pos c1]; exact Ev.now _, by omega, by omega⟩
 have s1' := s1 (by omega)
 exact ⟨r1, by simp only [e0, Option.bind_some]; simp only [if_neg c0]; refine Ev.bind e1 ?_; simp only [if_neg c1]; exact Ev.now _, by omega, fun _ => by omega⟩
theorem laws_szFactS_le (l : List (S102)) (hl : l.length ≤ maxLen) (a : Int) (h0 : 0 ≤ a) (ha : a ≤ 2097152) : ∃ r, laws_szFactS.f l a = some r ∧ r ≤ 2097152 ∧ (0 ≤ r → r + (l.length : Nat) ≤ a) := by
 unfold laws_szFactS.f
 unfold maxLen at hl
 rw [wr (by omega) (by omega)]
 split
 ·exact ⟨_, rfl, by omega, by omega⟩
 ·exact ⟨_, rfl, by omega, by omega⟩
theorem laws_szRevokedS_le (l : List (S106)) (hl : l.length ≤ maxLen) (a : Int) (h0 : 0 ≤ a) (ha : a ≤ 2097152) : ∃ r, laws_szRevokedS.f l a = some r ∧ r ≤ 2097152 ∧ (0 ≤ r → r + (l.length : Nat) ≤ a) := by
 unfold laws_szRevokedS.f
 unfold maxLen at hl
 rw [wr (by omega) (by omega)]
 split
 ·exact ⟨_, rfl, by omega, by omega⟩
 ·exact ⟨_, rfl, by omega, by omega⟩
theorem laws_szSavedS_le (l : List (S109)) (hl : l.length ≤ maxLen) (a : Int) (h0 : 0 ≤ a) (ha : a ≤ 2097152) : ∃ r, laws_szSavedS.f l a = some r ∧ r ≤ 2097152 ∧ (0 ≤ r → r + (l.length : Nat) ≤ a) := by
 unfold laws_szSavedS.f
 unfold maxLen at hl
 rw [wr (by omega) (by omega)]
 split
 ·exact ⟨_, rfl, by omega, by omega⟩
 ·exact ⟨_, rfl, by omega, by omega⟩
theorem laws_szPoint_le (x : S32) (hg : g32 x) (a : Int) (h0 : 0 ≤ a) (ha : a ≤ 2097152) : ∃ r, Ev (fun k => laws_szPoint.f k x.f0 x.f1.f0 x.f1.f1 x.f1.f2 x.f1.f3.f0 x.f1.f3.f1 x.f2 x.f3 x.f4 x.f5 a) r ∧ r ≤ 2097152 ∧ (0 ≤ r → r + (n32 x : Nat) ≤ a) := by
 unfold g32 at hg
 unfold n32 laws_szPoint.f
 obtain ⟨r0, e0, b0, s0⟩ := laws_szEpoch_le x.f1 (by have := hg; simp_all) a (by omega) (by omega)
 by_cases c0 : r0 < 0
 ·exact ⟨-1, by refine Ev.bind e0 ?_; simp only [if_pos c0]; exact Ev.now _, by omega, by omega⟩
 have s0' := s0 (by omega)
 obtain ⟨r1, e1, b1, s1⟩ := laws_szFactS_le x.f2 (by have := hg; simp_all) r0 (by omega) (by omega)
 by_cases c1 : r1 < 0
 ·exact ⟨-1, by refine Ev.bind e0 ?_; simp only [if_neg c0]; simp only [e1, Option.bind_some]; simp only [if_pos c1]; exact Ev.now _, by omega, by omega⟩
 have s1' := s1 (by omega)
 obtain ⟨r2, e2, b2, s2⟩ := laws_szRevokedS_le x.f3 (by have := hg; simp_all) r1 (by omega) (by omega)
 by_cases c2 : r2 < 0
 ·exact ⟨-1, by refine Ev.bind e0 ?_; simp only [if_neg c0]; simp only [e1, Option.bind_some]; simp only [if_neg c1]; simp only [e2, Option.bind_some]; simp only [if_pos c2]; exact Ev.now _, by omega, by omega⟩
 have s2' := s2 (by omega)
 obtain ⟨r3, e3, b3, s3⟩ := laws_szSavedS_le x.f5 (by have := hg; simp_all) r2 (by omega) (by omega)
 by_cases c3 : r3 < 0
 ·exact ⟨-1, by refine Ev.bind e0 ?_; simp only [if_neg c0]; simp only [e1, Option.bind_some]; simp only [if_neg c1]; simp only [e2, Option.bind_some]; simp only [if_neg c2]; simp only [e3, Option.bind_some]; simp only [if_pos c3]; exact Ev.now _, by omega, by omega⟩
 have s3' := s3 (by omega)
 exact ⟨r3, by refine Ev.bind e0 ?_; simp only [if_neg c0]; simp only [e1, Option.bind_some]; simp only [if_neg c1]; simp only [e2, Option.bind_some]; simp only [if_neg c2]; simp only [e3, Option.bind_some]; simp only [if_neg c3]; exact Ev.now _, by omega, fun _ => by omega⟩
theorem laws_toIncludes_eq (x : S135) : laws_toIncludes.f x.f0 x.f1 = some ((cv135 x).f0, (cv135 x).f1) := by
 unfold laws_toIncludes.f
 first | rfl | (simp only [Option.bind_some]; rfl)
theorem laws_toIncludesS_ev (l : List (S135)) (h : l.length ≤ 2097152) : Ev (fun k => laws_toIncludesS.f k l) (l.map cv135) := by
 unfold laws_toIncludesS.f
 refine Ev.pos rfl (Ev.pos (by omega) (Ev.pos (by omega) ?_))
 refine ev_fill l cv135 (fun k out i => laws_toIncludesS.l0 k l out i) ?_ ?_ _ (by simp)
 ·intro out ho
  refine Ev.succ ?_
  simp only [laws_toIncludesS.l0, Int.lt_irrefl, if_false]
  exact Ev.now _
 ·intro i x out r hx ho hr
  have hi := lt_of_get hx
  have h1 : ((i : Int) < (l.length : Int)) = True := eq_true (by omega)
  have h2 : (0 ≤ (i : Int)) = True := eq_true (by omega)
  have h3 : ((i : Int) < (out.length : Int)) = True := eq_true (by omega)
  refine Ev.succ ?_
  simp only [laws_toIncludesS.l0, h1, h2, h3, if_true, rd_at_T135 hx, wr1 hi (by omega), Int.toNat_natCast, laws_toIncludes_eq x, Option.bind_some]
  exact hr
theorem laws_toCondS_evN (N : Nat) : ∀ l : List S147, l.length + (l.map n147).sum ≤ N → N ≤ 2097152 → Ev (fun k => laws_toCondS.f k l) (l.map cv147) := by
 induction N using Nat.strongRecOn with
 | _ N ih =>
 intro l h hN
 refine Ev.succ ?_
 simp only [laws_toCondS.f]
 refine Ev.pos (by first | trivial | rfl) (Ev.pos (by omega) (Ev.pos (by omega) ?_))
 refine ev_fill l cv147 (fun k out i => laws_toCondS.l0 k l out i) ?_ ?_ _ (by simp)
 ·intro out ho
  refine Ev.succ ?_
  simp only [laws_toCondS.l0, Int.lt_irrefl, if_false]
  exact Ev.now _
 ·intro i x out r hx ho hr
  have hi := lt_of_get hx
  have h1 : ((i : Int) < (l.length : Int)) = True := eq_true (by omega)
  have h2 : (0 ≤ (i : Int)) = True := eq_true (by omega)
  have h3 : ((i : Int) < (out.length : Int)) = True := eq_true (by omega)
  have hn := le_sum n147 hx
  rw [n147_f] at hn
  have e := ih (x.f3.length + (x.f3.map n147).sum) (by omega) x.f3 (Nat.le_refl _) (by omega)
  have e' : Ev (fun k => laws_toCond.f k x.f0 x.f1 x.f2 x.f3) (x.f0, x.f1, x.f2, x.f3.map cv147) := by
   refine Ev.succ ?_
   simp only [laws_toCond.f]
   refine Ev.bind e ?_
   exact Ev.now _
  refine Ev.succ ?_
  simp only [laws_toCondS.l0, h1, h2, if_true, rd_at_T147 hx, wr1 hi (by omega), Int.toNat_natCast]
  refine Ev.bind e' ?_
  simp only [h3, if_true]
  rw [cv147_f] at hr
  exact hr
theorem laws_toCondS_ev (l : List S147) (h : l.length + (l.map n147).sum ≤ 2097152) : Ev (fun k => laws_toCondS.f k l) (l.map cv147) := laws_toCondS_evN _ l (Nat.le_refl _) h
theorem laws_toCond_ev (x : S147) (h : n147 x ≤ 2097152) : Ev (fun k => laws_toCond.f k x.f0 x.f1 x.f2 x.f3) ((cv147 x).f0, (cv147 x).f1, (cv147 x).f2, (cv147 x).f3) := by
 rw [n147_f] at h
 rw [cv147_f]
 refine Ev.succ ?_
 simp only [laws_toCond.f]
 refine Ev.bind (laws_toCondS_ev x.f3 h) ?_
 exact Ev.now _
theorem laws_toRule_ev (x : S149) (h : n149 x ≤ 2097152) : Ev (fun k => laws_toRule.f k x.f0 x.f1 x.f2 x.f3.f0 x.f3.f1 x.f3.f2 x.f3.f3) ((cv149 x).f0, (cv149 x).f1, (cv149 x).f2, (cv149 x).f3.f0, (cv149 x).f3.f1, (cv149 x).f3.f2, (cv149 x).f3.f3) := by
 unfold n149 at h
 unfold laws_toRule.f
 repeat (first | exact Ev.now _ | (refine Ev.bind (laws_toCond_ev _ (by omega)) ?_; try simp only []))
theorem laws_toRuleS_ev (l : List (S149)) (h : l.length + (l.map n149).sum ≤ 2097152) : Ev (fun k => laws_toRuleS.f k l) (l.map cv149) := by
 unfold laws_toRuleS.f
 refine Ev.pos rfl (Ev.pos (by omega) (Ev.pos (by omega) ?_))
 refine ev_fill l cv149 (fun k out i => laws_toRuleS.l0 k l out i) ?_ ?_ _ (by simp)
 ·intro out ho
  refine Ev.succ ?_
  simp only [laws_toRuleS.l0, Int.lt_irrefl, if_false]
  exact Ev.now _
 ·intro i x out r hx ho hr
  have hi := lt_of_get hx
  have h1 : ((i : Int) < (l.length : Int)) = True := eq_true (by omega)
  have h2 : (0 ≤ (i : Int)) = True := eq_true (by omega)
  have h3 : ((i : Int) < (out.length : Int)) = True := eq_true (by omega)
  refine Ev.succ ?_
  simp only [laws_toRuleS.l0, h1, h2, h3, if_true, rd_at_T149 hx, wr1 hi (by omega), Int.toNat_natCast]
  refine Ev.bind (laws_toRule_ev x (by have := le_sum n149 hx; omega)) ?_
  simp only [h3, if_true]
  (try simp only [eta147, eta129])
  exact hr
theorem laws_toPolicy_ev (x : S25) (h : n25 x ≤ 2097152) : Ev (fun k => laws_toPolicy.f k x.f0 x.f1) ((cv25 x).f0, (cv25 x).f1) := by
 unfold n25 at h
 unfold laws_toPolicy.f
 repeat (first | exact Ev.now _ | (refine Ev.bind (laws_toRuleS_ev _ (by omega)) ?_; try simp only []))
theorem laws_toEpoch_ev (x : S27) (h : n27 x ≤ 2097152) : Ev (fun k => laws_toEpoch.f k x.f0 x.f1 x.f2 x.f3.f0 x.f3.f1) ((cv27 x).f0, (cv27 x).f1, (cv27 x).f2, (cv27 x).f3.f0, (cv27 x).f3.f1) := by
 unfold n27 at h
 unfold laws_toEpoch.f
 repeat (first | exact Ev.now _ | (refine Ev.bind (laws_toIncludesS_ev _ (by omega)) ?_; try simp only []) | (refine Ev.bind (laws_toPolicy_ev _ (by omega)) ?_; try simp only []))
theorem laws_toFact_eq (x : S102) : laws_toFact.f x.f0 x.f1 x.f2 x.f3 x.f4 x.f5 = some ((cv102 x).f0, (cv102 x).f1, (cv102 x).f2, (cv102 x).f3, (cv102 x).f4, (cv102 x).f5) := by
 unfold laws_toFact.f
 first | rfl | (simp only [Option.bind_some]; rfl)
theorem laws_toFactS_ev (l : List (S102)) (h : l.length ≤ 2097152) : Ev (fun k => laws_toFactS.f k l) (l.map cv102) := by
 unfold laws_toFactS.f
 refine Ev.pos rfl (Ev.pos (by omega) (Ev.pos (by omega) ?_))
 refine ev_fill l cv102 (fun k out i => laws_toFactS.l0 k l out i) ?_ ?_ _ (by simp)
 ·intro out ho
  refine Ev.succ ?_
  simp only [laws_toFactS.l0, Int.lt_irrefl, if_false]
  exact Ev.now _
 ·intro i x out r hx ho hr
  have hi := lt_of_get hx
  have h1 : ((i : Int) < (l.length : Int)) = True := eq_true (by omega)
  have h2 : (0 ≤ (i : Int)) = True := eq_true (by omega)
  have h3 : ((i : Int) < (out.length : Int)) = True := eq_true (by omega)
  refine Ev.succ ?_
  simp only [laws_toFactS.l0, h1, h2, h3, if_true, rd_at_T102 hx, wr1 hi (by omega), Int.toNat_natCast, laws_toFact_eq x, Option.bind_some]
  exact hr
theorem laws_toRevoked_eq (x : S106) : laws_toRevoked.f x.f0 x.f1 = some ((cv106 x).f0, (cv106 x).f1) := by
 unfold laws_toRevoked.f
 first | rfl | (simp only [Option.bind_some]; rfl)
theorem laws_toRevokedS_ev (l : List (S106)) (h : l.length ≤ 2097152) : Ev (fun k => laws_toRevokedS.f k l) (l.map cv106) := by
 unfold laws_toRevokedS.f
 refine Ev.pos rfl (Ev.pos (by omega) (Ev.pos (by omega) ?_))
 refine ev_fill l cv106 (fun k out i => laws_toRevokedS.l0 k l out i) ?_ ?_ _ (by simp)
 ·intro out ho
  refine Ev.succ ?_
  simp only [laws_toRevokedS.l0, Int.lt_irrefl, if_false]
  exact Ev.now _
 ·intro i x out r hx ho hr
  have hi := lt_of_get hx
  have h1 : ((i : Int) < (l.length : Int)) = True := eq_true (by omega)
  have h2 : (0 ≤ (i : Int)) = True := eq_true (by omega)
  have h3 : ((i : Int) < (out.length : Int)) = True := eq_true (by omega)
  refine Ev.succ ?_
  simp only [laws_toRevokedS.l0, h1, h2, h3, if_true, rd_at_T106 hx, wr1 hi (by omega), Int.toNat_natCast, laws_toRevoked_eq x, Option.bind_some]
  exact hr
theorem laws_toRequest_eq (x : S36) : laws_toRequest.f x.f0 x.f1 x.f2 x.f3 x.f4 x.f5 = some ((cv36 x).f0, (cv36 x).f1, (cv36 x).f2, (cv36 x).f3, (cv36 x).f4, (cv36 x).f5) := by
 unfold laws_toRequest.f
 first | rfl | (simp only [Option.bind_some]; rfl)
theorem laws_toSaved_eq (x : S109) : laws_toSaved.f x.f0.f0 x.f0.f1 x.f0.f2 x.f0.f3 x.f0.f4 x.f0.f5 x.f1 x.f2 = some ((cv109 x).f0.f0, (cv109 x).f0.f1, (cv109 x).f0.f2, (cv109 x).f0.f3, (cv109 x).f0.f4, (cv109 x).f0.f5, (cv109 x).f1, (cv109 x).f2) := by
 unfold laws_toSaved.f
 first | rfl | (simp only [Option.bind_some]; rfl)
theorem laws_toSavedS_ev (l : List (S109)) (h : l.length ≤ 2097152) : Ev (fun k => laws_toSavedS.f k l) (l.map cv109) := by
 unfold laws_toSavedS.f
 refine Ev.pos rfl (Ev.pos (by omega) (Ev.pos (by omega) ?_))
 refine ev_fill l cv109 (fun k out i => laws_toSavedS.l0 k l out i) ?_ ?_ _ (by simp)
 ·intro out ho
  refine Ev.succ ?_
  simp only [laws_toSavedS.l0, Int.lt_irrefl, if_false]
  exact Ev.now _
 ·intro i x out r hx ho hr
  have hi := lt_of_get hx
  have h1 : ((i : Int) < (l.length : Int)) = True := eq_true (by omega)
  have h2 : (0 ≤ (i : Int)) = True := eq_true (by omega)
  have h3 : ((i : Int) < (out.length : Int)) = True := eq_true (by omega)
  refine Ev.succ ?_
  simp only [laws_toSavedS.l0, h1, h2, h3, if_true, rd_at_T109 hx, wr1 hi (by omega), Int.toNat_natCast, laws_toSaved_eq x, Option.bind_some]
  exact hr
theorem laws_toPoint_ev (x : S32) (h : n32 x ≤ 2097152) : Ev (fun k => laws_toPoint.f k x.f0 x.f1.f0 x.f1.f1 x.f1.f2 x.f1.f3.f0 x.f1.f3.f1 x.f2 x.f3 x.f4 x.f5) ((cv32 x).f0, (cv32 x).f1.f0, (cv32 x).f1.f1, (cv32 x).f1.f2, (cv32 x).f1.f3.f0, (cv32 x).f1.f3.f1, (cv32 x).f2, (cv32 x).f3, (cv32 x).f4, (cv32 x).f5) := by
 unfold n32 at h
 unfold laws_toPoint.f
 repeat (first | exact Ev.now _ | (refine Ev.bind (laws_toEpoch_ev _ (by omega)) ?_; try simp only []) | (refine Ev.bind (laws_toFactS_ev _ (by omega)) ?_; try simp only []) | (refine Ev.bind (laws_toRevokedS_ev _ (by omega)) ?_; try simp only []) | (refine Ev.bind (laws_toSavedS_ev _ (by omega)) ?_; try simp only []))
theorem laws_toCert_eq (x : S34) : laws_toCert.f x.f0 x.f1 x.f2 x.f3 x.f4 x.f5 = some ((cv34 x).f0, (cv34 x).f1, (cv34 x).f2, (cv34 x).f3, (cv34 x).f4, (cv34 x).f5) := by
 unfold laws_toCert.f
 first | rfl | (simp only [Option.bind_some]; rfl)
theorem copyC_evN (N : Nat) : ∀ x : S129, n129 x ≤ N → N ≤ 2097152 → Ev (fun k => spec_l15Copy.f k x.f0 x.f1 x.f2 x.f3) (x.f0, x.f1, x.f2, x.f3) := by
 induction N using Nat.strongRecOn with
 | _ N ih =>
 intro x h hN
 rw [n129_f] at h
 refine Ev.succ ?_
 simp only [spec_l15Copy.f]
 have key : ∀ (d i : Nat), x.f3.length - i = d → i ≤ x.f3.length → Ev (fun k => spec_l15Copy.l0 k x.f0 x.f1 x.f2 x.f3 0 0 0 [] x.f0 x.f1 x.f2 (x.f3.take i) (i : Int)) (x.f0, x.f1, x.f2, x.f3) := by
  intro d
  induction d with
  | zero =>
   intro i hd hi
   obtain rfl : i = x.f3.length := by omega
   refine Ev.succ ?_
   simp only [spec_l15Copy.l0, Int.lt_irrefl, if_false, List.take_length]
   exact Ev.now _
  | succ d ihd =>
   intro i hd hi
   have hi' : i < x.f3.length := by omega
   obtain ⟨y, hy⟩ := getAt (l := x.f3) (i := i) hi'
   have hn := le_sum n129 hy
   have h1 : ((i : Int) < (x.f3.length : Int)) = True := eq_true (by omega)
   have h2 : (0 ≤ (i : Int)) = True := eq_true (by omega)
   have h3 : ((x.f3.take i).length < 2932031007402) = True := eq_true (by rw [List.length_take]; omega)
   have e := ih (n129 y) (by omega) y (Nat.le_refl _) (by omega)
   have e3 : x.f3.take i ++ [y] = x.f3.take (i + 1) := by rw [List.take_add_one, hy]; rfl
   refine Ev.succ ?_
   simp only [spec_l15Copy.l0, h1, h2, if_true, rd_at_T129 hy, wr1 hi' (by omega)]
   refine Ev.bind e ?_
   simp only [h3, if_true, eta129, e3]
   exact ihd (i + 1) (by omega) (by omega)
 exact key x.f3.length 0 (by omega) (by omega)
theorem spec_l15Copy_ev (x : S129) (h : n129 x ≤ 2097152) : Ev (fun k => spec_l15Copy.f k x.f0 x.f1 x.f2 x.f3) (x.f0, x.f1, x.f2, x.f3) := copyC_evN _ x (Nat.le_refl _) h
theorem spec_l19Copy_ev (v : Int) (l : List S131) (h : l.length ≤ 2097152) (hn : ∀ x ∈ l, n129 x.f3 ≤ 2097152) : Ev (fun k => spec_l19Copy.f k v l) (v, l) := by
 unfold spec_l19Copy.f
 have key : ∀ (d i : Nat), l.length - i = d → i ≤ l.length → Ev (fun k => spec_l19Copy.l0 k v l 0 [] v (l.take i) (i : Int)) (v, l) := by
  intro d
  induction d with
  | zero =>
   intro i hd hi
   obtain rfl : i = l.length := by omega
   refine Ev.succ ?_
   simp only [spec_l19Copy.l0, Int.lt_irrefl, if_false, List.take_length]
   exact Ev.now _
  | succ d ihd =>
   intro i hd hi
   have hi' : i < l.length := by omega
   obtain ⟨y, hy⟩ := getAt (l := l) (i := i) hi'
   have h1 : ((i : Int) < (l.length : Int)) = True := eq_true (by omega)
   have h2 : (0 ≤ (i : Int)) = True := eq_true (by omega)
   have h3 : ((l.take i).length < 1954687338268) = True := eq_true (by rw [List.length_take]; omega)
   have e3 : l.take i ++ [y] = l.take (i + 1) := by rw [List.take_add_one, hy]; rfl
   refine Ev.succ ?_
   simp only [spec_l19Copy.l0, h1, h2, if_true, rd_at_T131 hy, wr1 hi' (by omega)]
   refine Ev.bind (spec_l15Copy_ev y.f3 (hn y (List.mem_of_getElem? hy))) ?_
   simp only [h3, if_true, eta129, e3]
   exact ihd (i + 1) (by omega) (by omega)
 exact key l.length 0 (by omega) (by omega)
theorem epN {x : S43} (h : n43 x ≤ 2097152) : x.f2.length ≤ 2097152 ∧ x.f3.f1.length ≤ 2097152 ∧ ∀ r ∈ x.f3.f1, n129 r.f3 ≤ 2097152 := by
 unfold n43 n41 at h
 refine ⟨by omega, by omega, fun r hr => ?_⟩
 obtain ⟨j, hj⟩ := List.getElem?_of_mem hr
 have h1 := le_sum n131 hj
 have h2 : n129 r.f3 ≤ n131 r := by unfold n131; omega
 omega
theorem spec_l24Copy_ev (x : S43) (h : n43 x ≤ 2097152) : Ev (fun k => spec_l24Copy.f k x.f0 x.f1 x.f2 x.f3.f0 x.f3.f1) (x.f0, x.f1, x.f2, x.f3.f0, x.f3.f1) := by
 obtain ⟨h1, h2, h3⟩ := epN h
 unfold spec_l24Copy.f
 refine Ev.pos (by omega) ?_
 exact Ev.bind (spec_l19Copy_ev x.f3.f0 x.f3.f1 h2 h3) (Ev.now _)
theorem spec_l7Copy_eq (l : List S100) (h : l.length ≤ 2097152) : spec_l7Copy.f l = some l := by
 unfold spec_l7Copy.f
 rw [if_pos (by omega)]; rfl
theorem spec_l27Copy_ev (p : S48) (h : n48 p ≤ 2097152) : Ev (fun k => spec_l27Copy.f k p.f0 p.f1.f0 p.f1.f1 p.f1.f2 p.f1.f3.f0 p.f1.f3.f1 p.f2 p.f3 p.f4 p.f5) (p.f0, p.f1.f0, p.f1.f1, p.f1.f2, p.f1.f3.f0, p.f1.f3.f1, p.f2, p.f3, p.f4, p.f5) := by
 have h' := h
 unfold n48 at h'
 have h1 : n43 p.f1 ≤ 2097152 := by omega
 have h2 : p.f2.length ≤ 2097152 := by omega
 unfold spec_l27Copy.f
 refine Ev.bind (spec_l24Copy_ev p.f1 h1) ?_
 simp only [spec_l7Copy_eq p.f2 h2, Option.bind_some, List.nil_append]
 exact Ev.pos (by omega) (Ev.pos (by omega) (Ev.now _))
theorem spec_l1In_eq (a b c : Int) : spec_l1In.f a b c = some (inB a b c) := by
 unfold spec_l1In.f
 rw [ite_dand]; rfl
theorem spec_IsName_eq (a : Int) : spec_IsName.f a = some (nameB a) := by
 unfold spec_IsName.f
 rw [spec_l1In_eq]; rfl
theorem spec_HasKind_eq (a b : Int) : spec_HasKind.f a b = some (kindB a b) := by
 unfold spec_HasKind.f kindB
 rw [spec_IsName_eq, Option.bind_some]
 cases h : nameB a with
 | true => simp only [if_true, name_div h, Bool.true_and]; rfl
 | false => rfl
theorem spec_IsTime_eq (a : Int) : spec_IsTime.f a = some (timeB a) := by
 unfold spec_IsTime.f
 rw [spec_l1In_eq]; rfl
def reqB (a b c d e t : Int) : Bool := kindB a 1 && (kindB b 2 && (kindB c 3 && (kindB e 4 && (inB d 0 5 && timeB t))))
theorem spec_IsRequest_eq (a b c d e t : Int) : spec_IsRequest.f a b c d e t = some (reqB a b c d e t) := by
 unfold spec_IsRequest.f reqB
 simp only [spec_HasKind_eq, spec_IsTime_eq, spec_l1In_eq, Option.bind_some]
 cases kindB a 1 <;> cases kindB b 2 <;> cases kindB c 3 <;> cases kindB e 4 <;> cases inB d 0 5 <;> simp
def keyB (a : Int) : Bool := inB a 1 2147483646
def certB (a b c d e : Int) : Bool := inB a 1 9999 && (nameB b && (keyB c && (timeB d && (timeB e && inB (e - d) 0 50))))
def mdV (a : Int) : Int := Int.tmod (wrap64 (Int.tmod a 2147483647 + 2147483647)) 2147483647
def hsX (d v : Int) : Int := Int.tmod (wrap64 (wrap64 (wrap64 (d * 1000003) + mdV v) + 13)) 2147483647
def hashV (l : List Int) : Int := l.foldl hsX 11
def khV (a : Int) (l : List Int) : Int := hashV ([a] ++ l ++ [a])
theorem spec_IsValidKey_eq (a : Int) : spec_IsValidKey.f a = some (keyB a) := by
 unfold spec_IsValidKey.f; rw [spec_l1In_eq]; rfl
theorem spec_IsCert_eq (a b c d e g : Int) : spec_IsCert.f a b c d e g = some (certB a b c d e) := by
 have key : timeB d = true → timeB e = true → (if d ≤ e then some (decide (wrap64 (e - d) ≤ 50)) else some false) = some (inB (e - d) 0 50) := by
  intro hd he
  unfold timeB at hd he
  rw [inB_iff] at hd he
  rw [wr (by omega) (by omega)]
  unfold inB
  by_cases c : d ≤ e
  ·rw [if_pos c, decide_eq_true (show 0 ≤ e - d by omega), Bool.true_and]
  ·rw [if_neg c, decide_eq_false (show ¬ 0 ≤ e - d by omega), Bool.false_and]
 unfold spec_IsCert.f certB
 simp only [spec_l1In_eq, spec_IsName_eq, spec_IsValidKey_eq, spec_IsTime_eq, Option.bind_some]
 cases inB a 1 9999 with
 | false => rfl
 | true => cases nameB b with
  | false => rfl
  | true => cases keyB c with
   | false => rfl
   | true => cases hd : timeB d with
    | false => rfl
    | true => cases he : timeB e with
     | false => rfl
     | true => simp only [if_true, Bool.true_and]; exact key hd he
def adjT {α : Type} (p : α → Bool) (q : α → α → Bool) : α → List α → Bool
 | _, [] => true
 | y, x :: t => p x && (q y x && adjT p q x t)
def adjB {α : Type} (p : α → Bool) (q : α → α → Bool) : List α → Bool
 | [] => true
 | x :: t => p x && adjT p q x t
theorem ev_adj {α : Type} (l : List α) (p : α → Bool) (q : α → α → Bool) (fin : Bool) (L : Nat → Int → Option Bool) (hend : Ev (fun k => L k (l.length : Int)) fin)
  (hs0 : ∀ x r, l[0]? = some x → Ev (fun k => L k ((0 + 1 : Nat) : Int)) r → Ev (fun k => L k 0) (p x && r))
  (hs : ∀ (i : Nat) y x r, l[i]? = some y → l[i + 1]? = some x → Ev (fun k => L k ((i + 1 + 1 : Nat) : Int)) r → Ev (fun k => L k ((i + 1 : Nat) : Int)) (p x && (q y x && r))) : Ev (fun k => L k 0) (adjB p q l && fin) := by
 have key : ∀ (d i : Nat) (y : α), l[i]? = some y → l.length - (i + 1) = d → Ev (fun k => L k ((i + 1 : Nat) : Int)) (adjT p q y (l.drop (i + 1)) && fin) := by
  intro d
  induction d with
  | zero =>
   intro i y hy hd
   have hi := lt_of_get hy
   have e : i + 1 = l.length := by omega
   rw [e, List.drop_length]
   exact hend
  | succ d ih =>
   intro i y hy hd
   have hi : i + 1 < l.length := by omega
   have hx : l[i + 1]? = some l[i + 1] := List.getElem?_eq_getElem hi
   have h := hs i y l[i + 1] _ hy hx (ih (i + 1) l[i + 1] hx (by omega))
   rw [List.drop_eq_getElem_cons hi]
   simp only [adjT, Bool.and_assoc]
   exact h
 cases l with
 | nil => exact hend
 | cons x t =>
  have h := hs0 x _ rfl (key _ 0 x rfl rfl)
  simp only [adjB, Bool.and_assoc]
  exact h
theorem wrp {i n : Nat} (h : i + 1 < n) (hn : n ≤ 9223372036854775807) : wrap64 (((i + 1 : Nat) : Int) - 1) = (i : Int) := by rw [wr (by omega) (by omega)]; omega
def claimB (x : S100) : Bool := if x.f0 = 1 then kindB x.f1 1 && inB x.f2 0 5 else if x.f0 = 2 then kindB x.f1 1 && kindB x.f2 2 else if x.f0 = 3 then kindB x.f1 2 && inB x.f2 0 3 else if x.f0 = 4 then kindB x.f1 3 && inB x.f2 0 3 else false
def factB (x : S100) : Bool := claimB x && (inB x.f3 0 9 && (timeB x.f4 && (timeB x.f5 && decide (x.f4 ≤ x.f5))))
def factQ (y x : S100) : Bool := if y.f0 = x.f0 then if y.f1 = x.f1 then if y.f2 = x.f2 then decide (y.f3 < x.f3) else decide (y.f2 < x.f2) else decide (y.f1 < x.f1) else decide (y.f0 < x.f0)
def storeB (l : List S100) : Bool := adjB factB factQ l && decide ((l.length : Int) ≤ 30)
def ageV (a b : Int) : Int := if timeB a = true ∧ timeB b = true ∧ a ≤ b then b - a else -1
def freshV (a b m : Int) : Bool := if ageV a b = -1 then false else decide (ageV a b ≤ m)
theorem timeAt {t : Int} (h : timeB t = true) : 0 ≤ t ∧ t ≤ 10000 := inB_iff.1 h
theorem ageV_cases (a b : Int) : ageV a b = -1 ∨ 0 ≤ ageV a b := by
 unfold ageV
 split
 ·right; omega
 ·left; rfl
def withinB (a b t : Int) : Bool := timeB a && (timeB b && (timeB t && (decide (a ≤ t) && decide (t ≤ b))))
def holdsB (x : S100) (now age : Int) : Bool := factB x && (withinB x.f4 x.f5 now && freshV x.f4 now age)
theorem fresh_age {a t : Int} (ha : timeB a = true) (ht : timeB t = true) (h : a ≤ t) (m : Int) : freshV a t m = decide (ageV a t ≤ m) := by
 unfold freshV
 have e : ageV a t = t - a := by unfold ageV; rw [if_pos ⟨ha, ht, h⟩]
 rw [e, if_neg (by omega)]
theorem within_iff {a b t : Int} (h : withinB a b t = true) : timeB a = true ∧ timeB b = true ∧ timeB t = true ∧ a ≤ t ∧ t ≤ b := by
 simpa [withinB, and_assoc] using h
theorem spec_IsWithin_eq (a b t : Int) : spec_IsWithin.f a b t = some (withinB a b t) := by
 unfold spec_IsWithin.f withinB
 simp only [spec_IsTime_eq, Option.bind_some]
 cases timeB a <;> cases timeB b <;> cases timeB t <;> simp
 by_cases c : a ≤ t <;> simp [c]
theorem spec_Mod_eq (a : Int) : spec_Mod.f a 2147483647 = some (mdV a) := by
 unfold spec_Mod.f; rw [spec_l1In_eq]; rfl
theorem spec_Hash_ev (l : List Int) (h : l.length ≤ 2097152) : Ev (fun k => spec_Hash.f k l) (hashV l) := by
 unfold spec_Hash.f hashV
 refine ev_fold l hsX (fun s => s) (fun _ _ => True) (fun k s i => spec_Hash.l0 k l s i) ?_ (fun _ _ _ _ _ => trivial) ?_ 11 trivial
 ·intro s _
  refine Ev.succ ?_
  simp only [spec_Hash.l0, Int.lt_irrefl, if_false]
  exact Ev.now _
 ·intro i x s r hx _ hr
  have hi := lt_of_get hx
  have h1 : ((i : Int) < (l.length : Int)) = True := eq_true (by omega)
  have h2 : (0 ≤ (i : Int)) = True := eq_true (by omega)
  refine Ev.succ ?_
  simp only [spec_Hash.l0, h1, h2, if_true, rd_nat l i x hx, spec_Mod_eq, Option.bind_some, wr1 hi (by omega)]
  exact hr
theorem spec_KeyedHash_ev (a : Int) (l : List Int) (h : l.length ≤ 1000) : Ev (fun k => spec_KeyedHash.f k a l) (khV a l) := by
 unfold spec_KeyedHash.f khV
 simp only [Option.bind_some]
 refine Ev.pos (by omega) (Ev.pos (by simp only [List.length_append, List.length_singleton]; omega) ?_)
 exact Ev.bind (spec_Hash_ev _ (by simp only [List.length_append, List.length_singleton]; omega)) (Ev.now _)
theorem spec_MarkCert_ev (s a b c d e g : Int) : Ev (fun k => spec_MarkCert.f k s a b c d e g) (a, b, c, d, e, khV s [a, b, c, d, e]) := by
 unfold spec_MarkCert.f
 exact Ev.bind (spec_KeyedHash_ev s [a, b, c, d, e] (by simp)) (Ev.now _)
def chkB (s : Int) (x : S52) (t : Int) : Bool := certB x.f0 x.f1 x.f2 x.f3 x.f4 && (withinB x.f3 x.f4 t && decide (khV s [x.f0, x.f1, x.f2, x.f3, x.f4] = x.f5))
theorem spec_CheckCert_ev (s : Int) (x : S52) (t : Int) : Ev (fun k => spec_CheckCert.f k s x.f0 x.f1 x.f2 x.f3 x.f4 x.f5 t) (chkB s x t) := by
 unfold spec_CheckCert.f chkB
 simp only [spec_IsCert_eq, Option.bind_some]
 refine Ev.bifT fun _ => ?_
 simp only [spec_IsWithin_eq, Option.bind_some]
 refine Ev.bifT fun _ => ?_
 exact Ev.bind (spec_MarkCert_ev s x.f0 x.f1 x.f2 x.f3 x.f4 x.f5) (Ev.eqv (by simp) (Ev.now _))
theorem spec_AgeOf_eq (a b : Int) : spec_AgeOf.f a b = some (ageV a b) := by
 unfold spec_AgeOf.f ageV
 simp only [spec_IsTime_eq, Option.bind_some]
 by_cases c1 : timeB a = true
 ·by_cases c2 : timeB b = true
  ·have h1 := timeAt c1
   have h2 := timeAt c2
   by_cases c3 : a > b
   ·simp only [if_pos c1, if_pos c2, if_pos c3, if_neg (show ¬ (timeB a = true ∧ timeB b = true ∧ a ≤ b) from fun h => by omega)]
   ·simp only [if_pos c1, if_pos c2, if_neg c3, if_pos (show timeB a = true ∧ timeB b = true ∧ a ≤ b from ⟨c1, c2, by omega⟩), wr (x := b - a) (by omega) (by omega)]
  ·simp only [if_pos c1, if_neg c2, if_neg (show ¬ (timeB a = true ∧ timeB b = true ∧ a ≤ b) from fun h => c2 h.2.1)]
 ·simp only [if_neg c1, if_neg (show ¬ (timeB a = true ∧ timeB b = true ∧ a ≤ b) from fun h => c1 h.1)]
theorem spec_IsFresh_eq (a b m : Int) : spec_IsFresh.f a b m = some (freshV a b m) := by
 unfold spec_IsFresh.f freshV
 simp only [spec_AgeOf_eq, Option.bind_some]
 rcases ageV_cases a b with h | h
 ·rw [if_neg (by omega), if_pos h]
 ·rw [if_pos (by omega), if_neg (by omega)]
theorem spec_IsCurrent_eq (a0 a1 a2 l3 a4 l5 l6 l7 a8 l9 n) : spec_IsCurrent.f a0 a1 a2 l3 a4 l5 l6 l7 a8 l9 n = some (freshV a8 n 10) := by
 unfold spec_IsCurrent.f
 simp only [spec_IsFresh_eq, Option.bind_some]
theorem idx_ev {α : Type} (L : Nat → Int → Option Int) (p : α → Bool) : ∀ (l : List α) (i n : Nat), i + l.length = n → Ev (fun k => L k (n : Int)) (-1) →
  (∀ (j : Nat) (x : α) (r : Int), i ≤ j → l[j - i]? = some x → (p x = true → Ev (fun k => L k (j : Int)) (j : Int)) ∧ (p x = false → Ev (fun k => L k ((j + 1 : Nat) : Int)) r → Ev (fun k => L k (j : Int)) r)) → Ev (fun k => L k (i : Int)) (idxV p l (i : Int))
 | [], i, n, hn, h0, _ => by
  simp only [List.length_nil, Nat.add_zero] at hn
  subst hn
  exact h0
 | x :: l, i, n, hn, h0, hs => by
  have h := hs i x (idxV p l ((i : Int) + 1)) (Nat.le_refl _) (by simp)
  unfold idxV
  cases c : p x with
  | true => simp only [if_true]; exact h.1 c
  | false =>
   simp only [Bool.false_eq_true, if_false]
   refine h.2 c ?_
   have := idx_ev L p l (i + 1) n (by simp only [List.length_cons] at hn; omega) h0 (fun j y r hj hy => hs j y r (by omega) (by rw [show j - i = (j - (i + 1)) + 1 by omega]; simpa using hy))
   exact_mod_cast this
theorem idxV_in {α : Type} (p : α → Bool) (l : List α) (h : ¬ idxV p l 0 < 0) : 0 ≤ idxV p l 0 ∧ idxV p l 0 < (l.length : Int) := by
 rcases idxV_spec p l with ⟨h1, _⟩ | ⟨j, x, h1, h2, _⟩
 ·omega
 ·have := lt_of_get h2; omega
def revAt (l : List S104) (n : Int) : Int := if idxV (fun x => x.f0 == n) l 0 < 0 then -1 else (rd_T104 l (idxV (fun x => x.f0 == n) l 0)).f1
theorem spec_RevokedAt_ev (l : List S104) (n : Int) (h : l.length ≤ 2097152) : Ev (fun k => spec_RevokedAt.f k l n) (revAt l n) := by
 unfold spec_RevokedAt.f revAt
 refine ev_idx l (fun x => x.f0 == n) (fun i => if i < 0 then -1 else (rd_T104 l i).f1) (fun k i => spec_RevokedAt.l0 k l n i) ?_ ?_
 ·refine Ev.succ ?_
  simp only [spec_RevokedAt.l0, Int.lt_irrefl, if_false]
  exact Ev.now _
 ·intro i x hx
  have hi := lt_of_get hx
  have h1 : ((i : Int) < (l.length : Int)) = True := eq_true (by omega)
  have h2 : (0 ≤ (i : Int)) = True := eq_true (by omega)
  constructor
  ·intro c r hr
   have c' : ¬ x.f0 = n := by simpa using c
   refine Ev.succ ?_
   simp only [spec_RevokedAt.l0, h1, h2, if_true, rd_at_T104 hx, wr1 hi (by omega), if_neg c']
   exact hr
  ·intro c
   have c' : x.f0 = n := by simpa using c
   refine Ev.succ ?_
   simp only [spec_RevokedAt.l0, h1, h2, if_true, rd_at_T104 hx, if_pos c', if_neg (show ¬ (i : Int) < 0 by omega)]
   exact Ev.now _
theorem spec_IsRevoked_ev (l : List S104) (n t : Int) (h : l.length ≤ 2097152) : Ev (fun k => spec_IsRevoked.f k l n t) (inB (revAt l n) 0 t) := by
 unfold spec_IsRevoked.f inB
 refine Ev.bind (spec_RevokedAt_ev l n h) ?_
 by_cases c : revAt l n ≥ 0
 ·simp only [if_pos c, decide_eq_true (show 0 ≤ revAt l n from c), Bool.true_and]; exact Ev.now _
 ·simp only [if_neg c, decide_eq_false (show ¬ 0 ≤ revAt l n from c), Bool.false_and]; exact Ev.now _
def sameQ (a q : S54) : Bool := a.f0 == q.f0 && (a.f1 == q.f1 && (a.f2 == q.f2 && (a.f3 == q.f3 && (a.f4 == q.f4))))
theorem spec_SameQuestion_eq (a q : S54) : spec_SameQuestion.f a.f0 a.f1 a.f2 a.f3 a.f4 a.f5 q.f0 q.f1 q.f2 q.f3 q.f4 q.f5 = some (sameQ a q) := by
 simp only [spec_SameQuestion.f, spec_AtTime.f, Option.bind_some, Option.some.injEq, sameQ]
 rw [Bool.eq_iff_iff]
 simp
def savedP (q : S54) (x : S70) : Bool := sameQ x.f0 q && (decide (x.f0.f5 ≤ q.f5) && decide (q.f5 ≤ x.f2))
theorem spec_FindSaved_ev (l : List S70) (q : S54) (h : l.length ≤ 2097152) : Ev (fun k => spec_FindSaved.f k l q.f0 q.f1 q.f2 q.f3 q.f4 q.f5) (idxV (savedP q) l 0) := by
 unfold spec_FindSaved.f
 refine ev_idx l (savedP q) id (fun k i => spec_FindSaved.l0 k l q.f0 q.f1 q.f2 q.f3 q.f4 q.f5 i) ?_ ?_
 ·refine Ev.succ ?_
  simp only [spec_FindSaved.l0, Int.lt_irrefl, if_false]
  exact Ev.now _
 ·intro i x hx
  have hi := lt_of_get hx
  have h1 : ((i : Int) < (l.length : Int)) = True := eq_true (by omega)
  have h2 : (0 ≤ (i : Int)) = True := eq_true (by omega)
  refine ⟨fun hp r hr => ?_, fun hp => ?_⟩
  ·refine Ev.succ ?_
   simp only [spec_FindSaved.l0, h1, h2, if_true, rd_at_T70 hx, wr1 hi (by omega), spec_SameQuestion_eq, Option.bind_some]
   unfold savedP at hp
   cases c : sameQ x.f0 q with
   | false => exact hr
   | true =>
    rw [c, Bool.true_and, Bool.and_eq_false_iff, decide_eq_false_iff_not, decide_eq_false_iff_not] at hp
    simp only [if_true]
    repeat' refine Ev.ite (fun c => ?_) (fun c => ?_)
    all_goals first | exact hr | (exfalso; omega)
  ·refine Ev.succ ?_
   simp only [savedP, Bool.and_eq_true, decide_eq_true_eq] at hp
   simp only [spec_FindSaved.l0, h1, h2, if_true, rd_at_T70 hx, spec_SameQuestion_eq, Option.bind_some, hp.1, if_pos hp.2.1, if_pos hp.2.2]
   exact Ev.now _
theorem spec_l15Left_evN (N : Nat) : ∀ (x : S129) (a : Int), n129 x ≤ N → N ≤ 2097152 → 0 ≤ a → a ≤ 2097152 → ∃ r, Ev (fun k => spec_l15Left.f k x.f0 x.f1 x.f2 x.f3 a) r ∧ -1 ≤ r ∧ (1 + (n129 x : Int) ≤ a → r = a - 1 - (n129 x : Int)) ∧ (a < 1 + (n129 x : Int) → r < 0) := by
 induction N using Nat.strongRecOn with
 | _ N ih =>
 intro x a hx hN ha0 ha1
 rw [n129_f] at hx ⊢
 have key : ∀ (d i : Nat) (s : Int), x.f3.length - i = d → i ≤ x.f3.length → -1 ≤ s → s ≤ 2097152 → ∃ r, Ev (fun k => spec_l15Left.l0 k s x.f0 x.f1 x.f2 x.f3 (i : Int)) r ∧ -1 ≤ r ∧ ((((x.f3.drop i).length + ((x.f3.drop i).map n129).sum : Nat) : Int) ≤ s → r = s - (((x.f3.drop i).length + ((x.f3.drop i).map n129).sum : Nat) : Int)) ∧ (s < (((x.f3.drop i).length + ((x.f3.drop i).map n129).sum : Nat) : Int) → r < 0) := by
  intro d
  induction d with
  | zero =>
   intro i s hd hi h0 hs
   obtain rfl : i = x.f3.length := by omega
   rw [List.drop_length, List.length_nil, List.map_nil, List.sum_nil]
   refine ⟨s, Ev.succ ?_, h0, fun _ => by omega, fun h => by omega⟩
   simp only [spec_l15Left.l0, Int.lt_irrefl, if_false]
   exact Ev.now _
  | succ d ih2 =>
   intro i s hd hi h0 hs
   have hi' : i < x.f3.length := by omega
   have hy : x.f3[i]? = some x.f3[i] := List.getElem?_eq_getElem hi'
   have hn := le_sum n129 hy
   rw [List.drop_eq_getElem_cons hi']
   simp only [List.length_cons, List.map_cons, List.sum_cons]
   generalize x.f3[i] = y at hy hn ⊢
   have h1 : ((i : Int) < (x.f3.length : Int)) = True := eq_true (by omega)
   have h2 : (0 ≤ (i : Int)) = True := eq_true (by omega)
   by_cases c : s ≥ 0
   ·obtain ⟨r1, e1, r10, r11, r12⟩ := ih (n129 y) (by omega) y s (Nat.le_refl _) (by omega) (by omega) hs
    obtain ⟨r, e, r0, r2, r3⟩ := ih2 (i + 1) r1 (by omega) (by omega) r10 (by
     by_cases q : 1 + (n129 y : Int) ≤ s
     ·have := r11 q; omega
     ·have := r12 (by omega); omega)
    refine ⟨r, Ev.succ ?_, r0, ?_, ?_⟩
    ·simp only [spec_l15Left.l0, h1, h2, if_true, if_pos c, rd_at_T129 hy, wr1 hi' (by omega)]
     exact Ev.bind e1 e
    ·intro h
     have q := r11 (by omega)
     have := r2 (by omega)
     omega
    ·intro h
     by_cases q : 1 + (n129 y : Int) ≤ s
     ·have := r11 q; exact r3 (by omega)
     ·have := r12 (by omega); exact r3 (by omega)
   ·refine ⟨s, Ev.succ ?_, h0, fun h => by omega, fun _ => by omega⟩
    simp only [spec_l15Left.l0, h1, if_true, if_neg c]
    exact Ev.now _
 obtain ⟨r, e, r0, r1, r2⟩ := key x.f3.length 0 (a - 1) (by omega) (by omega) (by omega) (by omega)
 rw [List.drop_zero] at r1 r2
 refine ⟨r, Ev.succ ?_, r0, fun h => ?_, fun h => ?_⟩
 ·simp only [spec_l15Left.f, wr (show (-9223372036854775808 : Int) ≤ a - 1 by omega) (by omega)]
  exact e
 ·have := r1 (by omega); omega
 ·exact r2 (by omega)
theorem impl_InRange_eq (a b c : Int) : impl_InRange.f a b c = some (inB a b c) := by
 unfold impl_InRange.f
 rw [ite_dand]; rfl
theorem node_eq (a b c : Int) (l : List S129) : impl_isNode.f a b c l = spec_l15Node.f a b c l := by
 unfold impl_isNode.f spec_l15Node.f impl_ArityOf.f spec_ArityOf.f
 simp only [impl_InRange_eq, spec_l1In_eq, spec_IsTime_eq, Option.bind_some]
 generalize (l.length : Int) = n
 by_cases h1 : a = 1
 ·subst h1; simp [inB, timeB]; (repeat' split) <;> first | rfl | omega | (simp_all; done) | (simp_all; omega) | (rw [Option.some.injEq, Bool.eq_iff_iff]; simp_all; done) | (rw [Option.some.injEq, Bool.eq_iff_iff]; simp_all; omega)
 by_cases h2 : a = 2
 ·subst h2; simp [inB, timeB]; (repeat' split) <;> first | rfl | omega | (simp_all; done) | (simp_all; omega) | (rw [Option.some.injEq, Bool.eq_iff_iff]; simp_all; done) | (rw [Option.some.injEq, Bool.eq_iff_iff]; simp_all; omega)
 by_cases h3 : a = 3
 ·subst h3; simp [inB, timeB]; (repeat' split) <;> first | rfl | omega | (simp_all; done) | (simp_all; omega) | (rw [Option.some.injEq, Bool.eq_iff_iff]; simp_all; done) | (rw [Option.some.injEq, Bool.eq_iff_iff]; simp_all; omega)
 by_cases h4 : a = 4
 ·subst h4; simp [inB, timeB]; (repeat' split) <;> first | rfl | omega | (simp_all; done) | (simp_all; omega) | (rw [Option.some.injEq, Bool.eq_iff_iff]; simp_all; done) | (rw [Option.some.injEq, Bool.eq_iff_iff]; simp_all; omega)
 by_cases h5 : a = 5
 ·subst h5; simp [inB, timeB]; (repeat' split) <;> first | rfl | omega | (simp_all; done) | (simp_all; omega) | (rw [Option.some.injEq, Bool.eq_iff_iff]; simp_all; done) | (rw [Option.some.injEq, Bool.eq_iff_iff]; simp_all; omega)
 by_cases h6 : a = 6
 ·subst h6; simp [inB, timeB]; (repeat' split) <;> first | rfl | omega | (simp_all; done) | (simp_all; omega) | (rw [Option.some.injEq, Bool.eq_iff_iff]; simp_all; done) | (rw [Option.some.injEq, Bool.eq_iff_iff]; simp_all; omega)
 by_cases h7 : a = 7
 ·subst h7; simp [inB, timeB]; (repeat' split) <;> first | rfl | omega | (simp_all; done) | (simp_all; omega) | (rw [Option.some.injEq, Bool.eq_iff_iff]; simp_all; done) | (rw [Option.some.injEq, Bool.eq_iff_iff]; simp_all; omega)
 by_cases h8 : a = 8
 ·subst h8; simp [inB, timeB]; (repeat' split) <;> first | rfl | omega | (simp_all; done) | (simp_all; omega) | (rw [Option.some.injEq, Bool.eq_iff_iff]; simp_all; done) | (rw [Option.some.injEq, Bool.eq_iff_iff]; simp_all; omega)
 by_cases h9 : a = 9
 ·subst h9; simp [inB, timeB]; (repeat' split) <;> first | rfl | omega | (simp_all; done) | (simp_all; omega) | (rw [Option.some.injEq, Bool.eq_iff_iff]; simp_all; done) | (rw [Option.some.injEq, Bool.eq_iff_iff]; simp_all; omega)
 simp [h1, h2, h3, h4, h5, h6, h7, h8, h9, inB, timeB]; (repeat' split) <;> (try simp only [Option.bind_some]) <;> (repeat' split) <;> first | rfl | omega | (simp_all; done) | (simp_all; omega) | (rw [Option.some.injEq, Bool.eq_iff_iff]; simp_all; done) | (rw [Option.some.injEq, Bool.eq_iff_iff]; simp_all; omega)
theorem node_some (a b c : Int) (l : List S129) : ∃ t, spec_l15Node.f a b c l = some t := by
 have ha : ∃ m, spec_ArityOf.f a = some m := by
  unfold spec_ArityOf.f
  (repeat' split) <;> exact ⟨_, rfl⟩
 obtain ⟨m, hm⟩ := ha
 unfold spec_l15Node.f
 simp only [spec_l1In_eq, spec_IsTime_eq, hm, Option.bind_some]
 (repeat' split) <;> exact ⟨_, rfl⟩
theorem idxV_anyI {α : Type} (q : α → Bool) : ∀ (l : List α) (i : Int), 0 ≤ i → decide (idxV q l i ≥ 0) = l.any q
 | [], i, _ => by simp [idxV]
 | x :: l, i, h => by
  unfold idxV
  rw [List.any_cons]
  cases c : q x with
  | true => simp only [if_true, Bool.true_or]; exact decide_eq_true h
  | false => simp only [Bool.false_eq_true, if_false, Bool.false_or]; exact idxV_anyI q l (i + 1) (by omega)
mutual
def vldC : S129 → Bool
 | ⟨a, b, c, l⟩ => (spec_l15Node.f a b c l).getD false && vldL l
def vldL : List S129 → Bool
 | [] => true
 | x :: l => vldC x && vldL l
end
theorem vldL_eq : ∀ l : List S129, vldL l = l.all vldC
 | [] => by simp [vldL]
 | x :: l => by simp [vldL, vldL_eq l]
theorem vldC_f (x : S129) : vldC x = ((spec_l15Node.f x.f0 x.f1 x.f2 x.f3).getD false && x.f3.all vldC) := by
 cases x
 simp only [vldC, vldL_eq]
def bothV (x : S129) (b : Bool) : Prop := Ev (fun k => spec_l15Valid.f k x.f0 x.f1 x.f2 x.f3) b ∧ Ev (fun k => impl_areNodes.f k x.f0 x.f1 x.f2 x.f3) b
theorem valid_evN (N : Nat) : ∀ x : S129, n129 x ≤ N → N ≤ 2097152 → bothV x (vldC x) := by
 induction N using Nat.strongRecOn with
 | _ N ih =>
 intro x hx hN
 rw [n129_f] at hx
 obtain ⟨t, ht⟩ := node_some x.f0 x.f1 x.f2 x.f3
 have hti := (node_eq x.f0 x.f1 x.f2 x.f3).trans ht
 rw [vldC_f, ht, Option.getD_some]
 cases t with
 | false => exact ⟨Ev.succ (by simp only [spec_l15Valid.f, ht, Option.bind_some, Bool.false_eq_true, if_false, Bool.false_and]; exact Ev.now _), Ev.succ (by simp only [impl_areNodes.f, hti, Option.bind_some, Bool.false_eq_true, if_false, Bool.false_and]; exact Ev.now _)⟩
 | true =>
 have hp : ∀ y ∈ x.f3, bothV y (vldC y) := fun y hy => by
  obtain ⟨i, hi, rfl⟩ := List.getElem_of_mem hy
  have hn := le_sum n129 (List.getElem?_eq_getElem hi)
  exact ih (n129 x.f3[i]) (by omega) _ (Nat.le_refl _) (by omega)
 rw [Bool.true_and]
 refine ⟨Ev.succ ?_, Ev.succ ?_⟩
 ·simp only [spec_l15Valid.f, ht, Option.bind_some, if_true]
  have key : ∀ d i : Nat, x.f3.length - i = d → i ≤ x.f3.length → Ev (fun k => spec_l15Valid.l0 k x.f0 x.f1 x.f2 x.f3 (i : Int)) ((x.f3.drop i).all vldC) := by
   intro d
   induction d with
   | zero =>
    intro i hd hi
    obtain rfl : i = x.f3.length := by omega
    refine Ev.succ ?_
    simp only [spec_l15Valid.l0, Int.lt_irrefl, if_false, List.drop_length, List.all_nil]
    exact Ev.now _
   | succ d ih2 =>
    intro i hd hi
    have hi' : i < x.f3.length := by omega
    have hy : x.f3[i]? = some x.f3[i] := List.getElem?_eq_getElem hi'
    have hb := (hp x.f3[i] (List.getElem_mem hi')).1
    rw [List.drop_eq_getElem_cons hi', List.all_cons]
    generalize x.f3[i] = y at hy hb ⊢
    have h1 : ((i : Int) < (x.f3.length : Int)) = True := eq_true (by omega)
    have h2 : (0 ≤ (i : Int)) = True := eq_true (by omega)
    refine Ev.succ ?_
    simp only [spec_l15Valid.l0, h1, h2, if_true, rd_at_T129 hy, wr1 hi' (by omega)]
    refine Ev.bind hb ?_
    cases vldC y with
    | true => simp only [if_true, Bool.true_and]; exact ih2 (i + 1) (by omega) (by omega)
    | false => simp only [Bool.false_eq_true, if_false, Bool.false_and]; exact Ev.now _
  exact Ev.eqv (by rw [List.drop_zero]) (key x.f3.length 0 (by omega) (by omega))
 ·simp only [impl_areNodes.f, hti, Option.bind_some, if_true]
  have hI : Ev (fun k => slices_IndexFunc182_170.f k x.f3) (idxV (fun y => !vldC y) x.f3 0) := by
   refine Ev.succ ?_
   simp only [slices_IndexFunc182_170.f]
   refine idx_ev (fun k i => slices_IndexFunc182_170.l0 k x.f3 (x.f3.length : Int) i) (fun y => !vldC y) x.f3 0 x.f3.length (by omega) ?_ ?_
   ·refine Ev.succ ?_
    simp only [slices_IndexFunc182_170.l0, Int.lt_irrefl, if_false]
    exact Ev.now _
   ·intro j y r _ hy
    rw [Nat.sub_zero] at hy
    have hj := lt_of_get hy
    have h1 : ((j : Int) < (x.f3.length : Int)) = True := eq_true (by omega)
    have h2 : (0 ≤ (j : Int)) = True := eq_true (by omega)
    have hc : Ev (fun k => cl170.f k y.f0 y.f1 y.f2 y.f3) (!vldC y) := by
     refine Ev.succ ?_
     simp only [cl170.f]
     exact Ev.bind (hp y (List.mem_of_getElem? hy)).2 (Ev.now _)
    constructor
    ·intro hq
     refine Ev.succ ?_
     simp only [slices_IndexFunc182_170.l0, h1, h2, if_true, rd_at_T129 hy]
     refine Ev.bind hc ?_
     simp only [hq, if_true]
     exact Ev.now _
    ·intro hq he
     refine Ev.succ ?_
     simp only [slices_IndexFunc182_170.l0, h1, h2, if_true, rd_at_T129 hy, wr1 hj (by omega)]
     refine Ev.bind hc ?_
     simp only [hq, Bool.false_eq_true, if_false]
     exact he
  have hC : Ev (fun k => slices_ContainsFunc169_170.f k x.f3) (x.f3.any (fun y => !vldC y)) := by
   refine Ev.succ ?_
   simp only [slices_ContainsFunc169_170.f]
   exact Ev.bind hI (Ev.eqv (idxV_anyI (fun y => !vldC y) x.f3 0 (by omega)) (Ev.now _))
  refine Ev.bind hC ?_
  refine Ev.eqv ?_ (Ev.now _)
  simp [List.any_eq_not_all_not]
def condB (x : S129) : Bool := decide (1 + (n129 x : Int) ≤ 15) && vldC x
theorem spec_IsCond_ev (x : S129) (h : n129 x ≤ 2097152) : Ev (fun k => spec_IsCond.f k x.f0 x.f1 x.f2 x.f3) (condB x) := by
 have hv := (valid_evN _ x (Nat.le_refl _) h).1
 obtain ⟨r, hr, _, r1, r2⟩ := spec_l15Left_evN _ x 15 (Nat.le_refl _) h (by omega) (by omega)
 unfold spec_IsCond.f condB
 by_cases c : 1 + (n129 x : Int) ≤ 15
 ·have q := r1 c
  refine Ev.bind hr ?_
  simp only [if_pos (show r ≥ 0 by omega), decide_eq_true c, Bool.true_and]
  exact Ev.bind hv (Ev.now _)
 ·have q := r2 (by omega)
  refine Ev.bind hr ?_
  simp only [if_neg (show ¬ r ≥ 0 by omega), decide_eq_false c, Bool.false_and]
  exact Ev.now _
def ruleB (r : S131) : Bool := inB r.f0 0 1 && (inB r.f1 (-1) 5 && ((r.f2 == -1 || kindB r.f2 4) && condB r.f3))
def policyB (p : S41) : Bool := inB p.f0 0 999 && (decide ((p.f1.length : Int) ≤ 8) && p.f1.all ruleB)
theorem rule_n (r : S131) : n129 r.f3 ≤ n131 r := by unfold n131; omega
theorem spec_IsRule_ev (r : S131) (h : n131 r ≤ 2097152) : Ev (fun k => spec_IsRule.f k r.f0 r.f1 r.f2 r.f3.f0 r.f3.f1 r.f3.f2 r.f3.f3) (ruleB r) := by
 have hc := spec_IsCond_ev r.f3 (by have := rule_n r; omega)
 unfold spec_IsRule.f ruleB
 simp only [spec_l1In_eq, spec_HasKind_eq, Option.bind_some]
 refine Ev.bifT fun _ => Ev.bifT fun _ => ?_
 by_cases c : r.f2 = -1
 ·simp only [if_pos c, beq_iff_eq.2 c, Bool.true_or, Bool.true_and]
  exact Ev.bind hc (Ev.now _)
 ·simp only [if_neg c, beq_eq_false_iff_ne.2 c, Bool.false_or]
  exact Ev.bifT fun _ => Ev.bind hc (Ev.now _)
theorem spec_IsPolicy_ev (p : S41) (h : n41 p ≤ 2097152) : Ev (fun k => spec_IsPolicy.f k p.f0 p.f1) (policyB p) := by
 unfold n41 at h
 unfold spec_IsPolicy.f policyB
 have key : ∀ d i : Nat, p.f1.length - i = d → i ≤ p.f1.length → Ev (fun k => spec_IsPolicy.l0 k p.f0 p.f1 (i : Int)) ((p.f1.drop i).all ruleB && (inB p.f0 0 999 && decide ((p.f1.length : Int) ≤ 8))) := by
  intro d
  induction d with
  | zero =>
   intro i hd hi
   obtain rfl : i = p.f1.length := by omega
   refine Ev.succ ?_
   simp only [spec_IsPolicy.l0, Int.lt_irrefl, if_false, List.drop_length, List.all_nil, Bool.true_and, spec_l1In_eq, Option.bind_some]
   exact Ev.bifT fun _ => Ev.now _
  | succ d ih =>
   intro i hd hi
   have hi' : i < p.f1.length := by omega
   have hx : p.f1[i]? = some p.f1[i] := List.getElem?_eq_getElem hi'
   have hr := ih (i + 1) (by omega) (by omega)
   have hn := le_sum n131 hx
   rw [List.drop_eq_getElem_cons hi', List.all_cons, Bool.and_assoc]
   generalize p.f1[i] = x at hx hn ⊢
   have h1 : ((i : Int) < (p.f1.length : Int)) = True := eq_true (by omega)
   have h2 : (0 ≤ (i : Int)) = True := eq_true (by omega)
   refine Ev.succ ?_
   simp only [spec_IsPolicy.l0, h1, h2, if_true, rd_at_T131 hx, wr1 hi' (show p.f1.length ≤ 9223372036854775807 by omega)]
   exact Ev.band (spec_IsRule_ev x (by omega)) fun _ => hr
 refine Ev.eqv ?_ (key p.f1.length 0 (by omega) (by omega))
 rw [List.drop_zero]
 cases p.f1.all ruleB <;> cases inB p.f0 0 999 <;> simp
def forB (x : S131) (a o : Int) : Bool := (decide (x.f1 = -1) || decide (x.f1 = a)) && (decide (x.f2 = -1) || decide (x.f2 = o))
theorem spec_IsFor_eq (x : S131) (a o : Int) : spec_IsFor.f x.f0 x.f1 x.f2 x.f3.f0 x.f3.f1 x.f3.f2 x.f3.f3 a o = some (forB x a o) := by
 unfold spec_IsFor.f forB
 by_cases c1 : x.f1 = -1
 ·rw [if_pos c1]
  by_cases c2 : x.f2 = -1
  ·rw [if_pos c2]; simp [c1, c2]
  ·rw [if_neg c2]; simp [c1, c2, Bool.beq_eq_decide_eq]
 ·rw [if_neg c1]
  by_cases c3 : x.f1 = a
  ·rw [if_pos c3]
   by_cases c2 : x.f2 = -1
   ·rw [if_pos c2]; simp [c3, c2]
   ·rw [if_neg c2]; simp [c3, c2, Bool.beq_eq_decide_eq]
  ·rw [if_neg c3]; simp [c1, c3]
theorem spec_IsFact_eq (x : S100) : spec_IsFact.f x.f0 x.f1 x.f2 x.f3 x.f4 x.f5 = some (factB x) := by
 unfold spec_IsFact.f factB claimB
 simp only [spec_HasKind_eq, spec_l1In_eq, spec_IsTime_eq, Option.bind_some, ite_and]
 (repeat' split) <;> first | rfl | simp only [Bool.and_assoc, Bool.false_and]
theorem spec_HoldsAt_eq (x : S100) (t a : Int) : spec_HoldsAt.f x.f0 x.f1 x.f2 x.f3 x.f4 x.f5 t a = some (holdsB x t a) := by
 unfold spec_HoldsAt.f holdsB
 simp only [spec_IsFact_eq, spec_IsWithin_eq, spec_IsFresh_eq, Option.bind_some]
 cases factB x <;> cases withinB x.f4 x.f5 t <;> simp
def roleB (n : Int) : Bool := decide (0 ≤ n) && decide (n ≤ 5)
def mkR (m : List Bool) (r : Int) : Bool := m.getD r.toNat false
def visX (a : Int) (s : List Bool × List Int) (x : S133) : List Bool × List Int := if x.f0 = a ∧ roleB x.f1 = true ∧ mkR s.1 x.f1 = false then (s.1.set x.f1.toNat true, s.2 ++ [x.f1]) else s
def popX (l : List S133) (a : Int) (s : List Bool × List Int) : List Bool × List Int := l.foldl (visX a) s
def bfsX (l : List S133) : Nat → List Int → List Bool → Option (List Bool)
 | 0, _, _ => none
 | _ + 1, [], m => some m
 | k + 1, a :: rest, m => bfsX l k (popX l a (m, rest)).2 (popX l a (m, rest)).1
def edgeP (l : List S133) (a b : Int) : Prop := ∃ x ∈ l, x.f0 = a ∧ x.f1 = b ∧ roleB a = true ∧ roleB b = true
inductive Rch (l : List S133) (a : Int) : Int → Prop
 | refl : Rch l a a
 | step {b c : Int} : Rch l a b → edgeP l b c → Rch l a c
theorem Rch.trans {l : List S133} {a b c : Int} (h1 : Rch l a b) (h2 : Rch l b c) : Rch l a c := by
 induction h2 with
 | refl => exact h1
 | step _ e ih => exact .step ih e
def RchP (l : List S133) (a c : Int) : Prop := ∃ b, edgeP l a b ∧ Rch l b c
theorem RchP.step {l : List S133} {a b c : Int} (h : RchP l a b) (e : edgeP l b c) : RchP l a c := by
 obtain ⟨d, h1, h2⟩ := h
 exact ⟨d, h1, .step h2 e⟩
theorem Rch_iff {l : List S133} {a c : Int} : Rch l a c ↔ a = c ∨ RchP l a c := by
 constructor
 ·intro h
  induction h with
  | refl => exact .inl rfl
  | step h e ih =>
   rcases ih with rfl | ih
   ·exact .inr ⟨_, e, .refl⟩
   ·exact .inr (ih.step e)
 ·rintro (rfl | ⟨b, e, h⟩)
  ·exact .refl
  ·exact Rch.trans (.step .refl e) h
def markX (m : List Bool) (x : S133) : List Bool := if roleB x.f0 && roleB x.f1 && mkR m x.f0 then m.set x.f1.toNat true else m
def roundX (l : List S133) (m : List Bool) : List Bool := l.foldl markX m
def itX (l : List S133) : Nat → List Bool → List Bool
 | 0, m => m
 | n + 1, m => itX l n (roundX l m)
theorem roleB_iff {n : Int} : roleB n = true ↔ 0 ≤ n ∧ n ≤ 5 := by simp [roleB]
theorem mk_set {m : List Bool} (hm : m.length = 6) {r : Int} (hr : roleB r = true) (q : Int) (hq : roleB q = true) : mkR (m.set r.toNat true) q = (decide (q = r) || mkR m q) := by
 rw [roleB_iff] at hr hq
 unfold mkR
 rw [List.getD_eq_getElem?_getD, List.getD_eq_getElem?_getD]
 by_cases h : q = r
 ·subst h
  rw [List.getElem?_set_self (by omega)]
  simp
 ·rw [List.getElem?_set_ne (by omega)]
  simp [h]
theorem markX_len {m : List Bool} (x : S133) : (markX m x).length = m.length := by
 unfold markX; split <;> simp
theorem roundX_len (l : List S133) : ∀ m : List Bool, (roundX l m).length = m.length := by
 unfold roundX
 induction l with
 | nil => intro m; rfl
 | cons x l ih => intro m; rw [List.foldl_cons, ih, markX_len]
theorem mk_markX {m : List Bool} (hm : m.length = 6) (x : S133) (q : Int) (hq : roleB q = true) : mkR (markX m x) q = (mkR m q || (decide (q = x.f1) && (roleB x.f0 && roleB x.f1 && mkR m x.f0))) := by
 unfold markX
 split
 ·rename_i h
  rw [h]
  simp only [Bool.and_eq_true] at h
  rw [mk_set hm h.1.2 q hq, Bool.and_true, Bool.or_comm]
 ·rename_i h
  rw [Bool.not_eq_true] at h
  rw [h]; simp
theorem mk_mono_markX {m : List Bool} (hm : m.length = 6) (x : S133) {q : Int} (hq : roleB q = true) (h : mkR m q = true) : mkR (markX m x) q = true := by
 rw [mk_markX hm x q hq, h]; rfl
theorem mk_mono_round (l : List S133) : ∀ {m : List Bool}, m.length = 6 → ∀ {q : Int}, roleB q = true → mkR m q = true → mkR (roundX l m) q = true := by
 unfold roundX
 induction l with
 | nil => intro m hm q hq h; exact h
 | cons x l ih => intro m hm q hq h; exact ih (m := markX m x) (by rw [markX_len]; exact hm) hq (mk_mono_markX hm x hq h)
theorem round_edge (l : List S133) : ∀ {m : List Bool}, m.length = 6 → ∀ {a b : Int}, edgeP l a b → mkR m a = true → mkR (roundX l m) b = true := by
 induction l with
 | nil => rintro m hm a b ⟨x, hx, _⟩; cases hx
 | cons x l ih =>
  rintro m hm a b ⟨y, hy, rfl, rfl, ha, hb⟩ h
  have hl : (markX m x).length = 6 := by rw [markX_len]; exact hm
  change mkR (roundX l (markX m x)) y.f1 = true
  rcases List.mem_cons.1 hy with rfl | hy
  ·refine mk_mono_round l hl hb ?_
   rw [mk_markX hm y _ hb, ha, hb, h]; simp
  ·exact ih hl ⟨y, hy, rfl, rfl, ha, hb⟩ (mk_mono_markX hm x ha h)
theorem round_sound (l0 : List S133) (P : Int → Prop) (hP : ∀ a b, P a → edgeP l0 a b → P b) (l : List S133) (hl : ∀ x ∈ l, x ∈ l0) : ∀ {m : List Bool}, m.length = 6 → (∀ q, roleB q = true → mkR m q = true → P q) → ∀ q, roleB q = true → mkR (roundX l m) q = true → P q := by
 induction l with
 | nil => intro m hm h q hq hk; exact h q hq hk
 | cons x l ih =>
  intro m hm h
  refine ih (fun y hy => hl y (List.mem_cons_of_mem _ hy)) (m := markX m x) (by rw [markX_len]; exact hm) ?_
  intro q hq hk
  rw [mk_markX hm x q hq, Bool.or_eq_true] at hk
  rcases hk with hk | hk
  ·exact h q hq hk
  ·simp only [Bool.and_eq_true, decide_eq_true_eq] at hk
   obtain ⟨rfl, ⟨h1, h2⟩, h3⟩ := hk
   exact hP x.f0 x.f1 (h _ h1 h3) ⟨x, hl x List.mem_cons_self, rfl, rfl, h1, h2⟩
def cntB (m : List Bool) : Nat := m.countP id
theorem cnt_set : ∀ (m : List Bool) (i : Nat), cntB m ≤ cntB (m.set i true) ∧ (m[i]? = some false → cntB m < cntB (m.set i true)) := by
 intro m
 induction m with
 | nil => intro i; simp
 | cons b m ih =>
  intro i
  cases i with
  | zero => cases b <;> simp [cntB]
  | succ i =>
   have := ih i
   simp only [List.set_cons_succ, List.getElem?_cons_succ, cntB, List.countP_cons] at this ⊢
   exact ⟨by omega, fun h => by have := this.2 h; omega⟩
theorem cnt_markX (m : List Bool) (hm : m.length = 6) (x : S133) : cntB m ≤ cntB (markX m x) ∧ (markX m x = m ∨ cntB m < cntB (markX m x)) := by
 unfold markX
 split
 ·rename_i h
  simp only [Bool.and_eq_true, roleB_iff] at h
  have hlt : x.f1.toNat < m.length := by omega
  refine ⟨(cnt_set m _).1, ?_⟩
  cases hb : m[x.f1.toNat] with
  | true =>
   left
   apply List.ext_getElem?
   intro j
   by_cases e : x.f1.toNat = j
   ·subst e; rw [List.getElem?_set_self hlt, List.getElem?_eq_getElem hlt, hb]
   ·rw [List.getElem?_set_ne e]
  | false => exact .inr ((cnt_set m _).2 (by rw [List.getElem?_eq_getElem hlt, hb]))
 ·exact ⟨Nat.le_refl _, .inl rfl⟩
theorem cnt_round (l : List S133) : ∀ (m : List Bool), m.length = 6 → cntB m ≤ cntB (roundX l m) ∧ (roundX l m = m ∨ cntB m < cntB (roundX l m)) := by
 induction l with
 | nil => intro m hm; exact ⟨Nat.le_refl _, .inl rfl⟩
 | cons x l ih =>
  intro m hm
  obtain ⟨h1, h2⟩ := cnt_markX m hm x
  obtain ⟨h3, h4⟩ := ih (markX m x) (by rw [markX_len]; exact hm)
  change cntB m ≤ cntB (roundX l (markX m x)) ∧ (roundX l (markX m x) = m ∨ cntB m < cntB (roundX l (markX m x)))
  refine ⟨by omega, ?_⟩
  rcases h2 with h2 | h2
  ·rw [h2] at h4 ⊢; exact h4
  ·right; omega
theorem cnt_le (m : List Bool) : cntB m ≤ m.length := List.countP_le_length
theorem itX_len (l : List S133) : ∀ (n : Nat) (m : List Bool), (itX l n m).length = m.length := by
 intro n
 induction n with
 | zero => intro m; rfl
 | succ n ih => intro m; change (itX l n (roundX l m)).length = _; rw [ih, roundX_len]
theorem itX_fix (l : List S133) : ∀ (n : Nat) (m : List Bool), roundX l m = m → itX l n m = m := by
 intro n
 induction n with
 | zero => intro m _; rfl
 | succ n ih => intro m h; change itX l n (roundX l m) = m; rw [h]; exact ih m h
theorem itX_closed (l : List S133) : ∀ (n : Nat) (m : List Bool), m.length = 6 → 6 ≤ cntB m + n → roundX l (itX l n m) = itX l n m := by
 intro n
 induction n with
 | zero =>
  intro m hm h
  rcases (cnt_round l m hm).2 with h2 | h2
  ·exact h2
  ·have := cnt_le (roundX l m); rw [roundX_len] at this; omega
 | succ n ih =>
  intro m hm h
  change roundX l (itX l n (roundX l m)) = itX l n (roundX l m)
  rcases (cnt_round l m hm).2 with h2 | h2
  ·rw [h2, itX_fix l n m h2]; exact h2
  ·exact ih _ (by rw [roundX_len]; exact hm) (by omega)
theorem itX_sound (l : List S133) (P : Int → Prop) (hP : ∀ a b, P a → edgeP l a b → P b) : ∀ (n : Nat) (m : List Bool), m.length = 6 → (∀ q, roleB q = true → mkR m q = true → P q) → ∀ q, roleB q = true → mkR (itX l n m) q = true → P q := by
 intro n
 induction n with
 | zero => intro m _ h; exact h
 | succ n ih => intro m hm h; exact ih _ (by rw [roundX_len]; exact hm) (round_sound l P hP l (fun _ h => h) hm h)
theorem itX_mono (l : List S133) : ∀ (n : Nat) (m : List Bool), m.length = 6 → ∀ q, roleB q = true → mkR m q = true → mkR (itX l n m) q = true := by
 intro n
 induction n with
 | zero => intro m _ q _ h; exact h
 | succ n ih => intro m hm q hq h; exact ih _ (by rw [roundX_len]; exact hm) q hq (mk_mono_round l hm hq h)
def closX (l : List S133) (role : Int) : List Bool := itX l 6 ((List.replicate 6 false).set role.toNat true)
theorem mk_start {role : Int} (hr : roleB role = true) (q : Int) (hq : roleB q = true) : mkR ((List.replicate 6 false).set role.toNat true) q = decide (q = role) := by
 rw [mk_set (by simp) hr q hq]
 have : mkR (List.replicate 6 false) q = false := by
  unfold mkR
  rw [List.getD_eq_getElem?_getD, List.getElem?_replicate]
  split <;> rfl
 rw [this, Bool.or_false]
theorem closX_iff (l : List S133) {role : Int} (hr : roleB role = true) {q : Int} (hq : roleB q = true) : mkR (closX l role) q = true ↔ Rch l role q := by
 have hl : ((List.replicate 6 false).set role.toNat true).length = 6 := by simp
 constructor
 ·exact itX_sound l (Rch l role) (fun a b h e => .step h e) 6 _ hl (fun q hq h => by
   rw [mk_start hr q hq, decide_eq_true_eq] at h; subst h; exact .refl) q hq
 ·intro h
  have hc : roundX l (closX l role) = closX l role := itX_closed l 6 _ hl (by omega)
  have h6 : (closX l role).length = 6 := by unfold closX; rw [itX_len]; exact hl
  have key : roleB q = true ∧ mkR (closX l role) q = true := by
   clear hq
   induction h with
   | refl => exact ⟨hr, itX_mono l 6 _ hl _ hr (by rw [mk_start hr _ hr]; simp)⟩
   | step h e ih =>
    have := round_edge l h6 e ih.2
    rw [hc] at this
    obtain ⟨x, _, _, _, _, hb⟩ := e
    exact ⟨hb, this⟩
  exact key.2
theorem visX_len (a : Int) (s : List Bool × List Int) (x : S133) : (visX a s x).1.length = s.1.length := by
 unfold visX; split <;> simp
theorem popX_len (l : List S133) (a : Int) : ∀ s : List Bool × List Int, (popX l a s).1.length = s.1.length := by
 unfold popX
 induction l with
 | nil => intro s; rfl
 | cons x l ih => intro s; rw [List.foldl_cons, ih, visX_len]
theorem cnt_set_lt {m : List Bool} {r : Int} (hm : m.length = 6) (hr : roleB r = true) (h : mkR m r = false) : cntB (m.set r.toNat true) = cntB m + 1 := by
 rw [roleB_iff] at hr
 have hlt : r.toNat < m.length := by omega
 have hb : m[r.toNat] = false := by
  unfold mkR at h; rw [List.getD_eq_getElem?_getD, List.getElem?_eq_getElem hlt] at h; exact h
 have key : ∀ (m : List Bool) (i : Nat), m[i]? = some false → cntB (m.set i true) = cntB m + 1 := by
  intro m
  induction m with
  | nil => intro i h; simp at h
  | cons b m ih =>
   intro i h
   cases i with
   | zero => simp at h; subst h; simp [cntB]
   | succ i =>
    have := ih i (by simpa using h)
    simp only [List.set_cons_succ, cntB, List.countP_cons] at this ⊢
    omega
 exact key m _ (by rw [List.getElem?_eq_getElem hlt, hb])
structure VisOk (l0 : List S133) (a : Int) (s t : List Bool × List Int) : Prop where
 len : t.1.length = 6
 sum : t.2.length + (6 - cntB t.1) = s.2.length + (6 - cntB s.1)
 le : cntB s.1 ≤ cntB t.1
 mono : ∀ q, roleB q = true → mkR s.1 q = true → mkR t.1 q = true
 old : ∀ q, q ∈ s.2 → q ∈ t.2
 new : ∀ q, roleB q = true → mkR t.1 q = true → mkR s.1 q = true ∨ (q ∈ t.2 ∧ edgeP l0 a q)
 newq : ∀ q, q ∈ t.2 → q ∈ s.2 ∨ edgeP l0 a q
theorem VisOk.rfl' {l0 : List S133} {a : Int} {s : List Bool × List Int} (h : s.1.length = 6) : VisOk l0 a s s := ⟨h, rfl, Nat.le_refl _, fun _ _ h => h, fun _ h => h, fun _ _ h => .inl h, fun _ h => .inl h⟩
theorem vis_ok (l0 : List S133) (a : Int) (ha : roleB a = true) (s : List Bool × List Int) (h : s.1.length = 6) (x : S133) (hx : x ∈ l0) : VisOk l0 a s (visX a s x) := by
 unfold visX
 split
 ·rename_i hc
  obtain ⟨h1, h2, h3⟩ := hc
  have e : edgeP l0 a x.f1 := ⟨x, hx, h1, rfl, ha, h2⟩
  have hcn := cnt_set_lt h h2 h3
  have hle := cnt_le (s.1.set x.f1.toNat true)
  rw [List.length_set] at hle
  refine ⟨by simp [h], ?_, by rw [hcn]; omega, fun q hq hm => ?_, fun q hq => List.mem_append_left _ hq, fun q hq hm => ?_, fun q hq => ?_⟩
  ·simp only [List.length_append, List.length_singleton, hcn]; omega
  ·show mkR (s.1.set _ true) q = true
   rw [mk_set h h2 q hq, hm, Bool.or_true]
  ·rw [show (s.1.set x.f1.toNat true, s.2 ++ [x.f1]).1 = s.1.set x.f1.toNat true from rfl, mk_set h h2 q hq, Bool.or_eq_true, decide_eq_true_eq] at hm
   rcases hm with rfl | hm
   ·exact .inr ⟨by simp, e⟩
   ·exact .inl hm
  ·rcases List.mem_append.1 hq with hq | hq
   ·exact .inl hq
   ·rw [List.mem_singleton.1 hq]; exact .inr e
 ·exact VisOk.rfl' h
theorem VisOk.trans {l0 : List S133} {a : Int} {s t u : List Bool × List Int} (h1 : VisOk l0 a s t) (h2 : VisOk l0 a t u) : VisOk l0 a s u :=
 ⟨h2.len, h2.sum.trans h1.sum, Nat.le_trans h1.le h2.le, fun q hq h => h2.mono q hq (h1.mono q hq h), fun q h => h2.old q (h1.old q h),
  fun q hq h => by
   rcases h2.new q hq h with h | h
   ·rcases h1.new q hq h with h | ⟨h, e⟩
    ·exact .inl h
    ·exact .inr ⟨h2.old q h, e⟩
   ·exact .inr h,
  fun q h => by
   rcases h2.newq q h with h | h
   ·exact h1.newq q h
   ·exact .inr h⟩
theorem pop_ok (l0 : List S133) (a : Int) (ha : roleB a = true) (l : List S133) (hl : ∀ x ∈ l, x ∈ l0) : ∀ (s : List Bool × List Int), s.1.length = 6 → VisOk l0 a s (popX l a s) ∧ ∀ x ∈ l, x.f0 = a → roleB x.f1 = true → mkR (popX l a s).1 x.f1 = true := by
 unfold popX
 induction l with
 | nil => intro s h; exact ⟨VisOk.rfl' h, by intro x hx; cases hx⟩
 | cons x l ih =>
  intro s h
  have h1 := vis_ok l0 a ha s h x (hl x List.mem_cons_self)
  obtain ⟨h2, h3⟩ := ih (fun y hy => hl y (List.mem_cons_of_mem _ hy)) (visX a s x) h1.len
  refine ⟨h1.trans h2, fun y hy e1 e2 => ?_⟩
  rw [List.foldl_cons]
  rcases List.mem_cons.1 hy with rfl | hy
  ·refine h2.mono _ e2 ?_
   unfold visX
   split
   ·rw [show (s.1.set y.f1.toNat true, s.2 ++ [y.f1]).1 = s.1.set y.f1.toNat true from rfl, mk_set h e2 _ e2]; simp
   ·rename_i hc
    cases hmk : mkR s.1 y.f1 with
    | true => rfl
    | false => exact absurd ⟨e1, e2, hmk⟩ hc
  ·exact h3 y hy e1 e2
theorem bfsX_nil (l : List S133) (role : Int) (k : Nat) (m : List Bool) (hk : 0 < k) (hm : m.length = 6) (hs : ∀ q, roleB q = true → mkR m q = true → RchP l role q) (hc : ∀ a, (a = role ∨ roleB a = true ∧ mkR m a = true) → a ∈ ([] : List Int) ∨ ∀ b, edgeP l a b → mkR m b = true) :
  ∃ r, bfsX l k [] m = some r ∧ r.length = 6 ∧ ∀ q, roleB q = true → (mkR r q = true ↔ RchP l role q) := by
 obtain ⟨k, rfl⟩ : ∃ j, k = j + 1 := ⟨k - 1, by omega⟩
 refine ⟨m, rfl, hm, fun q hq => ⟨hs q hq, ?_⟩⟩
 rintro ⟨b, e, h⟩
 have h0 : mkR m b = true := (hc role (.inl rfl)).elim (fun h => absurd h (by simp)) (fun h => h b e)
 have key : mkR m q = true := by
  clear hq
  induction h with
  | refl => exact h0
  | step h e2 ih =>
   obtain ⟨x, _, _, _, hb, _⟩ := id e2
   exact (hc _ (.inr ⟨hb, ih⟩)).elim (fun h => absurd h (by simp)) (fun h => h _ e2)
 exact key
theorem bfsX_spec (l : List S133) (role : Int) (hr : roleB role = true) : ∀ (d k : Nat) (todo : List Int) (m : List Bool), m.length = 6 → todo.length + (6 - cntB m) ≤ d → d < k →
  (∀ q ∈ todo, roleB q = true ∧ Rch l role q) → (∀ q, roleB q = true → mkR m q = true → RchP l role q) → (∀ a, (a = role ∨ roleB a = true ∧ mkR m a = true) → a ∈ todo ∨ ∀ b, edgeP l a b → mkR m b = true) →
  ∃ r, bfsX l k todo m = some r ∧ r.length = 6 ∧ ∀ q, roleB q = true → (mkR r q = true ↔ RchP l role q) := by
 intro d
 induction d with
 | zero =>
  intro k todo m hm hd hk ht hs hc
  cases todo with
  | cons a rest => simp at hd
  | nil => exact bfsX_nil l role k m (by omega) hm hs hc
 | succ d ih =>
  intro k todo m hm hd hk ht hs hc
  cases todo with
  | nil => exact bfsX_nil l role k m (by omega) hm hs hc
  | cons a rest =>
   obtain ⟨k, rfl⟩ : ∃ j, k = j + 1 := ⟨k - 1, by omega⟩
   obtain ⟨ha, hra⟩ := ht a List.mem_cons_self
   obtain ⟨ok, hall⟩ := pop_ok l a ha l (fun _ h => h) (m, rest) hm
   refine ih k _ _ ok.len (by have := ok.sum; simp only [List.length_cons] at hd this ⊢; omega) (by omega) (fun q hq => ?_) (fun q hq hmq => ?_) (fun b hb => ?_)
   ·rcases ok.newq q hq with h | h
    ·exact ht q (List.mem_cons_of_mem _ h)
    ·obtain ⟨x, _, _, _, _, hb⟩ := id h
     exact ⟨hb, .step hra h⟩
   ·rcases ok.new q hq hmq with h | ⟨_, h⟩
    ·exact hs q hq h
    ·rcases Rch_iff.1 hra with rfl | h2
     ·exact ⟨q, h, .refl⟩
     ·exact h2.step h
   ·have hmono : ∀ c, mkR m c = true → roleB c = true → mkR (popX l a (m, rest)).1 c = true := fun c h hcr => ok.mono c hcr h
    have edgeR : ∀ {c e : Int}, edgeP l c e → roleB e = true := fun ⟨_, _, _, _, _, h⟩ => h
    by_cases hba : b = a
    ·subst hba
     right
     rintro c ⟨x, hx, e1, e2, _, hcr⟩
     subst e2
     exact hall x hx e1 hcr
    ·have hold : b = role ∨ roleB b = true ∧ mkR m b = true ∨ b ∈ (popX l a (m, rest)).2 := by
      rcases hb with rfl | ⟨h1, h2⟩
      ·exact .inl rfl
      ·rcases ok.new b h1 h2 with h | ⟨h, _⟩
       ·exact .inr (.inl ⟨h1, h⟩)
       ·exact .inr (.inr h)
     rcases hold with h | h | h
     ·rcases hc b (.inl h) with h3 | h3
      ·rcases List.mem_cons.1 h3 with h3 | h3
       ·exact absurd h3 hba
       ·exact .inl (ok.old b h3)
      ·exact .inr fun c e => hmono c (h3 c e) (edgeR e)
     ·rcases hc b (.inr h) with h3 | h3
      ·rcases List.mem_cons.1 h3 with h3 | h3
       ·exact absurd h3 hba
       ·exact .inl (ok.old b h3)
      ·exact .inr fun c e => hmono c (h3 c e) (edgeR e)
     ·exact .inl h
theorem below_spec (l : List S133) (role : Int) (hr : roleB role = true) (k : Nat) (hk : 8 ≤ k) : ∃ r, bfsX l k [role] (List.replicate 6 false) = some r ∧ r.length = 6 ∧ ∀ q, roleB q = true → (mkR r q = true ↔ RchP l role q) := by
 have h0 : ∀ q, mkR (List.replicate 6 false) q = false := by
  intro q
  unfold mkR
  rw [List.getD_eq_getElem?_getD, List.getElem?_replicate]
  split <;> rfl
 refine bfsX_spec l role hr 7 k [role] _ (by simp) (by simp; omega) (by omega) (fun q hq => ?_) (fun q _ h => ?_) (fun a ha => ?_)
 ·rw [List.mem_singleton.1 hq]; exact ⟨hr, .refl⟩
 ·rw [h0] at h; cases h
 ·rcases ha with rfl | ⟨_, h⟩
  ·exact .inl (by simp)
  ·rw [h0] at h; cases h
def hasI (l : List Int) (a : Int) : Bool := l.any (fun x => decide (a = x))
def underB (a b : List Int) : Bool := !(a.any fun x => !hasI b x)
def outV (m : List Bool) : List Int := [0, 1, 2, 3, 4, 5].filter (fun r => mkR m r)
def rolesV (l : List S133) (role : Int) : List Int := if inB role 0 5 = true then outV (closX l role) else []
def pairP (l : List S133) (x : S133) : Bool := roleB x.f0 && (roleB x.f1 && !hasI (rolesV l x.f1) x.f0)
def pairsB (l : List S133) : Bool := l.all (pairP l) && decide ((l.length : Int) ≤ 10)
theorem roleB_in (n : Int) : inB n 0 5 = roleB n := rfl
theorem has_out (m : List Bool) (r : Int) (hr : roleB r = true) : hasI (outV m) r = mkR m r := by
 have h := roleB_iff.1 hr
 unfold hasI outV
 rw [Bool.eq_iff_iff, List.any_eq_true]
 constructor
 ·rintro ⟨x, hx, he⟩
  rw [of_decide_eq_true he]
  exact (List.mem_filter.1 hx).2
 ·intro hm
  exact ⟨r, List.mem_filter.2 ⟨by rcases (by omega : r = 0 ∨ r = 1 ∨ r = 2 ∨ r = 3 ∨ r = 4 ∨ r = 5) with rfl | rfl | rfl | rfl | rfl | rfl <;> simp, hm⟩, decide_eq_true rfl⟩
theorem has_roles (l : List S133) (a b : Int) (ha : roleB a = true) (hb : roleB b = true) : hasI (rolesV l b) a = mkR (closX l b) a := by
 unfold rolesV
 rw [roleB_in, if_pos hb, has_out _ _ ha]
theorem pairs_alike (l : List S133) (p : S133 → Bool) (hp : ∀ x, p x = true ↔ roleB x.f0 = true ∧ roleB x.f1 = true ∧ ¬ RchP l x.f0 x.f0) : l.all p = l.all (pairP l) := by
 have hq : ∀ x, pairP l x = true ↔ roleB x.f0 = true ∧ roleB x.f1 = true ∧ ¬ Rch l x.f1 x.f0 := by
  intro x
  unfold pairP
  simp only [Bool.and_eq_true, Bool.not_eq_true']
  constructor
  ·rintro ⟨h1, h2, h3⟩
   refine ⟨h1, h2, fun h => ?_⟩
   rw [has_roles l _ _ h1 h2, (closX_iff l h2 h1).2 h] at h3
   cases h3
  ·rintro ⟨h1, h2, h3⟩
   refine ⟨h1, h2, ?_⟩
   rw [has_roles l _ _ h1 h2]
   cases hm : mkR (closX l x.f1) x.f0 with
   | false => rfl
   | true => exact absurd ((closX_iff l h2 h1).1 hm) h3
 rw [Bool.eq_iff_iff, List.all_eq_true, List.all_eq_true]
 constructor
 ·intro h x hx
  obtain ⟨h1, h2, h3⟩ := (hp x).1 (h x hx)
  exact (hq x).2 ⟨h1, h2, fun hr => h3 ⟨x.f1, ⟨x, hx, rfl, rfl, h1, h2⟩, hr⟩⟩
 ·intro h x hx
  obtain ⟨h1, h2, _⟩ := (hq x).1 (h x hx)
  refine (hp x).2 ⟨h1, h2, ?_⟩
  rintro ⟨b, ⟨y, hy, e1, rfl, _, _⟩, hr⟩
  have := (hq y).1 (h y hy)
  rw [e1] at this
  exact this.2.2 hr
theorem roles_l2 (m : List Bool) (hm : m.length = 6) : ∀ (d : Nat) (r : Nat) (out : List Int), r + d = 6 → out.length ≤ r → Ev (fun k => spec_RolesUnder.l2 k out m (r : Int)) (out ++ (([0, 1, 2, 3, 4, 5] : List Int).drop r).filter (fun r => mkR m r)) := by
 intro d
 induction d with
 | zero =>
  intro r out hr _
  obtain rfl : r = 6 := by omega
  refine Ev.succ ?_
  simp only [spec_RolesUnder.l2]
  refine Ev.neg (by omega) ?_
  simp only [List.drop_succ_cons, List.drop_nil, List.filter_nil, List.append_nil]
  exact Ev.now _
 | succ d ih =>
  intro r out hr ho
  have hd : (([0, 1, 2, 3, 4, 5] : List Int).drop r) = (r : Int) :: (([0, 1, 2, 3, 4, 5] : List Int).drop (r + 1)) := by
   rcases (by omega : r = 0 ∨ r = 1 ∨ r = 2 ∨ r = 3 ∨ r = 4 ∨ r = 5) with rfl | rfl | rfl | rfl | rfl | rfl <;> rfl
  have e : wrap64 ((r : Int) + 1) = ((r + 1 : Nat) : Int) := wr1 (n := 6) (by omega) (by omega)
  have e2 : rdOf false m (r : Int) = mkR m (r : Int) := rfl
  rw [hd, List.filter_cons]
  refine Ev.succ ?_
  simp only [spec_RolesUnder.l2, e, e2]
  refine Ev.pos (by omega) (Ev.pos (by omega) (Ev.pos (by omega) ?_))
  cases mkR m (r : Int) with
  | false => simp only [Bool.false_eq_true, if_false]; exact ih (r + 1) out (by omega) (by omega)
  | true =>
   simp only [if_true]
   refine Ev.pos (by omega) ?_
   have := ih (r + 1) (out ++ [(r : Int)]) (by omega) (by simp; omega)
   rw [List.append_assoc] at this
   exact this
theorem roles_l0 (l : List S133) (h : l.length ≤ 2097152) : ∀ (d n : Nat) (m : List Bool), n + d = 6 → m.length = 6 → Ev (fun k => spec_RolesUnder.l0 k l [] m (n : Int)) (outV (itX l d m)) := by
 intro d
 induction d with
 | zero =>
  intro n m hn hm
  obtain rfl : n = 6 := by omega
  refine Ev.succ ?_
  simp only [spec_RolesUnder.l0]
  refine Ev.neg (by omega) ?_
  exact roles_l2 m hm 6 0 [] rfl (by simp)
 | succ d ih =>
  intro n m hn hm
  have e : wrap64 ((n : Int) + 1) = ((n + 1 : Nat) : Int) := wr1 (n := 6) (by omega) (by omega)
  refine Ev.succ ?_
  simp only [spec_RolesUnder.l0]
  refine Ev.pos (by omega) ?_
  change Ev _ ((fun s => outV (itX l d s)) (l.foldl markX m))
  refine ev_fold l markX (fun s => outV (itX l d s)) (fun _ s => s.length = 6) (fun k s i => spec_RolesUnder.l1 k l [] s (n : Int) i) ?_ ?_ ?_ m hm
  ·intro s hs
   refine Ev.succ ?_
   simp only [spec_RolesUnder.l1, Int.lt_irrefl, if_false, e]
   exact ih (n + 1) s (by omega) hs
  ·intro i x s _ hs; rw [markX_len]; exact hs
  ·intro i x s r hx hs hr
   have hi := lt_of_get hx
   have h1 : ((i : Int) < (l.length : Int)) = True := eq_true (by omega)
   have h2 : (0 ≤ (i : Int)) = True := eq_true (by omega)
   have e3 := wr1 hi (show l.length ≤ 9223372036854775807 by omega)
   refine Ev.succ ?_
   simp only [spec_RolesUnder.l1, h1, h2, if_true, rd_at_T133 hx, spec_l1In_eq, Option.bind_some, roleB_in, e3]
   unfold markX at hr
   cases h5 : roleB x.f0 with
   | false =>
    simp only [Bool.false_eq_true, if_false]
    simp only [h5, Bool.false_and, Bool.false_eq_true, if_false] at hr
    exact hr
   | true =>
    cases h6 : roleB x.f1 with
    | false =>
     simp only [Bool.false_eq_true, if_false, if_true]
     simp only [h5, h6, Bool.false_and, Bool.and_false, Bool.false_eq_true, if_false] at hr
     exact hr
    | true =>
     have h7 := roleB_iff.1 h5
     simp only [if_true]
     simp only [h5, h6, Bool.true_and] at hr
     refine Ev.pos (by omega) (Ev.pos (by omega) ?_)
     have h8 := roleB_iff.1 h6
     have hk : rdOf false s x.f0 = mkR s x.f0 := rfl
     rw [hk]
     cases h9 : mkR s x.f0 with
     | false => simp only [h9, Bool.false_eq_true, if_false] at hr ⊢; exact hr
     | true =>
      simp only [h9, if_true] at hr ⊢
      exact Ev.pos (by omega) (Ev.pos (by omega) hr)
theorem spec_RolesUnder_ev (l : List S133) (role : Int) (h : l.length ≤ 2097152) : Ev (fun k => spec_RolesUnder.f k l role) (rolesV l role) := by
 unfold spec_RolesUnder.f rolesV
 simp only [Option.bind_some, spec_l1In_eq]
 cases hr : inB role 0 5 with
 | false => simp only [Bool.false_eq_true, if_false]; exact Ev.now _
 | true =>
  have h2 := inB_iff.1 hr
  simp only [if_true]
  refine Ev.pos (by omega) (Ev.pos (by simp only [List.length_replicate]; omega) ?_)
  exact roles_l0 l h 6 0 _ rfl (by simp)
def bestP (a b t g : Int) (x : S100) : Bool := decide (x.f0 = a) && (decide (x.f1 = b) && holdsB x t g)
def bestV (a b t g : Int) : List S100 → Int → Int
 | [], m => m
 | x :: l, m => bestV a b t g l (if bestP a b t g x = true then (if m < x.f2 then x.f2 else m) else m)
def givesP (p t g : Int) (x : S100) : Bool := decide (x.f0 = 1) && (decide (x.f1 = p) && holdsB x t g)
def hasRB (l : List S133) (s : List S100) (p r t g : Int) : Bool := s.any fun x => givesP p t g x && hasI (rolesV l x.f2) r
theorem rolesV_len (l : List S133) (r : Int) : (rolesV l r).length ≤ 6 := by
 unfold rolesV
 split
 ·unfold outV
  exact Nat.le_trans (List.length_filter_le _ _) (by simp)
 ·simp
theorem rolesV_role (l : List S133) (r : Int) : ∀ q ∈ rolesV l r, roleB q = true := by
 intro q hq
 unfold rolesV at hq
 split at hq
 ·unfold outV at hq
  have := (List.mem_filter.1 hq).1
  rw [roleB_iff]
  simp at this
  omega
 ·simp at hq
theorem any_hasI (l : List Int) (r : Int) : hasI l r = true ↔ r ∈ l := by
 unfold hasI
 rw [List.any_eq_true]
 constructor
 ·rintro ⟨x, hx, e⟩; rw [decide_eq_true_eq] at e; rw [e]; exact hx
 ·intro h; exact ⟨r, h, by simp⟩
theorem rolesOf_l2 (m : List Bool) (hm : m.length = 6) : ∀ (d : Nat) (r : Nat) (out : List Int), r + d = 6 → out.length ≤ r → Ev (fun k => spec_RolesOf.l2 k m out (r : Int)) (out ++ (([0, 1, 2, 3, 4, 5] : List Int).drop r).filter (fun r => mkR m r)) := by
 intro d
 induction d with
 | zero =>
  intro r out hr _
  obtain rfl : r = 6 := by omega
  refine Ev.succ ?_
  simp only [spec_RolesOf.l2]
  refine Ev.neg (by omega) ?_
  simp only [List.drop_succ_cons, List.drop_nil, List.filter_nil, List.append_nil]
  exact Ev.now _
 | succ d ih =>
  intro r out hr ho
  have hd : (([0, 1, 2, 3, 4, 5] : List Int).drop r) = (r : Int) :: (([0, 1, 2, 3, 4, 5] : List Int).drop (r + 1)) := by
   rcases (by omega : r = 0 ∨ r = 1 ∨ r = 2 ∨ r = 3 ∨ r = 4 ∨ r = 5) with rfl | rfl | rfl | rfl | rfl | rfl <;> rfl
  have e : wrap64 ((r : Int) + 1) = ((r + 1 : Nat) : Int) := wr1 (n := 6) (by omega) (by omega)
  have e2 : rdOf false m (r : Int) = mkR m (r : Int) := rfl
  rw [hd, List.filter_cons]
  refine Ev.succ ?_
  simp only [spec_RolesOf.l2, e, e2]
  refine Ev.pos (by omega) (Ev.pos (by omega) (Ev.pos (by omega) ?_))
  cases mkR m (r : Int) with
  | false => simp only [Bool.false_eq_true, if_false]; exact ih (r + 1) out (by omega) (by omega)
  | true =>
   simp only [if_true]
   refine Ev.pos (by omega) ?_
   have := ih (r + 1) (out ++ [(r : Int)]) (by omega) (by simp; omega)
   rw [List.append_assoc] at this
   exact this
def setAll (m : List Bool) (u : List Int) : List Bool := u.foldl (fun m r => m.set r.toNat true) m
theorem setAll_len (u : List Int) : ∀ m : List Bool, (setAll m u).length = m.length := by
 induction u with
 | nil => intro m; rfl
 | cons r u ih => intro m; unfold setAll at *; rw [List.foldl_cons, ih, List.length_set]
theorem setAll_mk (u : List Int) : ∀ (m : List Bool), m.length = 6 → (∀ q ∈ u, roleB q = true) → ∀ q, roleB q = true → mkR (setAll m u) q = (mkR m q || hasI u q) := by
 induction u with
 | nil => intro m _ _ q _; simp [setAll, hasI]
 | cons r u ih =>
  intro m hm hu q hq
  have h1 := ih (m.set r.toNat true) (by rw [List.length_set]; exact hm) (fun y hy => hu y (List.mem_cons_of_mem _ hy)) q hq
  unfold setAll at h1 ⊢
  rw [List.foldl_cons, h1, mk_set hm (hu r List.mem_cons_self) q hq]
  unfold hasI
  rw [List.any_cons]
  cases mkR m q <;> cases decide (q = r) <;> simp
def marksV (l : List S133) (p t g : Int) : List S100 → List Bool → List Bool
 | [], m => m
 | x :: s, m => marksV l p t g s (if givesP p t g x = true then setAll m (rolesV l x.f2) else m)
theorem marksV_len (l : List S133) (p t g : Int) : ∀ (s : List S100) (m : List Bool), (marksV l p t g s m).length = m.length
 | [], _ => rfl
 | x :: s, m => by
  rw [marksV, marksV_len l p t g s]
  split
  ·exact setAll_len _ _
  ·rfl
theorem marksV_mk (l : List S133) (p t g : Int) (q : Int) (hq : roleB q = true) : ∀ (s : List S100) (m : List Bool), m.length = 6 → mkR (marksV l p t g s m) q = (mkR m q || hasRB l s p q t g)
 | [], m, _ => by simp [marksV, hasRB]
 | x :: s, m, hm => by
  rw [marksV, marksV_mk l p t g q hq s _ (by split <;> simp [setAll_len, hm])]
  unfold hasRB
  rw [List.any_cons]
  cases givesP p t g x with
  | false => simp
  | true =>
   simp only [if_true, Bool.true_and]
   rw [setAll_mk _ m hm (rolesV_role l x.f2) q hq, Bool.or_assoc]
theorem hasRB_role (l : List S133) (s : List S100) (p r t g : Int) (h : roleB r = false) : hasRB l s p r t g = false := by
 unfold hasRB
 rw [List.any_eq_false]
 intro x _
 have : hasI (rolesV l x.f2) r = false := by
  rw [Bool.eq_false_iff]
  intro hc
  have := rolesV_role l x.f2 r ((any_hasI _ _).1 hc)
  rw [h] at this; cases this
 simp [this]
theorem spec_RolesOf_ev (l : List S133) (s : List S100) (p t g : Int) (hl : l.length ≤ 2097152) (h : s.length ≤ 2097152) : ∃ v, Ev (fun k => spec_RolesOf.f k l s p t g) v ∧ v.length ≤ 6 ∧ ∀ r, hasI v r = hasRB l s p r t g := by
 have under : ∀ (u : List Int) (hu : ∀ q ∈ u, roleB q = true) (hn : u.length ≤ 6) (i : Nat) (r : List Int) (d j : Nat) (m : List Bool), m.length = 6 → u.length - j = d → j ≤ u.length → Ev (fun k => spec_RolesOf.l0 k l s p t g (setAll m (u.drop j)) (wrap64 ((i : Int) + 1))) r → Ev (fun k => spec_RolesOf.l1 k l s p t g m (i : Int) u (j : Int)) r := by
  intro u hu hn i r d
  induction d with
  | zero =>
   intro j m hm hd hj hr
   obtain rfl : j = u.length := by omega
   rw [List.drop_length] at hr
   refine Ev.succ ?_
   simp only [spec_RolesOf.l1, Int.lt_irrefl, if_false]
   exact hr
  | succ d ih =>
   intro j m hm hd hj hr
   have hj' : j < u.length := by omega
   obtain ⟨y, hy⟩ := getAt (l := u) (i := j) hj'
   have hb := roleB_iff.1 (hu y (List.mem_of_getElem? hy))
   have ry := rd_nat _ _ _ hy
   have hd2 : u.drop j = y :: u.drop (j + 1) := by
    rw [List.drop_eq_getElem_cons hj']
    rw [List.getElem?_eq_getElem hj'] at hy
    rw [Option.some.inj hy]
   have hr2 := ih (j + 1) (m.set y.toNat true) (by rw [List.length_set]; exact hm) (by omega) (by omega) (by rw [hd2] at hr; exact hr)
   have k1 : ((j : Int) < (u.length : Int)) = True := eq_true (by omega)
   have k2 : (0 ≤ (j : Int)) = True := eq_true (by omega)
   have k3 : (0 ≤ y) = True := eq_true (by omega)
   have k4 : (y < (m.length : Int)) = True := eq_true (by omega)
   have w := wr1 hj' (show u.length ≤ 9223372036854775807 by omega)
   refine Ev.succ ?_
   simp only [spec_RolesOf.l1, k1, k2, k3, k4, if_true, ry, w]
   exact hr2
 have key : ∀ (d i : Nat) (m : List Bool), m.length = 6 → s.length - i = d → i ≤ s.length → Ev (fun k => spec_RolesOf.l0 k l s p t g m (i : Int)) (outV (marksV l p t g (s.drop i) m)) := by
  intro d
  induction d with
  | zero =>
   intro i m hm hd hi
   obtain rfl : i = s.length := by omega
   refine Ev.succ ?_
   simp only [spec_RolesOf.l0, Int.lt_irrefl, if_false, List.drop_length, marksV]
   exact rolesOf_l2 m hm 6 0 [] rfl (by simp)
  | succ d ih =>
   intro i m hm hd hi
   have hi' : i < s.length := by omega
   have hx : s[i]? = some s[i] := List.getElem?_eq_getElem hi'
   rw [List.drop_eq_getElem_cons hi', marksV]
   generalize s[i] = x at hx ⊢
   have h1 : ((i : Int) < (s.length : Int)) = True := eq_true (by omega)
   have h2 : (0 ≤ (i : Int)) = True := eq_true (by omega)
   have hl6 := rolesV_len l x.f2
   have hno := ih (i + 1) m hm (by omega) (by omega)
   have hyes := ih (i + 1) (setAll m (rolesV l x.f2)) (by rw [setAll_len]; exact hm) (by omega) (by omega)
   have h3 := wr1 hi' (show s.length ≤ 9223372036854775807 by omega)
   have jno : givesP p t g x = false → Ev (fun k => spec_RolesOf.l0 k l s p t g m ((i + 1 : Nat) : Int)) (outV (marksV l p t g (s.drop (i + 1)) (if givesP p t g x = true then setAll m (rolesV l x.f2) else m))) := by
    intro e
    simp only [e, Bool.false_eq_true, if_false]
    exact hno
   refine Ev.succ ?_
   simp only [spec_RolesOf.l0, h1, h2, if_true, rd_at_T100 hx, spec_HoldsAt_eq, Option.bind_some, h3]
   by_cases c0 : x.f0 = 1
   ·by_cases c1 : x.f1 = p
    ·cases c2 : holdsB x t g with
     | false => simp only [if_pos c0, if_pos c1, Bool.false_eq_true, if_false]; exact jno (by simp [givesP, c2])
     | true =>
      have e : givesP p t g x = true := by simp [givesP, c0, c1, c2]
      simp only [if_pos c0, if_pos c1, if_true, e]
      refine Ev.bind (spec_RolesUnder_ev l x.f2 hl) ?_
      exact under _ (rolesV_role l x.f2) hl6 i _ _ 0 m hm rfl (by omega) (by rw [List.drop_zero, h3]; exact hyes)
    ·simp only [if_pos c0, if_neg c1]; exact jno (by simp [givesP, c1])
   ·simp only [if_neg c0]; exact jno (by simp [givesP, c0])
 have hk := key s.length 0 (List.replicate 6 false) (by simp) (by omega) (by omega)
 rw [List.drop_zero] at hk
 have hml : (marksV l p t g s (List.replicate 6 false)).length = 6 := by rw [marksV_len]; simp
 refine ⟨outV (marksV l p t g s (List.replicate 6 false)), ?_, ?_, fun r => ?_⟩
 ·unfold spec_RolesOf.f
  exact hk
 ·exact Nat.le_trans (List.length_filter_le _ _) (by simp)
 ·cases c : roleB r with
  | true =>
   rw [has_out _ r c, marksV_mk l p t g r c s _ (by simp)]
   have : mkR (List.replicate 6 false) r = false := by
    have := roleB_iff.1 c
    rcases (by omega : r = 0 ∨ r = 1 ∨ r = 2 ∨ r = 3 ∨ r = 4 ∨ r = 5) with rfl | rfl | rfl | rfl | rfl | rfl <;> rfl
   rw [this, Bool.false_or]
  | false =>
   rw [hasRB_role l s p r t g c, Bool.eq_false_iff]
   intro hc
   have h1 := (any_hasI _ _).1 hc
   unfold outV at h1
   have h2 := (List.mem_filter.1 h1).1
   rw [Bool.eq_false_iff] at c
   apply c
   rw [roleB_iff]
   simp at h2
   omega
theorem spec_l13Has_ev (l : List Int) (a : Int) (h : l.length ≤ 2097152) : Ev (fun k => spec_l13Has.f k l a) (hasI l a) := by
 unfold spec_l13Has.f hasI
 rw [← idxV_any]
 refine ev_idx l (fun x => decide (a = x)) (fun r => decide (r ≥ 0)) (fun k i => spec_l13Has.l0 k l a i) ?_ ?_
 ·refine Ev.succ ?_
  simp only [spec_l13Has.l0, Int.lt_irrefl, if_false]
  exact Ev.now _
 ·intro i x hx
  have hi := lt_of_get hx
  have h1 : ((i : Int) < (l.length : Int)) = True := eq_true (by omega)
  have h2 : (0 ≤ (i : Int)) = True := eq_true (by omega)
  constructor
  ·intro c r hr
   have c' : ¬ x = a := fun e => of_decide_eq_false c e.symm
   refine Ev.succ ?_
   simp only [spec_l13Has.l0, h1, h2, if_true, rd_nat l i x hx, wr1 hi (by omega), if_neg c']
   exact hr
  ·intro c
   have c' : x = a := (of_decide_eq_true c).symm
   refine Ev.succ ?_
   simp only [spec_l13Has.l0, h1, h2, if_true, rd_nat l i x hx, if_pos c', show decide ((i : Int) ≥ 0) = true from decide_eq_true (by omega)]
   exact Ev.now _
theorem spec_HasRole_ev (l : List S133) (s : List S100) (p r t g : Int) (hl : l.length ≤ 2097152) (h : s.length ≤ 2097152) : Ev (fun k => spec_HasRole.f k l s p r t g) (hasRB l s p r t g) := by
 obtain ⟨v, hE, hv, hh⟩ := spec_RolesOf_ev l s p t g hl h
 unfold spec_HasRole.f
 refine Ev.bind hE ?_
 rw [← hh r]
 exact Ev.bid (spec_l13Has_ev v r (by omega))
def findP (a b c t g : Int) (x : S100) : Bool := decide (x.f0 = a) && (decide (x.f1 = b) && (decide (x.f2 = c) && holdsB x t g))
theorem spec_FindFact_ev (l : List S100) (a b c t g : Int) (h : l.length ≤ 2097152) : Ev (fun k => spec_FindFact.f k l a b c t g) (idxV (findP a b c t g) l 0) := by
 unfold spec_FindFact.f
 refine ev_idx l (findP a b c t g) id (fun k i => spec_FindFact.l0 k l a b c t g i) ?_ ?_
 ·refine Ev.succ ?_
  simp only [spec_FindFact.l0, Int.lt_irrefl, if_false]
  exact Ev.now _
 ·intro i x hx
  have hi := lt_of_get hx
  have h1 : ((i : Int) < (l.length : Int)) = True := eq_true (by omega)
  have h2 : (0 ≤ (i : Int)) = True := eq_true (by omega)
  have h3 := wr1 hi (show l.length ≤ 9223372036854775807 by omega)
  refine ⟨fun hp r hr => ?_, fun hp => ?_⟩
  ·refine Ev.succ ?_
   simp only [spec_FindFact.l0, h1, h2, if_true, rd_at_T100 hx, h3, spec_HoldsAt_eq, Option.bind_some]
   unfold findP at hp
   by_cases c0 : x.f0 = a
   ·by_cases c1 : x.f1 = b
    ·by_cases c2 : x.f2 = c
     ·have hq : holdsB x t g = false := by simpa [c0, c1, c2] using hp
      simp only [if_pos c0, if_pos c1, if_pos c2, hq, Bool.false_eq_true, if_false]; exact hr
     ·simp only [if_pos c0, if_pos c1, if_neg c2]; exact hr
    ·simp only [if_pos c0, if_neg c1]; exact hr
   ·simp only [if_neg c0]; exact hr
  ·refine Ev.succ ?_
   simp only [findP, Bool.and_eq_true, decide_eq_true_eq] at hp
   simp only [spec_FindFact.l0, h1, h2, if_true, rd_at_T100 hx, spec_HoldsAt_eq, Option.bind_some, if_pos hp.1, if_pos hp.2.1, if_pos hp.2.2.1, hp.2.2.2]
   exact Ev.now _
theorem spec_Max_eq (a b : Int) : spec_Max.f a b = some (if b > a then b else a) := by
 unfold spec_Max.f; split <;> rfl
theorem spec_BestValue_ev (l : List S100) (a b t g : Int) (h : l.length ≤ 2097152) : Ev (fun k => spec_BestValue.f k l a b t g) (bestV a b t g l (-1)) := by
 have key : ∀ (d i : Nat) (m : Int), l.length - i = d → i ≤ l.length → Ev (fun k => spec_BestValue.l0 k l a b t g m (i : Int)) (bestV a b t g (l.drop i) m) := by
  intro d
  induction d with
  | zero =>
   intro i m hd hi
   obtain rfl : i = l.length := by omega
   refine Ev.succ ?_
   simp only [spec_BestValue.l0, Int.lt_irrefl, if_false, List.drop_length, bestV]
   exact Ev.now _
  | succ d ih =>
   intro i m hd hi
   have hi' : i < l.length := by omega
   have hx : l[i]? = some l[i] := List.getElem?_eq_getElem hi'
   rw [List.drop_eq_getElem_cons hi', bestV]
   generalize l[i] = x at hx ⊢
   have h1 : ((i : Int) < (l.length : Int)) = True := eq_true (by omega)
   have h2 : (0 ≤ (i : Int)) = True := eq_true (by omega)
   have hr := fun m => ih (i + 1) m (by omega) (by omega)
   have h3 := wr1 hi' (show l.length ≤ 9223372036854775807 by omega)
   refine Ev.succ ?_
   simp only [spec_BestValue.l0, h1, h2, if_true, rd_at_T100 hx, h3, spec_HoldsAt_eq, spec_Max_eq, Option.bind_some]
   by_cases c0 : x.f0 = a
   ·by_cases c1 : x.f1 = b
    ·cases c2 : holdsB x t g with
     | false =>
      have e : bestP a b t g x = false := by simp [bestP, c2]
      simp only [if_pos c0, if_pos c1, e, Bool.false_eq_true, if_false]; exact hr m
     | true =>
      have e : bestP a b t g x = true := by simp [bestP, c0, c1, c2]
      simp only [if_pos c0, if_pos c1, e, if_true]; exact hr _
    ·have e : bestP a b t g x = false := by simp [bestP, c1]
     simp only [if_pos c0, if_neg c1, e, Bool.false_eq_true, if_false]; exact hr m
   ·have e : bestP a b t g x = false := by simp [bestP, c0]
    simp only [if_neg c0, e, Bool.false_eq_true, if_false]; exact hr m
 unfold spec_BestValue.f
 exact Ev.eqv (by rw [List.drop_zero]) (key l.length 0 (-1) (by omega) (by omega))
def leafB (l : List S133) (s : List S100) (q : S54) (o a g : Int) : Bool := if o = 1 then true else if o = 2 then hasRB l s q.f0 a q.f5 g else if o = 3 then decide (idxV (findP 2 q.f0 q.f1 q.f5 g) s 0 ≥ 0) else if o = 4 then decide (bestV 3 q.f1 q.f5 g s (-1) ≥ a) else if o = 5 then decide (bestV 4 q.f2 q.f5 g s (-1) ≥ a) else if o = 6 then decide (q.f5 ≤ a) else false
theorem idxV_ge {α : Type} (p : α → Bool) : ∀ (l : List α) (i : Int), 0 ≤ i → (idxV p l i = -1 ∨ 0 ≤ idxV p l i)
 | [], _, _ => .inl rfl
 | x :: xs, i, h => by
  rw [idxV]
  split
  ·exact .inr h
  ·exact idxV_ge p xs (i + 1) (by omega)
theorem idxV_ne {α : Type} (p : α → Bool) (l : List α) : (!decide (idxV p l 0 = -1)) = decide (idxV p l 0 ≥ 0) := by
 rcases idxV_ge p l 0 (by omega) with h | h
 ·rw [h]; rfl
 ·rw [decide_eq_true h]; simp; omega
theorem spec_LeafHolds_ev (l : List S133) (s : List S100) (q : S54) (o a g : Int) (u : List S129) (hl : l.length ≤ 2097152) (h : s.length ≤ 2097152) : Ev (fun k => spec_LeafHolds.f k l s o a g u q.f0 q.f1 q.f2 q.f3 q.f4 q.f5) (leafB l s q o a g) := by
 unfold spec_LeafHolds.f leafB
 by_cases c1 : o = 1
 ·simp only [if_pos c1]; exact Ev.now _
 by_cases c2 : o = 2
 ·simp only [if_neg c1, if_pos c2]; exact Ev.bid (spec_HasRole_ev l s q.f0 a q.f5 g hl h)
 by_cases c3 : o = 3
 ·simp only [if_neg c1, if_neg c2, if_pos c3]
  ·refine Ev.bind (spec_FindFact_ev s 2 q.f0 q.f1 q.f5 g h) ?_
   exact Ev.now _
 by_cases c4 : o = 4
 ·simp only [if_neg c1, if_neg c2, if_neg c3, if_pos c4]
  exact Ev.bind (spec_BestValue_ev s 3 q.f1 q.f5 g h) (Ev.now _)
 by_cases c5 : o = 5
 ·simp only [if_neg c1, if_neg c2, if_neg c3, if_neg c4, if_pos c5]
  exact Ev.bind (spec_BestValue_ev s 4 q.f2 q.f5 g h) (Ev.now _)
 by_cases c6 : o = 6
 ·simp only [if_neg c1, if_neg c2, if_neg c3, if_neg c4, if_neg c5, if_pos c6]; exact Ev.now _
 ·simp only [if_neg c1, if_neg c2, if_neg c3, if_neg c4, if_neg c5, if_neg c6]; exact Ev.now _
mutual
def evC (lf : Int → Int → Int → Bool) : S129 → Bool
 | ⟨a, b, c, l⟩ => if a = 7 then !(evL lf l).getD 0 false else if a = 8 then (evL lf l).getD 0 false && (evL lf l).getD 1 false else if a = 9 then (evL lf l).getD 0 false || (evL lf l).getD 1 false else lf a b c
def evL (lf : Int → Int → Int → Bool) : List S129 → List Bool
 | [] => []
 | x :: l => evC lf x :: evL lf l
end
theorem evL_eq (lf : Int → Int → Int → Bool) : ∀ l : List S129, evL lf l = l.map (evC lf)
 | [] => by simp [evL]
 | x :: l => by simp [evL, evL_eq lf l]
theorem evC_f (lf : Int → Int → Int → Bool) (x : S129) : evC lf x = if x.f0 = 7 then !(x.f3.map (evC lf)).getD 0 false else if x.f0 = 8 then (x.f3.map (evC lf)).getD 0 false && (x.f3.map (evC lf)).getD 1 false else if x.f0 = 9 then (x.f3.map (evC lf)).getD 0 false || (x.f3.map (evC lf)).getD 1 false else lf x.f0 x.f1 x.f2 := by
 cases x
 simp only [evC, evL_eq]
theorem node_args {a b c : Int} {l : List S129} (h : spec_l15Node.f a b c l = some true) : (a = 7 → (l.length : Int) = 1) ∧ (a = 8 ∨ a = 9 → (l.length : Int) = 2) := by
 have ha : ∀ m, spec_ArityOf.f a = some m → (l.length : Int) = m := by
  intro m hm
  refine Classical.byContradiction fun hc => ?_
  revert h
  unfold spec_l15Node.f
  simp only [spec_l1In_eq, spec_IsTime_eq, hm, Option.bind_some, if_neg hc]
  (repeat' split) <;> simp_all
 refine ⟨?_, ?_⟩
 ·rintro rfl; exact ha 1 rfl
 ·rintro (rfl | rfl)
  ·exact ha 2 rfl
  ·exact ha 2 rfl
theorem getD_map {f : S129 → Bool} {l : List S129} {i : Nat} {y : S129} (h : l[i]? = some y) : (l.map f).getD i false = f y := by
 rw [List.getD_eq_getElem?_getD, List.getElem?_map, h]; rfl
theorem vld_parts {x : S129} (hv : vldC x = true) : (x.f0 = 7 ∨ x.f0 = 8 ∨ x.f0 = 9 → ∃ y, x.f3[0]? = some y ∧ rd_T129 x.f3 0 = y ∧ (0 < (x.f3.length : Int)) = True ∧ vldC y = true ∧ n129 y < n129 x) ∧ (x.f0 = 8 ∨ x.f0 = 9 → ∃ y, x.f3[1]? = some y ∧ rd_T129 x.f3 1 = y ∧ (1 < (x.f3.length : Int)) = True ∧ vldC y = true ∧ n129 y < n129 x) := by
 rw [vldC_f, Bool.and_eq_true] at hv
 obtain ⟨t, ht⟩ := node_some x.f0 x.f1 x.f2 x.f3
 rw [ht, Option.getD_some] at hv
 obtain ⟨rfl, hc⟩ := hv
 have hargs := node_args ht
 have child : ∀ (i : Nat) (y : S129), x.f3[i]? = some y → vldC y = true ∧ n129 y < n129 x := fun i y hy => by
  have hn := le_sum n129 hy
  have hp := lt_of_get hy
  exact ⟨List.all_eq_true.1 hc y (List.mem_of_getElem? hy), by rw [n129_f x]; omega⟩
 constructor
 ·intro h
  have : 1 ≤ x.f3.length := by
   rcases h with h | h | h
   ·have := hargs.1 h; omega
   ·have := hargs.2 (.inl h); omega
   ·have := hargs.2 (.inr h); omega
  obtain ⟨y, hy⟩ := getAt (l := x.f3) (i := 0) (by omega)
  exact ⟨y, hy, rd_at_T129 hy, eq_true (by omega), child 0 y hy⟩
 ·intro h
  have := hargs.2 h
  obtain ⟨y, hy⟩ := getAt (l := x.f3) (i := 1) (by omega)
  exact ⟨y, hy, rd_at_T129 hy, eq_true (by omega), child 1 y hy⟩
def evalB (l : List S133) (s : List S100) (q : S54) (x : S129) : Bool := condB x && evC (leafB l s q) x
theorem spec_l18Eval_ev (l : List S133) (s : List S100) (q : S54) (hl : l.length ≤ 2097152) (hs : s.length ≤ 2097152) (N : Nat) : ∀ x : S129, n129 x ≤ N → vldC x = true → Ev (fun k => spec_l18Eval.f k l s x.f0 x.f1 x.f2 x.f3 q.f0 q.f1 q.f2 q.f3 q.f4 q.f5) (evC (leafB l s q) x) := by
 induction N using Nat.strongRecOn with
 | _ N ih =>
 intro x hx hv
 obtain ⟨two, three⟩ := vld_parts hv
 rw [evC_f]
 refine Ev.succ ?_
 by_cases c7 : x.f0 = 7
 ·obtain ⟨y, hy, ry, p0, hvy, hn⟩ := two (.inl c7)
  simp only [spec_l18Eval.f, if_pos c7, p0, if_true, ry]
  refine Ev.bind (ih _ (by omega) y (Nat.le_refl _) hvy) ?_
  rw [getD_map hy]
  exact Ev.now _
 by_cases c8 : x.f0 = 8
 ·obtain ⟨y, hy, ry, p0, hvy, hn⟩ := two (.inr (.inl c8))
  obtain ⟨z, hz, rz, p1, hvz, hn2⟩ := three (.inl c8)
  simp only [spec_l18Eval.f, if_neg c7, if_pos c8, p0, p1, if_true, ry, rz]
  rw [getD_map hy, getD_map hz]
  refine Ev.bind (ih _ (by omega) y (Nat.le_refl _) hvy) ?_
  cases evC (leafB l s q) y with
  | false => exact Ev.now _
  | true => simp only [if_true, Bool.true_and]; exact Ev.bid (ih _ (by omega) z (Nat.le_refl _) hvz)
 by_cases c9 : x.f0 = 9
 ·obtain ⟨y, hy, ry, p0, hvy, hn⟩ := two (.inr (.inr c9))
  obtain ⟨z, hz, rz, p1, hvz, hn2⟩ := three (.inr c9)
  simp only [spec_l18Eval.f, if_neg c7, if_neg c8, if_pos c9, p0, p1, if_true, ry, rz]
  rw [getD_map hy, getD_map hz]
  refine Ev.bind (ih _ (by omega) y (Nat.le_refl _) hvy) ?_
  cases evC (leafB l s q) y with
  | true => exact Ev.now _
  | false => simp only [Bool.false_eq_true, if_false, Bool.false_or]; exact Ev.bid (ih _ (by omega) z (Nat.le_refl _) hvz)
 simp only [spec_l18Eval.f, if_neg c7, if_neg c8, if_neg c9]
 exact Ev.bid ((spec_LeafHolds_ev l s q x.f0 x.f1 x.f2 x.f3 hl hs))
theorem spec_EvalCond_ev (l : List S133) (s : List S100) (q : S54) (x : S129) (hl : l.length ≤ 2097152) (hs : s.length ≤ 2097152) (hx : n129 x ≤ 2097152) : Ev (fun k => spec_EvalCond.f k l s x.f0 x.f1 x.f2 x.f3 q.f0 q.f1 q.f2 q.f3 q.f4 q.f5) (evalB l s q x) := by
 unfold spec_EvalCond.f evalB
 refine Ev.bind (spec_IsCond_ev x hx) ?_
 cases c : condB x with
 | false => exact Ev.now _
 | true =>
  have hv : vldC x = true := by
   unfold condB at c
   rw [Bool.and_eq_true] at c
   exact c.2
  exact Ev.pos rfl (Ev.bid (spec_l18Eval_ev l s q hl hs _ x (Nat.le_refl _) hv))
def polB (v : Int) (P : List S131) : Bool := policyB ⟨v, P⟩
def nPol (P : List S131) : Nat := P.length + (P.map n131).sum
def thatV (p : S131 → Bool) : List S131 → Int → List Int
 | [], _ => []
 | x :: P, i => if p x = true then i :: thatV p P (i + 1) else thatV p P (i + 1)
theorem thatV_len (p : S131 → Bool) : ∀ (P : List S131) (i : Int), (thatV p P i).length ≤ P.length
 | [], _ => by simp [thatV]
 | x :: P, i => by
  have := thatV_len p P (i + 1)
  rw [thatV, List.length_cons]
  split
  ·rw [List.length_cons]; omega
  ·omega
theorem thatV_in (p : S131 → Bool) : ∀ (P : List S131) (i : Int), ∀ y ∈ thatV p P i, i ≤ y ∧ y < i + (P.length : Int)
 | [], _ => by simp [thatV]
 | x :: P, i => by
  have ih := thatV_in p P (i + 1)
  intro y hy
  rw [List.length_cons]
  rw [thatV] at hy
  split at hy
  ·rcases List.mem_cons.1 hy with rfl | hy
   ·omega
   ·have := ih y hy; omega
  ·have := ih y hy; omega
def rhoB (l : List S133) (s : List S100) (q : S54) (x : S131) : Bool := forB x q.f3 q.f4 && evalB l s q x.f3
def decE : List Int → Int → Int
 | [], a => a
 | e :: r, a => if e = 0 then 0 else if e = 1 then decE r 1 else decE r a
def decV (l : List S133) (s : List S100) (v : Int) (P : List S131) (q : S54) : Int := if reqB q.f0 q.f1 q.f2 q.f3 q.f4 q.f5 = true then if polB v P = true then decE ((thatV (rhoB l s q) P 0).map fun i => (rd_T131 P i).f0) 0 else 0 else 0
theorem decE_all : ∀ (es : List Int) (a : Int), (∀ e ∈ es, e = 0 ∨ e = 1) → decE es a = if es.any (fun e => decide (e = 0)) = true then 0 else if es.length = 0 then a else 1
 | [], a, _ => by simp [decE]
 | e :: r, a, h => by
  have hr := fun b => decE_all r b (fun x hx => h x (List.mem_cons_of_mem _ hx))
  rcases h e List.mem_cons_self with rfl | rfl
  ·simp [decE]
  ·have e1 : decE (1 :: r) a = decE r 1 := by simp [decE]
   rw [e1, hr, List.any_cons]
   by_cases hz : r.any (fun e => decide (e = 0)) = true
   ·simp [hz]
   ·simp [hz]
theorem spec_RulesThatHold_ev (l : List S133) (s : List S100) (q : S54) (n0 : Int) (P : List S131) (hl : l.length ≤ 2097152) (hs : s.length ≤ 2097152) (hP : nPol P ≤ 2097152) : Ev (fun k => spec_RulesThatHold.f k l s n0 P q.f0 q.f1 q.f2 q.f3 q.f4 q.f5) (thatV (rhoB l s q) P 0) := by
 unfold nPol at hP
 have key : ∀ (d i : Nat) (out : List Int), P.length - i = d → i ≤ P.length → out.length ≤ i → Ev (fun k => spec_RulesThatHold.l0 k l s n0 P q.f0 q.f1 q.f2 q.f3 q.f4 q.f5 out (i : Int)) (out ++ thatV (rhoB l s q) (P.drop i) (i : Int)) := by
  intro d
  induction d with
  | zero =>
   intro i out hd hi ho
   obtain rfl : i = P.length := by omega
   refine Ev.succ ?_
   simp only [spec_RulesThatHold.l0, Int.lt_irrefl, if_false, List.drop_length, thatV, List.append_nil]
   exact Ev.now _
  | succ d ih =>
   intro i out hd hi ho
   have hi' : i < P.length := by omega
   have hx : P[i]? = some P[i] := List.getElem?_eq_getElem hi'
   rw [List.drop_eq_getElem_cons hi', thatV]
   generalize P[i] = x at hx ⊢
   have hn := le_sum n131 hx
   have hn2 := rule_n x
   have h1 : ((i : Int) < (P.length : Int)) = True := eq_true (by omega)
   have h2 : (0 ≤ (i : Int)) = True := eq_true (by omega)
   have e1 := spec_EvalCond_ev l s q x.f3 hl hs (by omega)
   have v1 := ih (i + 1) out (by omega) (by omega) (by omega)
   have v2 := ih (i + 1) (out ++ [(i : Int)]) (by omega) (by omega) (by rw [List.length_append, List.length_singleton]; omega)
   have hol : (out.length < 17592186044416) = True := eq_true (by omega)
   have h3 := wr1 hi' (show P.length ≤ 9223372036854775807 by omega)
   have h4 : (i : Int) + 1 = ((i + 1 : Nat) : Int) := by omega
   rw [h4, show rhoB l s q x = (forB x q.f3 q.f4 && evalB l s q x.f3) from rfl]
   refine Ev.succ ?_
   simp only [spec_RulesThatHold.l0, h1, h2, if_true, rd_at_T131 hx, spec_IsFor_eq, Option.bind_some, h3]
   cases c : forB x q.f3 q.f4 with
   | false =>
    simp only [Bool.false_eq_true, if_false, Bool.false_and]
    exact v1
   | true =>
    simp only [if_true, Bool.true_and]
    refine Ev.bind e1 ?_
    cases evalB l s q x.f3 with
    | true =>
     simp only [if_true, hol]
     exact Ev.eqv (by rw [List.append_assoc]; rfl) v2
    | false => simp only [Bool.false_eq_true, if_false]; exact v1
 unfold spec_RulesThatHold.f
 exact Ev.eqv (by rw [List.drop_zero, List.nil_append]; rfl) (key P.length 0 [] (by omega) (by omega) (by simp))
theorem spec_DecideBy_ev (l : List S133) (s : List S100) (v : Int) (P : List S131) (q : S54) (hl : l.length ≤ 2097152) (hs : s.length ≤ 2097152) (hp : nPol P ≤ 2097152) : Ev (fun k => spec_DecideBy.f k l s v P q.f0 q.f1 q.f2 q.f3 q.f4 q.f5) (decV l s v P q) := by
 unfold spec_DecideBy.f decV
 simp only [spec_IsRequest_eq, Option.bind_some]
 cases c : reqB q.f0 q.f1 q.f2 q.f3 q.f4 q.f5 with
 | false => simp only [Bool.false_eq_true, if_false]; exact Ev.now _
 | true =>
  simp only [if_true]
  refine Ev.bind (spec_IsPolicy_ev ⟨v, P⟩ (by unfold n41; unfold nPol at hp; exact hp)) ?_
  unfold polB
  cases c2 : policyB ⟨v, P⟩ with
  | false => simp only [Bool.false_eq_true, if_false]; exact Ev.now _
  | true =>
   simp only [if_true]
   have hr : P.all ruleB = true := by
    have h := c2
    unfold policyB at h
    rw [Bool.and_eq_true, Bool.and_eq_true] at h
    exact h.2.2
   have hlen : P.length ≤ 2097152 := by unfold nPol at hp; omega
   have hL := thatV_len (rhoB l s q) P 0
   have hy := thatV_in (rhoB l s q) P 0
   refine Ev.bind (spec_RulesThatHold_ev l s q v P hl hs hp) ?_
   generalize thatV (rhoB l s q) P 0 = L at hL hy ⊢
   have eff : ∀ y ∈ L, (rd_T131 P y).f0 = 0 ∨ (rd_T131 P y).f0 = 1 := by
    intro y hm
    have hb := hy y hm
    obtain ⟨x, hx⟩ := getAt (l := P) (i := y.toNat) (by omega)
    have rx := rd_at_T131 hx
    rw [show ((y.toNat : Nat) : Int) = y by omega] at rx
    have hrx := List.all_eq_true.1 hr x (List.mem_of_getElem? hx)
    unfold ruleB at hrx
    rw [Bool.and_eq_true] at hrx
    have h0 := inB_iff.1 hrx.1
    rw [rx]; omega
   rw [decE_all _ 0 (fun e he => by
    obtain ⟨y, hm, rfl⟩ := List.mem_map.1 he
    exact eff y hm)]
   rw [List.any_map, List.length_map]
   have key : ∀ (d i : Nat), L.length - i = d → i ≤ L.length → Ev (fun k => spec_DecideBy.l0 k v P L (i : Int)) (if (L.drop i).any ((fun e => decide (e = 0)) ∘ fun i => (rd_T131 P i).f0) = true then 0 else if L.length = 0 then 0 else 1) := by
    intro d
    induction d with
    | zero =>
     intro i hd hi
     obtain rfl : i = L.length := by omega
     refine Ev.succ ?_
     simp only [spec_DecideBy.l0, Int.lt_irrefl, if_false, List.drop_length, List.any_nil, Bool.false_eq_true]
     by_cases c3 : L.length = 0
     ·simp only [if_pos c3, if_pos (show (L.length : Int) = 0 by omega)]; exact Ev.now _
     ·simp only [if_neg c3, if_neg (show ¬ (L.length : Int) = 0 by omega)]; exact Ev.now _
    | succ d ih =>
     intro i hd hi
     have hi' : i < L.length := by omega
     have hx : L[i]? = some L[i] := List.getElem?_eq_getElem hi'
     have hb := hy _ (List.getElem_mem hi')
     rw [List.drop_eq_getElem_cons hi', List.any_cons]
     generalize L[i] = y at hx hb ⊢
     have h1 : ((i : Int) < (L.length : Int)) = True := eq_true (by omega)
     have h2 : (0 ≤ (i : Int)) = True := eq_true (by omega)
     have h3 : (0 ≤ y) = True := eq_true (by omega)
     have h4 : (y < (P.length : Int)) = True := eq_true (by omega)
     have h5 := wr1 hi' (show L.length ≤ 9223372036854775807 by omega)
     refine Ev.succ ?_
     simp only [spec_DecideBy.l0, h1, h2, h3, h4, if_true, rd_nat _ _ _ hx, h5, Function.comp]
     by_cases c0 : (rd_T131 P y).f0 = 0
     ·simp only [if_pos c0, c0, decide_true, Bool.true_or, if_true]; exact Ev.now _
     ·simp only [if_neg c0, decide_eq_false c0, Bool.false_or]
      exact ih (i + 1) (by omega) (by omega)
   exact Ev.eqv (by rw [List.drop_zero]) (key L.length 0 (by omega) (by omega))
def atT (q : S54) (t : Int) : S54 := ⟨q.f0, q.f1, q.f2, q.f3, q.f4, t⟩
def staysB (p : S48) (y : S70) : Nat → Int → Bool
 | 0, _ => true
 | n + 1, t => decide (decV p.f1.f2 p.f2 p.f1.f3.f0 p.f1.f3.f1 (atT y.f0 t) = y.f1) && staysB p y n (t + 1)
def trueB (p : S48) (y : S70) : Bool := reqB y.f0.f0 y.f0.f1 y.f0.f2 y.f0.f3 y.f0.f4 y.f0.f5 && (!decide (y.f0.f5 < p.f4) && (inB y.f2 y.f0.f5 (y.f0.f5 + 10) && staysB p y (y.f2 + 1 - y.f0.f5).toNat y.f0.f5))
def untilL (l : List S133) (s : List S100) (v : Int) (P : List S131) (q : S54) (e : Int) : Nat → Int → Int
 | 0, t => t
 | n + 1, t => if t < e ∧ t < 10000 then (if decV l s v P (atT q (t + 1)) = decV l s v P q then untilL l s v P q e n (t + 1) else t) else t
def untilV (l : List S133) (s : List S100) (v : Int) (P : List S131) (q : S54) (m : Int) : Int := if reqB q.f0 q.f1 q.f2 q.f3 q.f4 q.f5 = true then if policyB ⟨v, P⟩ = true then if inB m 0 60 = true then untilL l s v P q (q.f5 + m) 60 q.f5 else q.f5 else q.f5 else q.f5
def saveV (l : List S133) (s : List S100) (v : Int) (P : List S131) (q : S54) (m : Int) : S70 := ⟨q, decV l s v P q, untilV l s v P q m⟩
theorem spec_DecisionUntil_ev (l : List S133) (s : List S100) (v : Int) (P : List S131) (q : S54) (most : Int) (hl : l.length ≤ 2097152) (hs : s.length ≤ 2097152) (hp : nPol P ≤ 2097152) : Ev (fun k => spec_DecisionUntil.f k l s v P q.f0 q.f1 q.f2 q.f3 q.f4 q.f5 most) (untilV l s v P q most) := by
 unfold spec_DecisionUntil.f untilV
 simp only [spec_IsRequest_eq, Option.bind_some]
 cases c : reqB q.f0 q.f1 q.f2 q.f3 q.f4 q.f5 with
 | false => simp only [Bool.false_eq_true, if_false]; exact Ev.now _
 | true =>
  have ht : 0 ≤ q.f5 ∧ q.f5 ≤ 10000 := by
   unfold reqB at c
   simp only [Bool.and_eq_true] at c
   exact timeAt c.2.2.2.2.2
  simp only [if_true]
  refine Ev.bind (spec_IsPolicy_ev ⟨v, P⟩ (by unfold n41; unfold nPol at hp; exact hp)) ?_
  cases c2 : policyB ⟨v, P⟩ with
  | false => simp only [Bool.false_eq_true, if_false]; exact Ev.now _
  | true =>
   simp only [if_true, spec_l1In_eq, Option.bind_some]
   cases c3 : inB most 0 60 with
   | false => simp only [Bool.false_eq_true, if_false]; exact Ev.now _
   | true =>
    have hm := inB_iff.1 c3
    have hw : wrap64 (q.f5 + most) = q.f5 + most := wr (by omega) (by omega)
    simp only [if_true]
    refine Ev.bind (spec_DecideBy_ev l s v P q hl hs hp) ?_
    have key : ∀ (n : Nat) (t : Int), q.f5 + most - t ≤ (n : Int) → 0 ≤ t → t ≤ 10000 → Ev (fun k => spec_DecisionUntil.l0 k l s most v P q.f0 q.f1 q.f2 q.f3 q.f4 q.f5 (decV l s v P q) t) (untilL l s v P q (q.f5 + most) n t) := by
     intro n
     induction n with
     | zero =>
      intro t hd h0 h1
      refine Ev.succ ?_
      simp only [spec_DecisionUntil.l0, hw, untilL]
      exact Ev.ite (fun _ => Ev.neg (by omega) (Ev.now _)) (fun _ => Ev.now _)
     | succ n ih =>
      intro t hd h0 h1
      refine Ev.succ ?_
      unfold untilL
      by_cases c4 : t < q.f5 + most ∧ t < 10000
      ·have hw2 : wrap64 (t + 1) = t + 1 := wr (by omega) (by omega)
       rw [if_pos c4]
       simp only [spec_DecisionUntil.l0, hw, spec_AtTime.f, Option.bind_some, hw2]
       refine Ev.pos (by omega) (Ev.pos (by omega) ?_)
       refine Ev.bind (spec_DecideBy_ev l s v P (atT q (t + 1)) hl hs hp) ?_
       by_cases c5 : decV l s v P (atT q (t + 1)) = decV l s v P q
       ·rw [if_pos c5]; exact Ev.pos c5 (ih (t + 1) (by omega) (by omega) (by omega))
       ·rw [if_neg c5]; exact Ev.neg c5 (Ev.now _)
      ·rw [if_neg c4]
       simp only [spec_DecisionUntil.l0, hw]
       exact Ev.ite (fun _ => Ev.neg (by omega) (Ev.now _)) (fun _ => Ev.now _)
    exact key 60 q.f5 (by omega) ht.1 ht.2
theorem spec_SaveDecision_ev (l : List S133) (s : List S100) (v : Int) (P : List S131) (q : S54) (most : Int) (hl : l.length ≤ 2097152) (hs : s.length ≤ 2097152) (hp : nPol P ≤ 2097152) : Ev (fun k => spec_SaveDecision.f k l s v P q.f0 q.f1 q.f2 q.f3 q.f4 q.f5 most) (q.f0, q.f1, q.f2, q.f3, q.f4, q.f5, (saveV l s v P q most).f1, (saveV l s v P q most).f2) := by
 unfold spec_SaveDecision.f
 exact Ev.bind (spec_DecideBy_ev l s v P q hl hs hp) (Ev.bind (spec_DecisionUntil_ev l s v P q most hl hs hp) (Ev.now _))
def putStep (x : S70) (s : List S70) (y : S70) : List S70 := if sameQ y.f0 x.f0 = true then s else s ++ [y]
def putEnd (x : S70) (s : List S70) : List S70 := if ((s ++ [x]).length : Int) > 8 then (s ++ [x]).drop 1 else s ++ [x]
def putV (l : List S70) (x : S70) : List S70 := putEnd x (l.foldl (putStep x) [])
theorem putStep_length (x : S70) (s : List S70) (y : S70) : (putStep x s y).length ≤ s.length + 1 := by
 unfold putStep
 split
 ·omega
 ·rw [List.length_append, List.length_singleton]; exact Nat.le_refl _
theorem putV_from (x : S70) : ∀ (l s : List S70), (l.foldl (putStep x) s).length ≤ s.length + l.length
 | [], s => by simp
 | y :: l, s => by
  have h1 := putV_from x l (putStep x s y)
  have h2 := putStep_length x s y
  simp only [List.foldl_cons, List.length_cons]
  omega
theorem putV_length (l : List S70) (x : S70) : (putV l x).length ≤ l.length ∨ (putV l x).length ≤ 8 := by
 have := putV_from x l []
 rw [List.length_nil] at this
 unfold putV putEnd
 split
 ·left; simp only [List.length_drop, List.length_append, List.length_singleton]; omega
 ·right; rename_i c; omega
theorem putV_len8 (l : List S70) (x : S70) (h : l.length ≤ 8) : (putV l x).length ≤ 8 := by
 rcases putV_length l x with q | q <;> omega
theorem putV_last (l : List S70) (x : S70) : ∃ s, putV l x = s ++ [x] := by
 unfold putV putEnd
 generalize l.foldl (putStep x) [] = s
 split
 ·rename_i c
  cases s with
  | nil => simp at c
  | cons y s => exact ⟨s, rfl⟩
 ·exact ⟨s, rfl⟩
theorem spec_PutSaved_ev (l : List S70) (x : S70) (h : l.length ≤ 2097152) : Ev (fun k => spec_PutSaved.f k l x.f0.f0 x.f0.f1 x.f0.f2 x.f0.f3 x.f0.f4 x.f0.f5 x.f1 x.f2) (putV l x) := by
 unfold spec_PutSaved.f putV
 refine ev_fold l (putStep x) (putEnd x) (fun i s => s.length ≤ i) (fun k s i => spec_PutSaved.l0 k l x.f0.f0 x.f0.f1 x.f0.f2 x.f0.f3 x.f0.f4 x.f0.f5 x.f1 x.f2 s i) ?_ ?_ ?_ [] (by simp)
 ·intro s hs
  have h3 : (s.length < 2199023255552) = True := eq_true (by have : s.length ≤ l.length := hs; omega)
  refine Ev.succ ?_
  have e : ∀ (y : S70), (⟨⟨y.f0.f0, y.f0.f1, y.f0.f2, y.f0.f3, y.f0.f4, y.f0.f5⟩, y.f1, y.f2⟩ : S70) = y := fun _ => rfl
  simp only [spec_PutSaved.l0, Int.lt_irrefl, if_false, h3, if_true, Option.bind_some, putEnd, e]
  by_cases c : ((s ++ [x]).length : Int) > 8
  ·have c1 : 1 ≤ ((s ++ [x]).length : Int) := by omega
   simp only [if_pos c, if_pos c1]
   exact Ev.now _
  ·simp only [if_neg c]
   exact Ev.now _
 ·intro i y s hx hs
  have := putStep_length x s y
  show (putStep x s y).length ≤ i + 1
  omega
 ·intro i y s r hx hs hr
  have hi := lt_of_get hx
  have hs' : s.length ≤ i := hs
  have h1 : ((i : Int) < (l.length : Int)) = True := eq_true (by omega)
  have h2 : (0 ≤ (i : Int)) = True := eq_true (by omega)
  have h3 : (s.length < 2199023255552) = True := eq_true (by omega)
  refine Ev.succ ?_
  simp only [spec_PutSaved.l0, h1, h2, h3, if_true, rd_at_T70 hx, wr1 hi (by omega), spec_SameQuestion_eq y.f0 x.f0, Option.bind_some]
  unfold putStep at hr
  by_cases c : sameQ y.f0 x.f0 = true
  ·simp only [if_pos c] at hr ⊢; exact hr
  ·simp only [if_neg c] at hr ⊢; exact hr
def askG (s : Int) (x : S52) (q : S54) : Bool := reqB q.f0 q.f1 q.f2 q.f3 q.f4 q.f5 && (chkB s x q.f5 && decide (x.f1 = q.f1))
def ptSave (p : S48) (q : S54) : S70 := saveV p.f1.f2 p.f2 p.f1.f3.f0 p.f1.f3.f1 q 10
def askV (p : S48) (s : Int) (x : S52) (q : S54) : S48 × Int :=
 if askG s x q = true then if freshV p.f4 q.f5 10 = true then if inB (revAt p.f3 x.f0) 0 q.f5 = true then (p, 3) else if idxV (savedP q) p.f5 0 ≥ 0 then (p, (rd_T70 p.f5 (idxV (savedP q) p.f5 0)).f1) else (⟨p.f0, p.f1, p.f2, p.f3, p.f4, putV p.f5 (ptSave p q)⟩, (ptSave p q).f1) else (p, 2) else (p, 4)
theorem askV_n (p : S48) (s : Int) (x : S52) (q : S54) : n48 (askV p s x q).1 ≤ n48 p + 8 := by
 unfold askV
 have h := putV_length p.f5 (ptSave p q)
 repeat' split
 all_goals first
  | exact Nat.le_add_right _ _
  | (unfold n48; simp only []; omega)
theorem ptN {p : S48} (h : n48 p ≤ 2097152) : n43 p.f1 ≤ 2097152 ∧ p.f1.f2.length ≤ 2097152 ∧ nPol p.f1.f3.f1 ≤ 2097152 ∧ p.f2.length ≤ 2097152 ∧ p.f3.length ≤ 2097152 ∧ p.f5.length ≤ 2097152 := by
 unfold n48 at h
 refine ⟨by omega, ?_, ?_, by omega, by omega, by omega⟩
 ·unfold n43 at h; omega
 ·unfold n43 n41 at h; unfold nPol; omega
theorem spec_AskPoint_ev (p : S48) (s : Int) (x : S52) (q : S54) (h : n48 p ≤ 2097152) : Ev (fun k => spec_AskPoint.f k p.f0 p.f1.f0 p.f1.f1 p.f1.f2 p.f1.f3.f0 p.f1.f3.f1 p.f2 p.f3 p.f4 p.f5 s x.f0 x.f1 x.f2 x.f3 x.f4 x.f5 q.f0 q.f1 q.f2 q.f3 q.f4 q.f5) ((askV p s x q).1.f0, (askV p s x q).1.f1.f0, (askV p s x q).1.f1.f1, (askV p s x q).1.f1.f2, (askV p s x q).1.f1.f3.f0, (askV p s x q).1.f1.f3.f1, (askV p s x q).1.f2, (askV p s x q).1.f3, (askV p s x q).1.f4, (askV p s x q).1.f5, (askV p s x q).2) := by
 obtain ⟨h1, hl, hp, h2, h3, h5⟩ := ptN h
 unfold spec_AskPoint.f askV askG
 refine Ev.bind (spec_l27Copy_ev p h) ?_
 simp only [spec_IsRequest_eq, Option.bind_some]
 by_cases c1 : reqB q.f0 q.f1 q.f2 q.f3 q.f4 q.f5 = true
 ·simp only [if_pos c1, c1, Bool.true_and]
  refine Ev.bind (spec_CheckCert_ev s x q.f5) ?_
  by_cases c2 : chkB s x q.f5 = true
  ·simp only [if_pos c2, c2, Bool.true_and, decide_eq_true_eq]
   by_cases c3 : x.f1 = q.f1
   ·simp only [if_pos c3, spec_IsCurrent_eq, Option.bind_some]
    by_cases c4 : freshV p.f4 q.f5 10 = true
    ·simp only [if_pos c4]
     refine Ev.bind (spec_IsRevoked_ev p.f3 x.f0 q.f5 h3) ?_
     by_cases c5 : inB (revAt p.f3 x.f0) 0 q.f5 = true
     ·simp only [if_pos c5]; exact Ev.now _
     ·simp only [if_neg c5]
      refine Ev.bind (spec_FindSaved_ev p.f5 q h5) ?_
      by_cases c6 : idxV (savedP q) p.f5 0 ≥ 0
      ·simp only [if_pos c6]
       have := (idxV_in _ p.f5 (show ¬ idxV (savedP q) p.f5 0 < 0 by omega)).2
       exact Ev.pos (by omega) (Ev.now _)
      ·simp only [if_neg c6]
       refine Ev.bind (spec_SaveDecision_ev p.f1.f2 p.f2 p.f1.f3.f0 p.f1.f3.f1 q 10 hl h2 hp) ?_
       exact Ev.bind (spec_PutSaved_ev p.f5 (ptSave p q) h5) (Ev.now _)
    ·simp only [if_neg c4]; exact Ev.now _
   ·simp only [if_neg c3]; exact Ev.now _
  ·simp only [if_neg c2, eq_false_of_ne_true c2, Bool.false_and, Bool.false_eq_true, if_false]; exact Ev.now _
 ·simp only [if_neg c1, eq_false_of_ne_true c1, Bool.false_and, Bool.false_eq_true, if_false]; exact Ev.now _
theorem copyI_evN (N : Nat) : ∀ x : S129, n129 x ≤ N → N ≤ 2097152 → Ev (fun k => impl_copyCond.f k x.f0 x.f1 x.f2 x.f3) (x.f0, x.f1, x.f2, x.f3) := by
 induction N using Nat.strongRecOn with
 | _ N ih =>
 intro x h hN
 rw [n129_f] at h
 refine Ev.succ ?_
 simp only [impl_copyCond.f]
 have key : ∀ (d i : Nat), x.f3.length - i = d → i ≤ x.f3.length → Ev (fun k => impl_copyCond.l0 k 0 0 0 [] x.f0 x.f1 x.f2 (x.f3.take i) x.f3 (x.f3.length : Int) (i : Int)) (x.f0, x.f1, x.f2, x.f3) := by
  intro d
  induction d with
  | zero =>
   intro i hd hi
   obtain rfl : i = x.f3.length := by omega
   refine Ev.succ ?_
   simp only [impl_copyCond.l0, Int.lt_irrefl, if_false, List.take_length]
   exact Ev.now _
  | succ d ihd =>
   intro i hd hi
   have hi' : i < x.f3.length := by omega
   obtain ⟨y, hy⟩ := getAt (l := x.f3) (i := i) hi'
   have hn := le_sum n129 hy
   have h1 : ((i : Int) < (x.f3.length : Int)) = True := eq_true (by omega)
   have h2 : (0 ≤ (i : Int)) = True := eq_true (by omega)
   have h3 : ((x.f3.take i).length < 2932031007402) = True := eq_true (by rw [List.length_take]; omega)
   have e := ih (n129 y) (by omega) y (Nat.le_refl _) (by omega)
   have e3 : x.f3.take i ++ [y] = x.f3.take (i + 1) := by rw [List.take_add_one, hy]; rfl
   refine Ev.succ ?_
   simp only [impl_copyCond.l0, h1, h2, if_true, rd_at_T129 hy, wr1 hi' (by omega)]
   refine Ev.bind e ?_
   simp only [h3, if_true, eta129, e3]
   exact ihd (i + 1) (by omega) (by omega)
 exact key x.f3.length 0 (by omega) (by omega)
theorem impl_copyCond_ev (x : S129) (h : n129 x ≤ 2097152) : Ev (fun k => impl_copyCond.f k x.f0 x.f1 x.f2 x.f3) (x.f0, x.f1, x.f2, x.f3) := copyI_evN _ x (Nat.le_refl _) h
theorem impl_copyRules_ev (l : List S131) (h : l.length ≤ 2097152) (hn : ∀ x ∈ l, n129 x.f3 ≤ 2097152) : Ev (fun k => impl_copyRules.f k l) l := by
 unfold impl_copyRules.f
 have key : ∀ (d i : Nat), l.length - i = d → i ≤ l.length → Ev (fun k => impl_copyRules.l0 k (l.take i) l (l.length : Int) (i : Int)) l := by
  intro d
  induction d with
  | zero =>
   intro i hd hi
   obtain rfl : i = l.length := by omega
   refine Ev.succ ?_
   simp only [impl_copyRules.l0, Int.lt_irrefl, if_false, List.take_length]
   exact Ev.now _
  | succ d ihd =>
   intro i hd hi
   have hi' : i < l.length := by omega
   obtain ⟨y, hy⟩ := getAt (l := l) (i := i) hi'
   have h1 : ((i : Int) < (l.length : Int)) = True := eq_true (by omega)
   have h2 : (0 ≤ (i : Int)) = True := eq_true (by omega)
   have h3 : ((l.take i).length < 1954687338268) = True := eq_true (by rw [List.length_take]; omega)
   have e3 : l.take i ++ [y] = l.take (i + 1) := by rw [List.take_add_one, hy]; rfl
   refine Ev.succ ?_
   simp only [impl_copyRules.l0, h1, h2, if_true, rd_at_T131 hy, wr1 hi' (by omega)]
   refine Ev.bind (impl_copyCond_ev y.f3 (hn y (List.mem_of_getElem? hy))) ?_
   simp only [h3, if_true, eta129, e3]
   exact ihd (i + 1) (by omega) (by omega)
 exact key l.length 0 (by omega) (by omega)
theorem impl_copyPolicy_ev (v : Int) (l : List S131) (h : l.length ≤ 2097152) (hn : ∀ x ∈ l, n129 x.f3 ≤ 2097152) : Ev (fun k => impl_copyPolicy.f k v l) (v, l) := by
 unfold impl_copyPolicy.f
 exact Ev.bind (impl_copyRules_ev l h hn) (Ev.now _)
theorem impl_copyEpoch_ev (x : S43) (h : n43 x ≤ 2097152) : Ev (fun k => impl_copyEpoch.f k x.f0 x.f1 x.f2 x.f3.f0 x.f3.f1) (x.f0, x.f1, x.f2, x.f3.f0, x.f3.f1) := by
 obtain ⟨h1, h2, h3⟩ := epN h
 unfold impl_copyEpoch.f
 refine Ev.pos (by omega) ?_
 exact Ev.bind (impl_copyPolicy_ev x.f3.f0 x.f3.f1 h2 h3) (Ev.now _)
theorem impl_copyFacts_eq (l : List S100) (h : l.length ≤ 2097152) : impl_copyFacts.f l = some l := by
 unfold impl_copyFacts.f
 rw [if_pos (by omega)]; rfl
theorem impl_copyPoint_ev (p : S48) (h : n48 p ≤ 2097152) : Ev (fun k => impl_copyPoint.f k p.f0 p.f1.f0 p.f1.f1 p.f1.f2 p.f1.f3.f0 p.f1.f3.f1 p.f2 p.f3 p.f4 p.f5) (p.f0, p.f1.f0, p.f1.f1, p.f1.f2, p.f1.f3.f0, p.f1.f3.f1, p.f2, p.f3, p.f4, p.f5) := by
 have h' := h
 unfold n48 at h'
 have h1 : n43 p.f1 ≤ 2097152 := by omega
 have h2 : p.f2.length ≤ 2097152 := by omega
 unfold impl_copyPoint.f
 refine Ev.bind (impl_copyEpoch_ev p.f1 h1) ?_
 simp only [impl_copyFacts_eq p.f2 h2, Option.bind_some, List.nil_append]
 exact Ev.pos (by omega) (Ev.pos (by omega) (Ev.now _))
theorem impl_IsName_eq (a : Int) : impl_IsName.f a = some (nameB a) := by
 unfold impl_IsName.f
 rw [impl_InRange_eq]; rfl
theorem impl_KindOf_eq (a : Int) : impl_KindOf.f a = some (if nameB a = true then a / 10 else 0) := by
 unfold impl_KindOf.f
 rw [impl_IsName_eq, Option.bind_some]
 cases h : nameB a with
 | true => simp only [if_true, name_div h]
 | false => rfl
theorem impl_HasKind_eq (a b : Int) : impl_HasKind.f a b = some (kindB a b) := by
 unfold impl_HasKind.f kindB
 rw [impl_IsName_eq, impl_KindOf_eq, Option.bind_some]
 cases h : nameB a with
 | true => simp only [if_true, Option.bind_some, Bool.true_and]; rfl
 | false => rfl
theorem impl_IsTime_eq (a : Int) : impl_IsTime.f a = some (timeB a) := by
 unfold impl_IsTime.f
 rw [impl_InRange_eq]; rfl
theorem impl_IsRequest_eq (a b c d e t : Int) : impl_IsRequest.f a b c d e t = some (reqB a b c d e t) := by
 unfold impl_IsRequest.f reqB
 simp only [impl_HasKind_eq, impl_IsTime_eq, impl_InRange_eq, Option.bind_some]
 cases kindB a 1 <;> cases kindB b 2 <;> cases kindB c 3 <;> cases kindB e 4 <;> cases inB d 0 5 <;> simp
theorem impl_IsValidKey_eq (a : Int) : impl_IsValidKey.f a = some (keyB a) := by
 unfold impl_IsValidKey.f; rw [impl_InRange_eq]; rfl
theorem impl_IsCert_eq (a b c d e g : Int) : impl_IsCert.f a b c d e g = some (certB a b c d e) := by
 have key : timeB d = true → timeB e = true → wrap64 (e - d) = e - d := by
  intro hd he
  unfold timeB at hd he
  rw [inB_iff] at hd he
  exact wr (by omega) (by omega)
 unfold impl_IsCert.f certB
 simp only [impl_InRange_eq, impl_IsName_eq, impl_IsValidKey_eq, impl_IsTime_eq, Option.bind_some]
 cases inB a 1 9999 with
 | false => rfl
 | true => cases nameB b with
  | false => rfl
  | true => cases keyB c with
   | false => rfl
   | true => cases hd : timeB d with
    | false => rfl
    | true => cases he : timeB e with
     | false => rfl
     | true => simp only [if_true, Bool.true_and, key hd he]
def withB (a b c : Int) : Bool := timeB a && (timeB b && (timeB c && inB c a b))
theorem impl_IsWithin_eq (a b c : Int) : impl_IsWithin.f a b c = some (withB a b c) := by
 unfold impl_IsWithin.f withB
 simp only [impl_IsTime_eq, impl_InRange_eq, Option.bind_some]
 cases timeB a <;> cases timeB b <;> cases timeB c <;> rfl
theorem slices_Grow_int_int_eq (l : List Int) (n : Int) (h0 : 0 < n) (h1 : n < 2199023255552) : slices_Grow_int_int.f l n = some [] := by
 unfold slices_Grow_int_int.f
 rw [if_pos h0, if_pos h1]
theorem slices_Concat130_ev (ll : List (List Int)) (h0 : 0 < ll.flatten.length) (h1 : ll.flatten.length ≤ 2097152) (hl : ll.length ≤ 2097152) : Ev (fun k => slices_Concat130.f k ll) ll.flatten := by
 have hrd : ∀ {i : Nat} {x : List Int}, ll[i]? = some x → ll.getD (i : Int).toNat [] = x := fun hx => getD_nat ll [] _ _ hx
 unfold slices_Concat130.f
 have hsum : ∀ (l : List (List Int)) (s : Int), l.foldl (fun s x => s + (x.length : Int)) s = s + (l.flatten.length : Int) := by
  intro l
  induction l with
  | nil => intro s; simp
  | cons x l ih => intro s; rw [List.foldl_cons, ih]; simp only [List.flatten_cons, List.length_append]; omega
 have hin : ∀ (i : Nat) x, ll[i]? = some x → (ll.take (i + 1)).flatten.length = (ll.take i).flatten.length + x.length := by
  intro i x hx
  rw [List.take_add_one, hx, List.flatten_append, List.length_append]
  simp
 have hle : ∀ i : Nat, (ll.take i).flatten.length ≤ ll.flatten.length := by
  intro i
  conv => rhs; rw [← List.take_append_drop i ll]
  rw [List.flatten_append, List.length_append]; omega
 refine Ev.eqv (a := (fun s : Int => if 0 < s ∧ s < 2199023255552 then ll.flatten else []) (ll.foldl (fun s x => s + (x.length : Int)) 0)) (by simp only [hsum]; rw [if_pos (by omega)]) ?_
 refine ev_fold ll (fun (s : Int) x => s + (x.length : Int)) (fun s : Int => if 0 < s ∧ s < 2199023255552 then ll.flatten else []) (fun i s => s = ((ll.take i).flatten.length : Int)) (fun k s i => slices_Concat130.l0 k ll s ll (ll.length : Int) i) ?_ ?_ ?_ 0 (by simp)
 ·intro s hs
  rw [List.take_length] at hs
  refine Ev.succ ?_
  simp only [slices_Concat130.l0, Int.lt_irrefl, if_false]
  rw [slices_Grow_int_int_eq [] s (by omega) (by omega), if_pos (by omega)]
  simp only [Option.bind_some]
  refine Ev.eqv (a := (fun o : List Int => o) (ll.foldl (fun o x => o ++ x) [])) ?_ ?_
  ·have : ∀ (l : List (List Int)) (o : List Int), l.foldl (fun o x => o ++ x) o = o ++ l.flatten := by
    intro l
    induction l with
    | nil => intro o; simp
    | cons x l ih => intro o; rw [List.foldl_cons, ih]; simp
   rw [this]; rfl
  ·refine ev_fold ll (fun (o : List Int) x => o ++ x) (fun o => o) (fun i o => o.length = (ll.take i).flatten.length) (fun k o i => slices_Concat130.l1 k o ll (ll.length : Int) i) ?_ ?_ ?_ [] (by simp)
   ·intro o _
    refine Ev.succ ?_
    simp only [slices_Concat130.l1, Int.lt_irrefl, if_false]
    exact Ev.now _
   ·intro i x o hx ho
    rw [List.length_append, ho, hin i x hx]
   ·intro i x o r hx ho hr
    have hi := lt_of_get hx
    have h1' : ((i : Int) < (ll.length : Int)) = True := eq_true (by omega)
    have h2' : (0 ≤ (i : Int)) = True := eq_true (by omega)
    have e1 := hin i x hx
    have e2 := hle (i + 1)
    have e3 : rdOf ([] : List Int) ll (i : Int) = x := getD_nat ll [] i x hx
    refine Ev.succ ?_
    simp only [slices_Concat130.l1, h1', h2', if_true, e3, wr1 hi (by omega)]
    exact Ev.pos (by omega) hr
 ·intro i x s hx hs
  rw [hs, hin i x hx]; omega
 ·intro i x s r hx hs hr
  have hi := lt_of_get hx
  have h1' : ((i : Int) < (ll.length : Int)) = True := eq_true (by omega)
  have h2' : (0 ≤ (i : Int)) = True := eq_true (by omega)
  have e1 := hin i x hx
  have e2 := hle (i + 1)
  have e3 : rdOf ([] : List Int) ll (i : Int) = x := getD_nat ll [] i x hx
  have e4 : wrap64 (s + (x.length : Int)) = s + (x.length : Int) := wr (by omega) (by omega)
  refine Ev.succ ?_
  simp only [slices_Concat130.l0, h1', h2', if_true, e3, e4, wr1 hi (by omega)]
  exact Ev.neg (by omega) hr
theorem impl_Mod_eq (a : Int) : impl_Mod.f a 2147483647 = some (mdV a) := by
 unfold impl_Mod.f; rw [impl_InRange_eq]; rfl
theorem impl_Hash_ev (l : List Int) (h : l.length ≤ 2097152) : Ev (fun k => impl_Hash.f k l) (hashV l) := by
 unfold impl_Hash.f hashV
 refine ev_fold l hsX (fun s => s) (fun _ _ => True) (fun k s i => impl_Hash.l0 k s l (l.length : Int) i) ?_ (fun _ _ _ _ _ => trivial) ?_ 11 trivial
 ·intro s _
  refine Ev.succ ?_
  simp only [impl_Hash.l0, Int.lt_irrefl, if_false]
  exact Ev.now _
 ·intro i x s r hx _ hr
  have hi := lt_of_get hx
  have h1 : ((i : Int) < (l.length : Int)) = True := eq_true (by omega)
  have h2 : (0 ≤ (i : Int)) = True := eq_true (by omega)
  refine Ev.succ ?_
  simp only [impl_Hash.l0, h1, h2, if_true, rd_nat l i x hx, impl_Mod_eq, Option.bind_some, wr1 hi (by omega)]
  exact hr
theorem impl_KeyedHash_ev (a : Int) (l : List Int) (h : l.length ≤ 1000) : Ev (fun k => impl_KeyedHash.f k a l) (khV a l) := by
 unfold impl_KeyedHash.f khV
 have e : ([[a], l, [a]] : List (List Int)).flatten = [a] ++ l ++ [a] := by simp
 refine Ev.bind (slices_Concat130_ev _ (by rw [e]; simp) (by rw [e]; simp only [List.length_append, List.length_singleton]; omega) (by simp)) ?_
 rw [e]
 exact Ev.bind (impl_Hash_ev _ (by simp only [List.length_append, List.length_singleton]; omega)) (Ev.now _)
theorem impl_MarkCert_ev (s a b c d e g : Int) : Ev (fun k => impl_MarkCert.f k s a b c d e g) (a, b, c, d, e, khV s [a, b, c, d, e]) := by
 unfold impl_MarkCert.f
 exact Ev.bind (impl_KeyedHash_ev s [a, b, c, d, e] (by simp)) (Ev.now _)
theorem impl_CheckCert_ev (s : Int) (x : S52) (t : Int) : Ev (fun k => impl_CheckCert.f k s x.f0 x.f1 x.f2 x.f3 x.f4 x.f5 t) (chkB s x t) := by
 unfold impl_CheckCert.f chkB
 simp only [impl_IsCert_eq, Option.bind_some]
 refine Ev.bifT fun _ => ?_
 simp only [impl_IsWithin_eq, Option.bind_some]
 refine Ev.bifT fun _ => ?_
 exact Ev.bind (impl_MarkCert_ev s x.f0 x.f1 x.f2 x.f3 x.f4 x.f5) (Ev.eqv (by simp) (Ev.now _))
theorem impl_AgeOf_eq (a b : Int) : impl_AgeOf.f a b = some (ageV a b) := by
 unfold impl_AgeOf.f ageV
 simp only [impl_IsTime_eq, Option.bind_some]
 by_cases c1 : timeB a = true
 ·by_cases c2 : timeB b = true
  ·have h1 := timeAt c1
   have h2 := timeAt c2
   by_cases c3 : a > b
   ·simp only [if_pos c1, if_pos c2, if_pos c3, if_neg (show ¬ (timeB a = true ∧ timeB b = true ∧ a ≤ b) from fun h => by omega)]
   ·simp only [if_pos c1, if_pos c2, if_neg c3, if_pos (show timeB a = true ∧ timeB b = true ∧ a ≤ b from ⟨c1, c2, by omega⟩), wr (x := b - a) (by omega) (by omega)]
  ·simp only [if_pos c1, if_neg c2, if_neg (show ¬ (timeB a = true ∧ timeB b = true ∧ a ≤ b) from fun h => c2 h.2.1)]
 ·simp only [if_neg c1, if_neg (show ¬ (timeB a = true ∧ timeB b = true ∧ a ≤ b) from fun h => c1 h.1)]
theorem impl_IsFresh_eq (a b m : Int) : impl_IsFresh.f a b m = some (freshV a b m) := by
 unfold impl_IsFresh.f freshV
 simp only [impl_AgeOf_eq, Option.bind_some]
 split <;> rfl
theorem impl_IsCurrent_eq (a0 a1 a2 l3 a4 l5 l6 l7 a8 l9 n) : impl_IsCurrent.f a0 a1 a2 l3 a4 l5 l6 l7 a8 l9 n = some (freshV a8 n 10) := by
 unfold impl_IsCurrent.f
 simp only [impl_IsFresh_eq, Option.bind_some]
theorem impl_RevokedAt_ev (l : List S104) (n : Int) (h : l.length ≤ 2097152) : Ev (fun k => impl_RevokedAt.f k l n) (revAt l n) := by
 have e : Ev (fun k => slices_IndexFunc110_111.f k l n) (idxV (fun x : S104 => x.f0 == n) l 0) := by
  unfold slices_IndexFunc110_111.f
  refine idx_ev (fun k i => slices_IndexFunc110_111.l0 k l n (l.length : Int) i) (fun x : S104 => x.f0 == n) l 0 l.length (by omega) ?_ ?_
  ·refine Ev.succ ?_
   simp only [slices_IndexFunc110_111.l0, Int.lt_irrefl, if_false]
   exact Ev.now _
  ·intro j x r _ hx
   rw [Nat.sub_zero] at hx
   have hj := lt_of_get hx
   have h1 : ((j : Int) < (l.length : Int)) = True := eq_true (by omega)
   have h2 : (0 ≤ (j : Int)) = True := eq_true (by omega)
   constructor
   ·intro hp
    have c : x.f0 = n := by simpa using hp
    refine Ev.succ ?_
    simp only [slices_IndexFunc110_111.l0, h1, h2, if_true, rd_at_T104 hx, cl111.f, Option.bind_some, decide_eq_true c]
    exact Ev.now _
   ·intro hp he
    have c : ¬ x.f0 = n := by simpa using hp
    refine Ev.succ ?_
    simp only [slices_IndexFunc110_111.l0, h1, h2, if_true, rd_at_T104 hx, cl111.f, Option.bind_some, decide_eq_false c, Bool.false_eq_true, if_false, wr1 hj (by omega)]
    exact he
 unfold impl_RevokedAt.f revAt
 refine Ev.bind e ?_
 by_cases c : idxV (fun x : S104 => x.f0 == n) l 0 < 0
 ·simp only [if_pos c]; exact Ev.now _
 ·simp only [if_neg c]
  exact Ev.pos (by omega) (Ev.pos (idxV_in _ l c).2 (Ev.now _))
theorem impl_IsRevoked_ev (l : List S104) (n t : Int) (h : l.length ≤ 2097152) : Ev (fun k => impl_IsRevoked.f k l n t) (inB (revAt l n) 0 t) := by
 unfold impl_IsRevoked.f
 refine Ev.bind (impl_RevokedAt_ev l n h) ?_
 simp only [impl_InRange_eq, Option.bind_some]
 exact Ev.now _
theorem impl_SameQuestion_eq (a q : S54) : impl_SameQuestion.f a.f0 a.f1 a.f2 a.f3 a.f4 a.f5 q.f0 q.f1 q.f2 q.f3 q.f4 q.f5 = some (sameQ a q) := by
 simp only [impl_SameQuestion.f, impl_AtTime.f, Option.bind_some, Option.some.injEq, sameQ]
 rw [Bool.eq_iff_iff]
 simp
theorem impl_FindSaved_ev (l : List S70) (q : S54) (h : l.length ≤ 2097152) : Ev (fun k => impl_FindSaved.f k l q.f0 q.f1 q.f2 q.f3 q.f4 q.f5) (idxV (savedP q) l 0) := by
 unfold impl_FindSaved.f
 refine Ev.bind (a := idxV (savedP q) l 0) ?_ (Ev.now _)
 unfold slices_IndexFunc79_80.f
 refine idx_ev (fun k i => slices_IndexFunc79_80.l0 k l q.f0 q.f1 q.f2 q.f3 q.f4 q.f5 (l.length : Int) i) (savedP q) l 0 l.length (by omega) ?_ ?_
 ·refine Ev.succ ?_
  simp only [slices_IndexFunc79_80.l0, Int.lt_irrefl, if_false]
  exact Ev.now _
 ·intro j x r _ hx
  rw [Nat.sub_zero] at hx
  have hj := lt_of_get hx
  have h1 : ((j : Int) < (l.length : Int)) = True := eq_true (by omega)
  have h2 : (0 ≤ (j : Int)) = True := eq_true (by omega)
  have hc : cl80.f x.f0.f0 x.f0.f1 x.f0.f2 x.f0.f3 x.f0.f4 x.f0.f5 x.f1 x.f2 q.f0 q.f1 q.f2 q.f3 q.f4 q.f5 = some (savedP q x) := by
   unfold cl80.f savedP
   simp only [impl_SameQuestion_eq x.f0 q, Option.bind_some]
   cases sameQ x.f0 q with
   | false => rfl
   | true =>
    by_cases c : x.f0.f5 ≤ q.f5
    ·simp only [if_true, if_pos c, decide_eq_true c, Bool.true_and]
    ·simp only [if_true, if_neg c, decide_eq_false c, Bool.false_and, Bool.and_false]
  constructor
  ·intro hp
   refine Ev.succ ?_
   simp only [slices_IndexFunc79_80.l0, h1, h2, if_true, rd_at_T70 hx, hc, Option.bind_some, hp]
   exact Ev.now _
  ·intro hp he
   refine Ev.succ ?_
   simp only [slices_IndexFunc79_80.l0, h1, h2, if_true, rd_at_T70 hx, hc, Option.bind_some, hp, Bool.false_eq_true, if_false, wr1 hj (by omega)]
   exact he
theorem impl_SizeOf_evN (N : Nat) : ∀ x : S129, n129 x ≤ N → N ≤ 2097152 → Ev (fun k => impl_SizeOf.f k x.f0 x.f1 x.f2 x.f3) (1 + (n129 x : Int)) := by
 induction N using Nat.strongRecOn with
 | _ N ih =>
 intro x hx hN
 rw [n129_f] at hx ⊢
 have key : ∀ (d i : Nat) (s : Int), x.f3.length - i = d → i ≤ x.f3.length → 0 ≤ s → s + (((x.f3.drop i).length + ((x.f3.drop i).map n129).sum : Nat) : Int) ≤ 4000000 → Ev (fun k => impl_SizeOf.l0 k s x.f3 (x.f3.length : Int) (i : Int)) (s + (((x.f3.drop i).length + ((x.f3.drop i).map n129).sum : Nat) : Int)) := by
  intro d
  induction d with
  | zero =>
   intro i s hd hi h0 hs
   obtain rfl : i = x.f3.length := by omega
   refine Ev.succ ?_
   simp only [impl_SizeOf.l0, Int.lt_irrefl, if_false, List.drop_length, List.length_nil, List.map_nil, List.sum_nil]
   exact Ev.eqv (by omega) (Ev.now _)
  | succ d ih2 =>
   intro i s hd hi h0 hs
   have hi' : i < x.f3.length := by omega
   have hy : x.f3[i]? = some x.f3[i] := List.getElem?_eq_getElem hi'
   have hn := le_sum n129 hy
   rw [List.drop_eq_getElem_cons hi'] at hs ⊢
   simp only [List.length_cons, List.map_cons, List.sum_cons] at hs ⊢
   generalize x.f3[i] = y at hy hn hs ⊢
   have e := ih (n129 y) (by omega) y (Nat.le_refl _) (by omega)
   have h1 : ((i : Int) < (x.f3.length : Int)) = True := eq_true (by omega)
   have h2 : (0 ≤ (i : Int)) = True := eq_true (by omega)
   refine Ev.succ ?_
   simp only [impl_SizeOf.l0, h1, h2, if_true, rd_at_T129 hy, wr1 hi' (by omega)]
   refine Ev.bind e ?_
   rw [wr (show (-9223372036854775808 : Int) ≤ s + (1 + (n129 y : Int)) by omega) (by omega)]
   exact Ev.eqv (by omega) (ih2 (i + 1) (s + (1 + (n129 y : Int))) (by omega) (by omega) (by omega) (by omega))
 refine Ev.succ ?_
 simp only [impl_SizeOf.f]
 exact Ev.eqv (by rw [List.drop_zero]) (key x.f3.length 0 1 (by omega) (by omega) (by omega) (by rw [List.drop_zero]; omega))
theorem impl_SizeOf_ev (x : S129) (h : n129 x ≤ 2097152) : Ev (fun k => impl_SizeOf.f k x.f0 x.f1 x.f2 x.f3) (1 + (n129 x : Int)) := impl_SizeOf_evN _ x (Nat.le_refl _) h
theorem impl_IsCond_ev (x : S129) (h : n129 x ≤ 2097152) : Ev (fun k => impl_IsCond.f k x.f0 x.f1 x.f2 x.f3) (condB x) := by
 have hv := (valid_evN _ x (Nat.le_refl _) h).2
 unfold impl_IsCond.f condB
 refine Ev.bind (impl_SizeOf_ev x h) ?_
 by_cases c : 1 + (n129 x : Int) ≤ 15
 ·simp only [if_pos c, decide_eq_true c, Bool.true_and]
  exact Ev.bind hv (Ev.now _)
 ·simp only [if_neg c, decide_eq_false c, Bool.false_and]
  exact Ev.now _
theorem impl_IsRule_ev (r : S131) (h : n131 r ≤ 2097152) : Ev (fun k => impl_IsRule.f k r.f0 r.f1 r.f2 r.f3.f0 r.f3.f1 r.f3.f2 r.f3.f3) (ruleB r) := by
 have hc := impl_IsCond_ev r.f3 (by have := rule_n r; omega)
 unfold impl_IsRule.f ruleB
 simp only [impl_InRange_eq, impl_HasKind_eq, Option.bind_some]
 refine Ev.bifT fun _ => Ev.bifT fun _ => ?_
 by_cases c : r.f2 = -1
 ·simp only [if_pos c, beq_iff_eq.2 c, Bool.true_or, Bool.true_and]
  exact Ev.bind hc (Ev.now _)
 ·simp only [if_neg c, beq_eq_false_iff_ne.2 c, Bool.false_or]
  exact Ev.bifT fun _ => Ev.bind hc (Ev.now _)
theorem impl_IsPolicy_ev (p : S41) (h : n41 p ≤ 2097152) : Ev (fun k => impl_IsPolicy.f k p.f0 p.f1) (policyB p) := by
 unfold n41 at h
 unfold impl_IsPolicy.f policyB
 simp only [impl_InRange_eq, Option.bind_some]
 have hI : Ev (fun k => slices_IndexFunc147_132.f k p.f1) (idxV (fun x => !ruleB x) p.f1 0) := by
  unfold slices_IndexFunc147_132.f
  refine idx_ev (fun k i => slices_IndexFunc147_132.l0 k p.f1 (p.f1.length : Int) i) (fun x => !ruleB x) p.f1 0 p.f1.length (by omega) ?_ ?_
  ·refine Ev.succ ?_
   simp only [slices_IndexFunc147_132.l0, Int.lt_irrefl, if_false]
   exact Ev.now _
  ·intro j x r _ hx
   rw [Nat.sub_zero] at hx
   have hj := lt_of_get hx
   have hn := le_sum n131 hx
   have h1 : ((j : Int) < (p.f1.length : Int)) = True := eq_true (by omega)
   have h2 : (0 ≤ (j : Int)) = True := eq_true (by omega)
   have hc : Ev (fun k => cl132.f k x.f0 x.f1 x.f2 x.f3.f0 x.f3.f1 x.f3.f2 x.f3.f3) (!ruleB x) := by
    unfold cl132.f
    exact Ev.bind (impl_IsRule_ev _ (by omega)) (Ev.now _)
   constructor
   ·intro hq
    refine Ev.succ ?_
    simp only [slices_IndexFunc147_132.l0, h1, h2, if_true, rd_at_T131 hx]
    refine Ev.bind hc ?_
    simp only [hq, if_true]
    exact Ev.now _
   ·intro hq he
    refine Ev.succ ?_
    simp only [slices_IndexFunc147_132.l0, h1, h2, if_true, rd_at_T131 hx, wr1 hj (by omega)]
    refine Ev.bind hc ?_
    simp only [hq, Bool.false_eq_true, if_false]
    exact he
 refine Ev.bifT fun _ => Ev.dand fun _ => ?_
 have hC : Ev (fun k => slices_ContainsFunc131_132.f k p.f1) (p.f1.any (fun x => !ruleB x)) := by
  unfold slices_ContainsFunc131_132.f
  exact Ev.bind hI (Ev.eqv (idxV_anyI (fun x => !ruleB x) p.f1 0 (by omega)) (Ev.now _))
 refine Ev.bind hC ?_
 refine Ev.eqv ?_ (Ev.now _)
 simp [List.any_eq_not_all_not]
theorem impl_IsFor_eq (x : S131) (a o : Int) : impl_IsFor.f x.f0 x.f1 x.f2 x.f3.f0 x.f3.f1 x.f3.f2 x.f3.f3 a o = some (forB x a o) := by
 unfold impl_IsFor.f forB
 by_cases c1 : x.f1 = -1
 ·rw [if_pos c1]
  by_cases c2 : x.f2 = -1
  ·rw [if_pos c2]; simp [c1, c2]
  ·rw [if_neg c2]; simp [c1, c2, Bool.beq_eq_decide_eq]
 ·rw [if_neg c1]
  by_cases c3 : x.f1 = a
  ·rw [if_pos c3]
   by_cases c2 : x.f2 = -1
   ·rw [if_pos c2]; simp [c3, c2]
   ·rw [if_neg c2]; simp [c3, c2, Bool.beq_eq_decide_eq]
  ·rw [if_neg c3]; simp [c1, c3]
theorem impl_isClaim_eq (x : S100) : impl_isClaim.f x.f0 x.f1 x.f2 x.f3 x.f4 x.f5 = some (claimB x) := by
 unfold impl_isClaim.f claimB
 simp only [impl_HasKind_eq, impl_InRange_eq, Option.bind_some, ite_and]
 (repeat' split) <;> rfl
theorem impl_IsFact_eq (x : S100) : impl_IsFact.f x.f0 x.f1 x.f2 x.f3 x.f4 x.f5 = some (factB x) := by
 unfold impl_IsFact.f factB
 simp only [impl_isClaim_eq, impl_InRange_eq, impl_IsTime_eq, Option.bind_some, ite_and]
theorem withB_in (a b c : Int) : withB a b c = withinB a b c := rfl
theorem impl_HoldsAt_eq (x : S100) (t a : Int) : impl_HoldsAt.f x.f0 x.f1 x.f2 x.f3 x.f4 x.f5 t a = some (holdsB x t a) := by
 unfold impl_HoldsAt.f holdsB
 simp only [impl_IsFact_eq, impl_IsWithin_eq, withB_in, impl_AgeOf_eq, Option.bind_some]
 cases factB x
 ·simp
 ·cases h : withinB x.f4 x.f5 t
  ·simp
  ·have h2 := within_iff h
   simp only [if_true, Bool.true_and]
   rw [fresh_age h2.1 h2.2.2.1 h2.2.2.2.1]
theorem popX_len2 (l : List S133) (a : Int) : ∀ s : List Bool × List Int, (popX l a s).2.length ≤ s.2.length + l.length := by
 unfold popX
 induction l with
 | nil => intro s; simp
 | cons x l ih =>
  intro s
  rw [List.foldl_cons]
  have := ih (visX a s x)
  have h : (visX a s x).2.length ≤ s.2.length + 1 := by
   unfold visX; split
   ·simp
   ·omega
  simp only [List.length_cons]
  omega
theorem isRole_role (a : Int) : impl_isRole.f a = some (roleB a) := by
 unfold impl_isRole.f
 rw [impl_InRange_eq]; rfl
theorem below_in (l : List S133) (hl : l.length ≤ 2097152) (a : Int) (c0 c1 c2 c3 c4 c5 : Bool) (r : Bool × Bool × Bool × Bool × Bool × Bool) : ∀ (d i : Nat) (b0 b1 b2 b3 b4 b5 : Bool) (q : List Int), i + d = l.length → q.length + d ≤ 200000000 →
  (∀ (e0 e1 e2 e3 e4 e5 : Bool) (q' : List Int), popX (l.drop i) a ([b0, b1, b2, b3, b4, b5], q) = ([e0, e1, e2, e3, e4, e5], q') → Ev (fun k => impl_below.l0 k l c0 c1 c2 c3 c4 c5 e0 e1 e2 e3 e4 e5 q') r) →
  Ev (fun k => impl_below.l1 k l c0 c1 c2 c3 c4 c5 b0 b1 b2 b3 b4 b5 q a l (l.length : Int) (i : Int)) r := by
 intro d
 induction d with
 | zero =>
  intro i b0 b1 b2 b3 b4 b5 q hi hq h
  obtain rfl : i = l.length := by omega
  refine Ev.succ ?_
  simp only [impl_below.l1, Int.lt_irrefl, if_false]
  exact h _ _ _ _ _ _ _ (by rw [List.drop_length]; rfl)
 | succ d ih =>
  intro i b0 b1 b2 b3 b4 b5 q hi hq h
  have hil : i < l.length := by omega
  obtain ⟨x, hx⟩ := getAt (l := l) (i := i) hil
  have hd : l.drop i = x :: l.drop (i + 1) := by
   rw [List.drop_eq_getElem_cons hil]
   rw [List.getElem?_eq_getElem hil] at hx
   rw [Option.some.inj hx]
  have h1 : ((i : Int) < (l.length : Int)) = True := eq_true (by omega)
  have h2 : (0 ≤ (i : Int)) = True := eq_true (by omega)
  have h3 : (q.length < 17592186044416) = True := eq_true (by omega)
  have go : ∀ (b0 b1 b2 b3 b4 b5 : Bool) (q2 : List Int), q2.length ≤ q.length + 1 → visX a ([b0, b1, b2, b3, b4, b5], q2) x = ([b0, b1, b2, b3, b4, b5], q2) ∨ True → True := fun _ _ _ _ _ _ _ _ _ => trivial
  clear go
  have keep : visX a ([b0, b1, b2, b3, b4, b5], q) x = ([b0, b1, b2, b3, b4, b5], q) → Ev (fun k => impl_below.l1 k l c0 c1 c2 c3 c4 c5 b0 b1 b2 b3 b4 b5 q a l (l.length : Int) ((i + 1 : Nat) : Int)) r := by
   intro hv
   refine ih (i + 1) _ _ _ _ _ _ q (by omega) (by omega) fun e0 e1 e2 e3 e4 e5 q' he => h _ _ _ _ _ _ _ ?_
   rw [hd]
   show popX (l.drop (i + 1)) a (visX a ([b0, b1, b2, b3, b4, b5], q) x) = _
   rw [hv]; exact he
  have put : ∀ (f0 f1 f2 f3 f4 f5 : Bool), visX a ([b0, b1, b2, b3, b4, b5], q) x = ([f0, f1, f2, f3, f4, f5], q ++ [x.f1]) → Ev (fun k => impl_below.l1 k l c0 c1 c2 c3 c4 c5 f0 f1 f2 f3 f4 f5 (q ++ [x.f1]) a l (l.length : Int) ((i + 1 : Nat) : Int)) r := by
   intro f0 f1 f2 f3 f4 f5 hv
   refine ih (i + 1) _ _ _ _ _ _ _ (by omega) (by rw [List.length_append, List.length_singleton]; omega) fun e0 e1 e2 e3 e4 e5 q' he => h _ _ _ _ _ _ _ ?_
   rw [hd]
   show popX (l.drop (i + 1)) a (visX a ([b0, b1, b2, b3, b4, b5], q) x) = _
   rw [hv]; exact he
  refine Ev.succ ?_
  simp only [impl_below.l1, h1, h2, h3, if_true, rd_at_T133 hx, wr1 hil (by omega), isRole_role, Option.bind_some]
  by_cases ca : x.f0 = a
  ·simp only [if_pos ca]
   cases hr : roleB x.f1 with
   | false =>
    simp only [Bool.false_eq_true, if_false, ca, if_true]
    exact keep (by unfold visX; simp [hr])
   | true =>
    have hr' := roleB_iff.1 hr
    have hc : x.f1 = 0 ∨ x.f1 = 1 ∨ x.f1 = 2 ∨ x.f1 = 3 ∨ x.f1 = 4 ∨ x.f1 = 5 := by omega
    rcases hc with e | e | e | e | e | e <;> simp only [e, if_true, Int.reduceEq, if_false] at put ⊢
    ·cases b0 with
     | true => simp only [if_true]; exact keep (by unfold visX; simp [mkR, e])
     | false => simp only [Bool.false_eq_true, if_false]; exact put _ _ _ _ _ _ (by unfold visX; simp [mkR, e, ca, roleB])
    ·cases b1 with
     | true => simp only [if_true]; exact keep (by unfold visX; simp [mkR, e])
     | false => simp only [Bool.false_eq_true, if_false]; exact put _ _ _ _ _ _ (by unfold visX; simp [mkR, e, ca, roleB])
    ·cases b2 with
     | true => simp only [if_true]; exact keep (by unfold visX; simp [mkR, e])
     | false => simp only [Bool.false_eq_true, if_false]; exact put _ _ _ _ _ _ (by unfold visX; simp [mkR, e, ca, roleB])
    ·cases b3 with
     | true => simp only [if_true]; exact keep (by unfold visX; simp [mkR, e])
     | false => simp only [Bool.false_eq_true, if_false]; exact put _ _ _ _ _ _ (by unfold visX; simp [mkR, e, ca, roleB])
    ·cases b4 with
     | true => simp only [if_true]; exact keep (by unfold visX; simp [mkR, e])
     | false => simp only [Bool.false_eq_true, if_false]; exact put _ _ _ _ _ _ (by unfold visX; simp [mkR, e, ca, roleB])
    ·cases b5 with
     | true => simp only [if_true]; exact keep (by unfold visX; simp [mkR, e])
     | false => simp only [Bool.false_eq_true, if_false]; exact put _ _ _ _ _ _ (by unfold visX; simp [mkR, e, ca, roleB])
  ·simp only [if_neg ca]
   exact keep (by unfold visX; simp [ca])
theorem below_out (l : List S133) (hl : l.length ≤ 2097152) (c0 c1 c2 c3 c4 c5 r0 r1 r2 r3 r4 r5 : Bool) : ∀ (n : Nat) (q : List Int) (b0 b1 b2 b3 b4 b5 : Bool), q.length + n * 2097152 ≤ 150000000 → bfsX l n q [b0, b1, b2, b3, b4, b5] = some [r0, r1, r2, r3, r4, r5] →
  Ev (fun k => impl_below.l0 k l c0 c1 c2 c3 c4 c5 b0 b1 b2 b3 b4 b5 q) (r0, r1, r2, r3, r4, r5) := by
 intro n
 induction n with
 | zero => intro q b0 b1 b2 b3 b4 b5 hq h; cases h
 | succ n ih =>
  intro q b0 b1 b2 b3 b4 b5 hq h
  cases q with
  | nil =>
   cases h
   refine Ev.succ ?_
   simp only [impl_below.l0, List.length_nil, Int.ofNat_eq_natCast, Int.natCast_zero, gt_iff_lt, Int.lt_irrefl, if_false]
   exact Ev.now _
  | cons a rest =>
   simp only [List.length_cons] at hq
   have h1 : (((a :: rest).length : Int) > 0) = True := eq_true (by simp only [List.length_cons]; omega)
   have h2 : (0 < ((a :: rest).length : Int)) = True := eq_true (by simp only [List.length_cons]; omega)
   have h3 : (1 ≤ ((a :: rest).length : Int)) = True := eq_true (by simp only [List.length_cons]; omega)
   refine Ev.succ ?_
   simp only [impl_below.l0, h1, h2, h3, if_true]
   have hrd : rd (a :: rest) 0 = a := rfl
   have hdr : (a :: rest).drop 1 = rest := rfl
   rw [hrd, hdr]
   refine below_in l hl a c0 c1 c2 c3 c4 c5 _ l.length 0 b0 b1 b2 b3 b4 b5 rest (by omega) (by omega) fun e0 e1 e2 e3 e4 e5 q' he => ?_
   rw [List.drop_zero] at he
   have hp := popX_len2 l a ([b0, b1, b2, b3, b4, b5], rest)
   rw [he] at hp
   simp only at hp
   refine ih q' e0 e1 e2 e3 e4 e5 (by omega) ?_
   have h' : bfsX l n (popX l a ([b0, b1, b2, b3, b4, b5], rest)).2 (popX l a ([b0, b1, b2, b3, b4, b5], rest)).1 = some [r0, r1, r2, r3, r4, r5] := h
   rw [he] at h'
   exact h'
theorem six {r : List Bool} (h : r.length = 6) : ∃ r0 r1 r2 r3 r4 r5, r = [r0, r1, r2, r3, r4, r5] := by
 match r, h with
 | [a, b, c, d, e, f], _ => exact ⟨a, b, c, d, e, f, rfl⟩
theorem impl_below_ev (l : List S133) (hl : l.length ≤ 2097152) (a : Int) (ha : roleB a = true) : ∃ r0 r1 r2 r3 r4 r5, Ev (fun k => impl_below.f k l a) (r0, r1, r2, r3, r4, r5) ∧ bfsX l 8 [a] (List.replicate 6 false) = some [r0, r1, r2, r3, r4, r5] := by
 obtain ⟨r, e, hr, -⟩ := below_spec l a ha 8 (by omega)
 obtain ⟨r0, r1, r2, r3, r4, r5, rfl⟩ := six hr
 exact ⟨r0, r1, r2, r3, r4, r5, below_out l hl _ _ _ _ _ _ _ _ _ _ _ _ 8 [a] _ _ _ _ _ _ (by simp) e, e⟩
theorem roles_step (a : Int) (r0 r1 r2 r3 r4 r5 : Bool) (k i : Nat) (hi : i < 6) (o : List Int) (ho : o.length ≤ 6) : impl_RolesUnder.l0 (k + 1) a o r0 r1 r2 r3 r4 r5 (i : Int) = impl_RolesUnder.l0 k a (o ++ (if mkR [r0, r1, r2, r3, r4, r5] (i : Int) = true ∨ (i : Int) = a then [(i : Int)] else [])) r0 r1 r2 r3 r4 r5 ((i + 1 : Nat) : Int) := by
 have h1 : (o.length < 17592186044416) = True := eq_true (by omega)
 have hw : wrap64 ((i : Int) + 1) = ((i + 1 : Nat) : Int) := wr1 hi (by omega)
 have hr : ∀ (r : Bool) (p q : Option (List Int)), mkR [r0, r1, r2, r3, r4, r5] (i : Int) = r → (if r = true then p else if (i : Int) = a then p else q) = if mkR [r0, r1, r2, r3, r4, r5] (i : Int) = true ∨ (i : Int) = a then p else q := by
  intro r p q e
  rw [e]
  cases r <;> simp
 have hg : ∀ (c : Prop) [Decidable c], impl_RolesUnder.l0 k a (o ++ (if c then [(i : Int)] else [])) r0 r1 r2 r3 r4 r5 ((i + 1 : Nat) : Int) = if c then impl_RolesUnder.l0 k a (o ++ [(i : Int)]) r0 r1 r2 r3 r4 r5 ((i + 1 : Nat) : Int) else impl_RolesUnder.l0 k a o r0 r1 r2 r3 r4 r5 ((i + 1 : Nat) : Int) := by
  intro c _
  by_cases hc : c
  ·rw [if_pos hc, if_pos hc]
  ·rw [if_neg hc, if_neg hc, List.append_nil]
 rw [hg]
 have h6 : ((i : Int) < 6) = True := eq_true (by omega)
 simp only [impl_RolesUnder.l0, h1, hw, h6, if_true]
 rcases (by omega : i = 0 ∨ i = 1 ∨ i = 2 ∨ i = 3 ∨ i = 4 ∨ i = 5) with rfl | rfl | rfl | rfl | rfl | rfl
 ·rw [if_pos (by decide)]; exact hr r0 _ _ rfl
 ·rw [if_neg (by decide), if_pos (by decide)]; exact hr r1 _ _ rfl
 ·rw [if_neg (by decide), if_neg (by decide), if_pos (by decide)]; exact hr r2 _ _ rfl
 ·rw [if_neg (by decide), if_neg (by decide), if_neg (by decide), if_pos (by decide)]; exact hr r3 _ _ rfl
 ·rw [if_neg (by decide), if_neg (by decide), if_neg (by decide), if_neg (by decide), if_pos (by decide)]; exact hr r4 _ _ rfl
 ·rw [if_neg (by decide), if_neg (by decide), if_neg (by decide), if_neg (by decide), if_neg (by decide), if_pos (by decide)]; exact hr r5 _ _ rfl
theorem impl_RolesUnder_ev (l : List S133) (role : Int) (hl : l.length ≤ 2097152) : Ev (fun k => impl_RolesUnder.f k l role) (rolesV l role) := by
 unfold impl_RolesUnder.f rolesV
 rw [isRole_role, roleB_in]
 cases c : roleB role with
 | false => simp only [Option.bind_some, Bool.false_eq_true, if_false]; exact Ev.now _
 | true =>
  simp only [Option.bind_some, if_true]
  obtain ⟨r0, r1, r2, r3, r4, r5, e, eb⟩ := impl_below_ev l hl role c
  refine Ev.bind e ?_
  obtain ⟨r, h1, h2, h3⟩ := below_spec l role c 8 (by omega)
  rw [eb] at h1
  obtain rfl := Option.some.inj h1
  have hq : ∀ q, roleB q = true → ((mkR [r0, r1, r2, r3, r4, r5] q = true ∨ q = role) ↔ mkR (closX l role) q = true) := fun q hq => by
   rw [h3 q hq, closX_iff l c hq, Rch_iff]
   constructor
   ·rintro (h | h)
    ·exact Or.inr h
    ·exact Or.inl h.symm
   ·rintro (h | h)
    ·exact Or.inr h.symm
    ·exact Or.inl h
  have key : ∀ (d i : Nat) (o : List Int), i + d = 6 → o.length ≤ i → Ev (fun k => impl_RolesUnder.l0 k role o r0 r1 r2 r3 r4 r5 (i : Int)) (o ++ (([0, 1, 2, 3, 4, 5] : List Int).drop i).filter fun r => mkR (closX l role) r) := by
   intro d
   induction d with
   | zero =>
    intro i o hi ho
    obtain rfl : i = 6 := by omega
    refine Ev.succ ?_
    simp only [impl_RolesUnder.l0]
    rw [show (([0, 1, 2, 3, 4, 5] : List Int).drop 6) = [] from rfl, List.filter_nil, List.append_nil]
    exact Ev.neg (by omega) (Ev.now _)
   | succ d ih =>
    intro i o hi ho
    refine Ev.next (fun k => roles_step role r0 r1 r2 r3 r4 r5 k i (by omega) o (by omega)) ?_
    have hr := hq (i : Int) (by rw [roleB_iff]; omega)
    have hd : (([0, 1, 2, 3, 4, 5] : List Int).drop i) = (i : Int) :: ([0, 1, 2, 3, 4, 5] : List Int).drop (i + 1) := by
     rcases (by omega : i = 0 ∨ i = 1 ∨ i = 2 ∨ i = 3 ∨ i = 4 ∨ i = 5) with rfl | rfl | rfl | rfl | rfl | rfl <;> rfl
    rw [hd]
    by_cases cc : mkR [r0, r1, r2, r3, r4, r5] (i : Int) = true ∨ (i : Int) = role
    ·rw [if_pos cc, List.filter_cons_of_pos (by exact hr.1 cc)]
     refine Ev.eqv ?_ (ih (i + 1) (o ++ [(i : Int)]) (by omega) (by rw [List.length_append, List.length_singleton]; omega))
     rw [List.append_assoc]; rfl
    ·rw [if_neg cc, List.append_nil, List.filter_cons_of_neg (by intro hc; exact cc (hr.2 hc))]
     exact ih (i + 1) o (by omega) (by omega)
  exact Ev.eqv (by rw [List.drop_zero, List.nil_append]; rfl) (key 6 0 [] rfl (by simp))
theorem slices_Sort_int_int_eq (l : List Int) (h : l.length < 2199023255552) : slices_Sort_int_int.f l = some (l.mergeSort fun x y => decide (x ≤ y)) := by
 unfold slices_Sort_int_int.f
 rw [if_pos h]
theorem slices_Compact_int_int_eq (l : List Int) (h : l.length < 2199023255552) : slices_Compact_int_int.f l = some (Go.Lib.compact l) := by
 unfold slices_Compact_int_int.f
 rw [if_pos h]
theorem mem_compactUpTo (d : Array Int) (x : Int) : ∀ m, x ∈ Go.Lib.compactUpTo d m ↔ ∃ j, j < m ∧ d[j]! = x
 | 0 => by simp [Go.Lib.compactUpTo]
 | m + 1 => by
  rw [Go.Lib.compactUpTo_succ, List.mem_append, mem_compactUpTo d x m]
  constructor
  ·rintro (⟨j, hj, e⟩ | h)
   ·exact ⟨j, by omega, e⟩
   ·split at h
    ·exact ⟨m, by omega, (List.mem_singleton.1 h).symm⟩
    ·simp at h
  ·rintro ⟨j, hj, e⟩
   by_cases hm : j = m
   ·subst hm
    by_cases hk : Go.Lib.keeps d j = true
    ·rw [if_pos hk]; exact .inr (by simp [e])
    ·left
     unfold Go.Lib.keeps at hk
     have h0 : j ≠ 0 ∧ d[j]! = d[j - 1]! := by simpa using hk
     exact ⟨j - 1, by omega, by rw [← h0.2, e]⟩
   ·exact .inl ⟨j, by omega, e⟩
theorem asc_compactUpTo (d : Array Int) (n : Nat) (hs : ∀ i j, i ≤ j → j < n → d[i]! ≤ d[j]!) : ∀ m, m ≤ n → (Go.Lib.compactUpTo d m).Pairwise (· < ·)
 | 0, _ => by simp [Go.Lib.compactUpTo]
 | m + 1, hm => by
  rw [Go.Lib.compactUpTo_succ, List.pairwise_append]
  refine ⟨asc_compactUpTo d n hs m (by omega), by split <;> simp, ?_⟩
  intro a ha b hb
  split at hb
  case isFalse => simp at hb
  case isTrue hk =>
  obtain rfl := List.mem_singleton.1 hb
  obtain ⟨j, hj, rfl⟩ := (mem_compactUpTo d a m).1 ha
  unfold Go.Lib.keeps at hk
  have h0 : m = 0 ∨ d[m]! ≠ d[m - 1]! := of_decide_eq_true hk
  have h1 := hs j (m - 1) (by omega) (by omega)
  have h2 := hs (m - 1) m (by omega) (by omega)
  rcases h0 with h0 | h0
  ·omega
  ·omega
theorem asc_ext : ∀ (a b : List Int), a.Pairwise (· < ·) → b.Pairwise (· < ·) → (∀ x, x ∈ a ↔ x ∈ b) → a = b
 | [], [], _, _, _ => rfl
 | [], y :: b, _, _, h => by have := (h y).2 (by simp); simp at this
 | x :: a, [], _, _, h => by have := (h x).1 (by simp); simp at this
 | x :: a, y :: b, ha, hb, h => by
  rw [List.pairwise_cons] at ha hb
  have hxy : x = y := by
   have h1 := (h x).1 (by simp)
   have h2 := (h y).2 (by simp)
   rcases List.mem_cons.1 h1 with e | e
   ·exact e
   ·rcases List.mem_cons.1 h2 with e2 | e2
    ·exact e2.symm
    ·have := hb.1 x e; have := ha.1 y e2; omega
  subst hxy
  rw [asc_ext a b ha.2 hb.2 (fun z => ⟨fun hz => ?_, fun hz => ?_⟩)]
  ·rcases List.mem_cons.1 ((h z).1 (by simp [hz])) with e | e
   ·have := ha.1 z hz; omega
   ·exact e
  ·rcases List.mem_cons.1 ((h z).2 (by simp [hz])) with e | e
   ·have := hb.1 z hz; omega
   ·exact e
theorem asc_sorted (l : List Int) : (Go.Lib.compact (l.mergeSort fun x y => decide (x ≤ y))).Pairwise (· < ·) ∧ ∀ x, x ∈ Go.Lib.compact (l.mergeSort fun x y => decide (x ≤ y)) ↔ x ∈ l := by
 have hp : (l.mergeSort fun x y => decide (x ≤ y)).Pairwise fun x y => decide (x ≤ y) = true := List.pairwise_mergeSort (fun a b c h1 h2 => by simp at h1 h2 ⊢; omega) (fun a b => by simp; omega) l
 have hm : ∀ x, x ∈ (l.mergeSort fun x y => decide (x ≤ y)) ↔ x ∈ l := fun x => List.mem_mergeSort
 generalize (l.mergeSort fun x y => decide (x ≤ y)) = s at hp hm
 unfold Go.Lib.compact
 have hs : ∀ i j, i ≤ j → j < s.length → s.toArray[i]! ≤ s.toArray[j]! := by
  intro i j hij hj
  rw [getElem!_pos _ _ (by simp; omega), getElem!_pos _ _ (by simpa using hj)]
  rcases Nat.lt_or_eq_of_le hij with h | h
  ·have := List.pairwise_iff_getElem.1 hp i j (by omega) hj h
   simpa using this
  ·subst h; exact Int.le_refl _
 refine ⟨asc_compactUpTo _ s.length hs _ (Nat.le_refl _), fun x => ?_⟩
 rw [mem_compactUpTo, ← hm x]
 constructor
 ·rintro ⟨j, hj, rfl⟩
  rw [getElem!_pos _ _ (by simpa using hj)]; simp
 ·intro h
  obtain ⟨j, hj, rfl⟩ := List.getElem_of_mem h
  exact ⟨j, hj, by rw [getElem!_pos _ _ (by simpa using hj)]; simp⟩
def gathV (l : List S133) (p t g : Int) : List S100 → List Int
 | [] => []
 | x :: s => (if givesP p t g x = true then rolesV l x.f2 else []) ++ gathV l p t g s
theorem gath_has (l : List S133) (p r t g : Int) : ∀ s, hasI (gathV l p t g s) r = hasRB l s p r t g
 | [] => rfl
 | x :: s => by
  have ih := gath_has l p r t g s
  unfold hasI hasRB at *
  rw [gathV, List.any_append, List.any_cons, ih]
  cases givesP p t g x <;> simp [hasI]
theorem gath_len (l : List S133) (p t g : Int) : ∀ s : List S100, (gathV l p t g s).length ≤ 6 * s.length
 | [] => by simp [gathV]
 | x :: s => by
  have ih := gath_len l p t g s
  have := rolesV_len l x.f2
  rw [gathV, List.length_append, List.length_cons]
  split <;> simp <;> omega
theorem impl_RolesOf_ev (l : List S133) (s : List S100) (p t g : Int) (hl : l.length ≤ 2097152) (h : s.length ≤ 2097152) : ∃ v, Ev (fun k => impl_RolesOf.f k l s p t g) v ∧ v.length ≤ 6 * 2097152 ∧ ∀ r, hasI v r = hasRB l s p r t g := by
 have key : ∀ (d i : Nat) (out : List Int), s.length - i = d → i ≤ s.length → out.length + 6 * d ≤ 6 * 2097152 → Ev (fun k => impl_RolesOf.l0 k l p t g out s (s.length : Int) (i : Int)) (Go.Lib.compact ((out ++ gathV l p t g (s.drop i)).mergeSort fun x y => decide (x ≤ y))) := by
  intro d
  induction d with
  | zero =>
   intro i out hd hi ho
   obtain rfl : i = s.length := by omega
   refine Ev.succ ?_
   simp only [impl_RolesOf.l0, Int.lt_irrefl, if_false, List.drop_length, gathV, List.append_nil]
   rw [slices_Sort_int_int_eq out (by omega), Option.bind_some, slices_Compact_int_int_eq _ (by rw [List.length_mergeSort]; omega), Option.bind_some]
   exact Ev.now _
  | succ d ih =>
   intro i out hd hi ho
   have hi' : i < s.length := by omega
   have hx : s[i]? = some s[i] := List.getElem?_eq_getElem hi'
   rw [List.drop_eq_getElem_cons hi', gathV, ← List.append_assoc]
   generalize s[i] = x at hx ⊢
   have h1 : ((i : Int) < (s.length : Int)) = True := eq_true (by omega)
   have h2 : (0 ≤ (i : Int)) = True := eq_true (by omega)
   have hll := rolesV_len l x.f2
   have hno := ih (i + 1) out (by omega) (by omega) (by omega)
   have hyes := ih (i + 1) (out ++ rolesV l x.f2) (by omega) (by omega) (by rw [List.length_append]; omega)
   have h3 := wr1 hi' (show s.length ≤ 9223372036854775807 by omega)
   refine Ev.succ ?_
   simp only [impl_RolesOf.l0, h1, h2, if_true, rd_at_T100 hx, impl_HoldsAt_eq, Option.bind_some, h3]
   by_cases c0 : x.f0 = 1
   ·by_cases c1 : x.f1 = p
    ·cases c2 : holdsB x t g with
     | false =>
      have e : givesP p t g x = false := by simp [givesP, c2]
      simp only [if_pos c0, if_pos c1, Bool.false_eq_true, if_false, e, List.append_nil]
      exact hno
     | true =>
      have e : givesP p t g x = true := by simp [givesP, c0, c1, c2]
      simp only [if_pos c0, if_pos c1, e, if_true]
      refine Ev.bind (impl_RolesUnder_ev l x.f2 hl) ?_
      exact Ev.pos (by omega) hyes
    ·have e : givesP p t g x = false := by simp [givesP, c1]
     simp only [if_pos c0, if_neg c1, Bool.false_eq_true, if_false, e, List.append_nil]
     exact hno
   ·have e : givesP p t g x = false := by simp [givesP, c0]
    simp only [if_neg c0, Bool.false_eq_true, if_false, e, List.append_nil]
    exact hno
 refine ⟨_, key s.length 0 [] (by omega) (by omega) (by simp; omega), ?_, fun r => ?_⟩
 ·have := gath_len l p t g s
  have h2 := Go.Lib.compact_length_le (([] ++ gathV l p t g (s.drop 0)).mergeSort fun x y => decide (x ≤ y))
  rw [List.length_mergeSort] at h2
  simp only [List.nil_append, List.drop_zero] at h2 ⊢
  omega
 ·rw [← gath_has]
  simp only [List.nil_append, List.drop_zero]
  rw [Bool.eq_iff_iff, any_hasI, any_hasI]
  exact (asc_sorted _).2 r
theorem slices_Index183_ev (l : List Int) (a : Int) (h : l.length ≤ 1073741824) : Ev (fun k => slices_Index183.f k l a) (idxV (fun x => decide (a = x)) l 0) := by
 unfold slices_Index183.f
 refine idx_ev (fun k i => slices_Index183.l0 k l a (l.length : Int) i) (fun x => decide (a = x)) l 0 l.length (by omega) ?_ ?_
 ·refine Ev.succ ?_
  simp only [slices_Index183.l0, Int.lt_irrefl, if_false]
  exact Ev.now _
 ·intro j x r _ hx
  rw [Nat.sub_zero] at hx
  have hj := lt_of_get hx
  have h1 : ((j : Int) < (l.length : Int)) = True := eq_true (by omega)
  have h2 : (0 ≤ (j : Int)) = True := eq_true (by omega)
  constructor
  ·intro hp
   refine Ev.succ ?_
   simp only [slices_Index183.l0, h1, h2, if_true, rd_nat _ _ _ hx, of_decide_eq_true hp]
   exact Ev.now _
  ·intro hp he
   refine Ev.succ ?_
   simp only [slices_Index183.l0, h1, h2, if_true, rd_nat _ _ _ hx, if_neg (of_decide_eq_false hp), wr1 hj (by omega)]
   exact he
theorem slices_Contains171_ev (l : List Int) (a : Int) (h : l.length ≤ 1073741824) : Ev (fun k => slices_Contains171.f k l a) (hasI l a) := by
 unfold slices_Contains171.f
 refine Ev.bind (slices_Index183_ev l a h) ?_
 exact Ev.eqv (idxV_anyI (fun x => decide (a = x)) l 0 (by omega)) (Ev.now _)
theorem impl_HasRole_ev (l : List S133) (s : List S100) (p r t g : Int) (hl : l.length ≤ 2097152) (h : s.length ≤ 2097152) : Ev (fun k => impl_HasRole.f k l s p r t g) (hasRB l s p r t g) := by
 obtain ⟨v, hE, hv, hh⟩ := impl_RolesOf_ev l s p t g hl h
 unfold impl_HasRole.f
 refine Ev.bind hE ?_
 rw [← hh r]
 exact Ev.bid (slices_Contains171_ev v r (by omega))
theorem impl_FindFact_ev (l : List S100) (a b c t g : Int) (h : l.length ≤ 2097152) : Ev (fun k => impl_FindFact.f k l a b c t g) (idxV (findP a b c t g) l 0) := by
 unfold impl_FindFact.f
 refine Ev.bind (a := idxV (findP a b c t g) l 0) ?_ (Ev.now _)
 unfold slices_IndexFunc173_174.f
 refine idx_ev (fun k i => slices_IndexFunc173_174.l0 k l a b c t g (l.length : Int) i) (findP a b c t g) l 0 l.length (by omega) ?_ ?_
 ·refine Ev.succ ?_
  simp only [slices_IndexFunc173_174.l0, Int.lt_irrefl, if_false]
  exact Ev.now _
 ·intro j x r _ hx
  rw [Nat.sub_zero] at hx
  have hj := lt_of_get hx
  have h1 : ((j : Int) < (l.length : Int)) = True := eq_true (by omega)
  have h2 : (0 ≤ (j : Int)) = True := eq_true (by omega)
  have hc : cl174.f x.f0 x.f1 x.f2 x.f3 x.f4 x.f5 a b c t g = some (findP a b c t g x) := by
   unfold cl174.f findP
   simp only [impl_HoldsAt_eq, Option.bind_some]
   by_cases c0 : x.f0 = a
   ·by_cases c1 : x.f1 = b
    ·by_cases c2 : x.f2 = c
     ·rw [if_pos c0, if_pos c1, if_pos c2]; simp [c0, c1, c2]
     ·rw [if_pos c0, if_pos c1, if_neg c2]; simp [c2]
    ·rw [if_pos c0, if_neg c1]; simp [c1]
   ·rw [if_neg c0]; simp [c0]
  constructor
  ·intro hp
   refine Ev.succ ?_
   simp only [slices_IndexFunc173_174.l0, h1, h2, if_true, rd_at_T100 hx, hc, Option.bind_some, hp]
   exact Ev.now _
  ·intro hp he
   refine Ev.succ ?_
   simp only [slices_IndexFunc173_174.l0, h1, h2, if_true, rd_at_T100 hx, hc, Option.bind_some, hp, Bool.false_eq_true, if_false, wr1 hj (by omega)]
   exact he
theorem impl_BestValue_ev (l : List S100) (a b t g : Int) (h : l.length ≤ 2097152) : Ev (fun k => impl_BestValue.f k l a b t g) (bestV a b t g l (-1)) := by
 have key : ∀ (d i : Nat) (m : Int), l.length - i = d → i ≤ l.length → Ev (fun k => impl_BestValue.l0 k a b t g m l (l.length : Int) (i : Int)) (bestV a b t g (l.drop i) m) := by
  intro d
  induction d with
  | zero =>
   intro i m hd hi
   obtain rfl : i = l.length := by omega
   refine Ev.succ ?_
   simp only [impl_BestValue.l0, Int.lt_irrefl, if_false, List.drop_length, bestV]
   exact Ev.now _
  | succ d ih =>
   intro i m hd hi
   have hi' : i < l.length := by omega
   have hx : l[i]? = some l[i] := List.getElem?_eq_getElem hi'
   rw [List.drop_eq_getElem_cons hi', bestV]
   generalize l[i] = x at hx ⊢
   have h1 : ((i : Int) < (l.length : Int)) = True := eq_true (by omega)
   have h2 : (0 ≤ (i : Int)) = True := eq_true (by omega)
   have hr := fun m => ih (i + 1) m (by omega) (by omega)
   have h3 := wr1 hi' (show l.length ≤ 9223372036854775807 by omega)
   refine Ev.succ ?_
   simp only [impl_BestValue.l0, h1, h2, if_true, rd_at_T100 hx, impl_HoldsAt_eq, Option.bind_some, h3]
   by_cases c0 : x.f0 = a
   ·by_cases c1 : x.f1 = b
    ·simp only [if_pos c0, if_pos c1]
     cases c2 : holdsB x t g with
     | false =>
      have e : bestP a b t g x = false := by simp [bestP, c2]
      simp only [e, Bool.false_eq_true, if_false]; exact hr _
     | true =>
      have e : bestP a b t g x = true := by simp [bestP, c0, c1, c2]
      simp only [e, if_true]; exact hr _
    ·have e : bestP a b t g x = false := by simp [bestP, c1]
     simp only [if_pos c0, if_neg c1, e, Bool.false_eq_true, if_false]; exact hr _
   ·have e : bestP a b t g x = false := by simp [bestP, c0]
    simp only [if_neg c0, e, Bool.false_eq_true, if_false]; exact hr _
 unfold impl_BestValue.f
 exact Ev.eqv (by rw [List.drop_zero]) (key l.length 0 (-1) (by omega) (by omega))
theorem impl_LeafHolds_ev (l : List S133) (s : List S100) (q : S54) (o a g : Int) (u : List S129) (hl : l.length ≤ 2097152) (h : s.length ≤ 2097152) : Ev (fun k => impl_LeafHolds.f k l s o a g u q.f0 q.f1 q.f2 q.f3 q.f4 q.f5) (leafB l s q o a g) := by
 unfold impl_LeafHolds.f leafB
 by_cases c1 : o = 1
 ·simp only [if_pos c1]; exact Ev.now _
 by_cases c2 : o = 2
 ·simp only [if_neg c1, if_pos c2]; exact Ev.bid (impl_HasRole_ev l s q.f0 a q.f5 g hl h)
 by_cases c3 : o = 3
 ·simp only [if_neg c1, if_neg c2, if_pos c3]
  refine Ev.bind (impl_FindFact_ev s 2 q.f0 q.f1 q.f5 g h) ?_
  rw [idxV_ne]
  exact Ev.now _
 by_cases c4 : o = 4
 ·simp only [if_neg c1, if_neg c2, if_neg c3, if_pos c4]
  exact Ev.bind (impl_BestValue_ev s 3 q.f1 q.f5 g h) (Ev.now _)
 by_cases c5 : o = 5
 ·simp only [if_neg c1, if_neg c2, if_neg c3, if_neg c4, if_pos c5]
  exact Ev.bind (impl_BestValue_ev s 4 q.f2 q.f5 g h) (Ev.now _)
 by_cases c6 : o = 6
 ·simp only [if_neg c1, if_neg c2, if_neg c3, if_neg c4, if_neg c5, if_pos c6]; exact Ev.now _
 ·simp only [if_neg c1, if_neg c2, if_neg c3, if_neg c4, if_neg c5, if_neg c6]; exact Ev.now _
theorem impl_evalWith_ev (l : List S133) (s : List S100) (q : S54) (hl : l.length ≤ 2097152) (hs : s.length ≤ 2097152) (N : Nat) : ∀ x : S129, n129 x ≤ N → vldC x = true → Ev (fun k => impl_evalWith_150.f k x.f0 x.f1 x.f2 x.f3 l s q.f0 q.f1 q.f2 q.f3 q.f4 q.f5) (evC (leafB l s q) x) := by
 induction N using Nat.strongRecOn with
 | _ N ih =>
 intro x hx hv
 obtain ⟨two, three⟩ := vld_parts hv
 rw [evC_f]
 refine Ev.succ ?_
 by_cases c7 : x.f0 = 7
 ·obtain ⟨y, hy, ry, p0, hvy, hn⟩ := two (.inl c7)
  simp only [impl_evalWith_150.f, if_pos c7, p0, if_true, ry]
  refine Ev.bind (ih _ (by omega) y (Nat.le_refl _) hvy) ?_
  rw [getD_map hy]
  exact Ev.now _
 by_cases c8 : x.f0 = 8
 ·obtain ⟨y, hy, ry, p0, hvy, hn⟩ := two (.inr (.inl c8))
  obtain ⟨z, hz, rz, p1, hvz, hn2⟩ := three (.inl c8)
  simp only [impl_evalWith_150.f, if_neg c7, if_pos c8, p0, p1, if_true, ry, rz]
  rw [getD_map hy, getD_map hz]
  refine Ev.bind (ih _ (by omega) y (Nat.le_refl _) hvy) ?_
  cases evC (leafB l s q) y with
  | false => exact Ev.now _
  | true => simp only [if_true, Bool.true_and]; exact Ev.bid (ih _ (by omega) z (Nat.le_refl _) hvz)
 by_cases c9 : x.f0 = 9
 ·obtain ⟨y, hy, ry, p0, hvy, hn⟩ := two (.inr (.inr c9))
  obtain ⟨z, hz, rz, p1, hvz, hn2⟩ := three (.inr c9)
  simp only [impl_evalWith_150.f, if_neg c7, if_neg c8, if_pos c9, p0, p1, if_true, ry, rz]
  rw [getD_map hy, getD_map hz]
  refine Ev.bind (ih _ (by omega) y (Nat.le_refl _) hvy) ?_
  cases evC (leafB l s q) y with
  | true => exact Ev.now _
  | false => simp only [Bool.false_eq_true, if_false, Bool.false_or]; exact Ev.bid (ih _ (by omega) z (Nat.le_refl _) hvz)
 simp only [impl_evalWith_150.f, if_neg c7, if_neg c8, if_neg c9]
 unfold cl150.f
 exact Ev.bid (Ev.bid (impl_LeafHolds_ev l s q x.f0 x.f1 x.f2 x.f3 hl hs))
theorem impl_EvalCond_ev (l : List S133) (s : List S100) (q : S54) (x : S129) (hl : l.length ≤ 2097152) (hs : s.length ≤ 2097152) (hx : n129 x ≤ 2097152) : Ev (fun k => impl_EvalCond.f k l s x.f0 x.f1 x.f2 x.f3 q.f0 q.f1 q.f2 q.f3 q.f4 q.f5) (evalB l s q x) := by
 unfold impl_EvalCond.f evalB
 refine Ev.bind (impl_IsCond_ev x hx) ?_
 cases c : condB x with
 | false => exact Ev.now _
 | true =>
  have hv : vldC x = true := by
   unfold condB at c
   rw [Bool.and_eq_true] at c
   exact c.2
  exact Ev.pos rfl (Ev.bid (impl_evalWith_ev l s q hl hs _ x (Nat.le_refl _) hv))
theorem impl_RulesThatHold_ev (l : List S133) (s : List S100) (q : S54) (n0 : Int) (P : List S131) (hl : l.length ≤ 2097152) (hs : s.length ≤ 2097152) (hP : nPol P ≤ 2097152) : Ev (fun k => impl_RulesThatHold.f k l s n0 P q.f0 q.f1 q.f2 q.f3 q.f4 q.f5) (thatV (rhoB l s q) P 0) := by
 unfold nPol at hP
 have key : ∀ (d i : Nat) (out : List Int), P.length - i = d → i ≤ P.length → out.length ≤ i → Ev (fun k => impl_RulesThatHold.l0 k l s q.f0 q.f1 q.f2 q.f3 q.f4 q.f5 out P (P.length : Int) (i : Int)) (out ++ thatV (rhoB l s q) (P.drop i) (i : Int)) := by
  intro d
  induction d with
  | zero =>
   intro i out hd hi ho
   obtain rfl : i = P.length := by omega
   refine Ev.succ ?_
   simp only [impl_RulesThatHold.l0, Int.lt_irrefl, if_false, List.drop_length, thatV, List.append_nil]
   exact Ev.now _
  | succ d ih =>
   intro i out hd hi ho
   have hi' : i < P.length := by omega
   have hx : P[i]? = some P[i] := List.getElem?_eq_getElem hi'
   rw [List.drop_eq_getElem_cons hi', thatV]
   generalize P[i] = x at hx ⊢
   have hn := le_sum n131 hx
   have hn2 := rule_n x
   have h1 : ((i : Int) < (P.length : Int)) = True := eq_true (by omega)
   have h2 : (0 ≤ (i : Int)) = True := eq_true (by omega)
   have e1 := impl_EvalCond_ev l s q x.f3 hl hs (by omega)
   have v1 := ih (i + 1) out (by omega) (by omega) (by omega)
   have v2 := ih (i + 1) (out ++ [(i : Int)]) (by omega) (by omega) (by rw [List.length_append, List.length_singleton]; omega)
   have hol : (out.length < 17592186044416) = True := eq_true (by omega)
   have h3 := wr1 hi' (show P.length ≤ 9223372036854775807 by omega)
   have h4 : (i : Int) + 1 = ((i + 1 : Nat) : Int) := by omega
   rw [h4, show rhoB l s q x = (forB x q.f3 q.f4 && evalB l s q x.f3) from rfl]
   refine Ev.succ ?_
   simp only [impl_RulesThatHold.l0, h1, h2, if_true, rd_at_T131 hx, impl_IsFor_eq, Option.bind_some, h3]
   cases c : forB x q.f3 q.f4 with
   | false =>
    simp only [Bool.false_eq_true, if_false, Bool.false_and]
    exact v1
   | true =>
    simp only [if_true, Bool.true_and]
    refine Ev.bind e1 ?_
    cases evalB l s q x.f3 with
    | true =>
     simp only [if_true, hol]
     exact Ev.eqv (by rw [List.append_assoc]; rfl) v2
    | false => simp only [Bool.false_eq_true, if_false]; exact v1
 unfold impl_RulesThatHold.f
 exact Ev.eqv (by rw [List.drop_zero, List.nil_append]; rfl) (key P.length 0 [] (by omega) (by omega) (by simp))
theorem impl_decided_ev (n0 : Int) (P : List S131) (L : List Int) (hL : L.length ≤ 2097152) (hy : ∀ y ∈ L, 0 ≤ y ∧ y < (P.length : Int)) : Ev (fun k => impl_decided.f k n0 P L) (decE (L.map fun i => (rd_T131 P i).f0) 0) := by
 have key : ∀ (d i : Nat) (a : Int), L.length - i = d → i ≤ L.length → Ev (fun k => impl_decided.l0 k n0 P a L (L.length : Int) (i : Int)) (decE ((L.drop i).map fun i => (rd_T131 P i).f0) a) := by
  intro d
  induction d with
  | zero =>
   intro i a hd hi
   obtain rfl : i = L.length := by omega
   refine Ev.succ ?_
   simp only [impl_decided.l0, Int.lt_irrefl, if_false, List.drop_length, List.map_nil, decE]
   exact Ev.now _
  | succ d ih =>
   intro i a hd hi
   have hi' : i < L.length := by omega
   have hx : L[i]? = some L[i] := List.getElem?_eq_getElem hi'
   have hb := hy _ (List.getElem_mem hi')
   rw [List.drop_eq_getElem_cons hi', List.map_cons, decE]
   generalize L[i] = y at hx hb ⊢
   have h1 : ((i : Int) < (L.length : Int)) = True := eq_true (by omega)
   have h2 : (0 ≤ (i : Int)) = True := eq_true (by omega)
   have h3 : (0 ≤ y) = True := eq_true (by omega)
   have h4 : (y < (P.length : Int)) = True := eq_true (by omega)
   have h5 := wr1 hi' (show L.length ≤ 9223372036854775807 by omega)
   refine Ev.succ ?_
   simp only [impl_decided.l0, h1, h2, h3, h4, if_true, rd_nat _ _ _ hx, h5]
   by_cases c0 : (rd_T131 P y).f0 = 0
   ·simp only [if_pos c0]; exact Ev.now _
   ·simp only [if_neg c0]
    by_cases c1 : (rd_T131 P y).f0 = 1
    ·simp only [if_pos c1]; exact ih (i + 1) 1 (by omega) (by omega)
    ·simp only [if_neg c1]; exact ih (i + 1) a (by omega) (by omega)
 unfold impl_decided.f
 exact Ev.eqv (by rw [List.drop_zero]) (key L.length 0 0 (by omega) (by omega))
theorem impl_DecideBy_ev (l : List S133) (s : List S100) (v : Int) (P : List S131) (q : S54) (hl : l.length ≤ 2097152) (hs : s.length ≤ 2097152) (hp : nPol P ≤ 2097152) : Ev (fun k => impl_DecideBy.f k l s v P q.f0 q.f1 q.f2 q.f3 q.f4 q.f5) (decV l s v P q) := by
 unfold impl_DecideBy.f decV
 simp only [impl_IsRequest_eq, Option.bind_some]
 cases c : reqB q.f0 q.f1 q.f2 q.f3 q.f4 q.f5 with
 | false => simp only [Bool.false_eq_true, if_false]; exact Ev.now _
 | true =>
  simp only [if_true]
  refine Ev.bind (impl_IsPolicy_ev ⟨v, P⟩ (by unfold n41; unfold nPol at hp; exact hp)) ?_
  unfold polB
  cases c2 : policyB ⟨v, P⟩ with
  | false => simp only [Bool.false_eq_true, if_false]; exact Ev.now _
  | true =>
   simp only [if_true]
   have hlen : P.length ≤ 2097152 := by unfold nPol at hp; omega
   have hL := thatV_len (rhoB l s q) P 0
   refine Ev.bind (impl_RulesThatHold_ev l s q v P hl hs hp) ?_
   exact Ev.bind (impl_decided_ev v P (thatV (rhoB l s q) P 0) (by omega) fun y hy => by
    have := thatV_in (rhoB l s q) P 0 y hy; omega) (Ev.now _)
theorem impl_DecisionUntil_ev (l : List S133) (s : List S100) (v : Int) (P : List S131) (q : S54) (most : Int) (hl : l.length ≤ 2097152) (hs : s.length ≤ 2097152) (hp : nPol P ≤ 2097152) : Ev (fun k => impl_DecisionUntil.f k l s v P q.f0 q.f1 q.f2 q.f3 q.f4 q.f5 most) (untilV l s v P q most) := by
 unfold impl_DecisionUntil.f untilV
 simp only [impl_IsRequest_eq, Option.bind_some]
 cases c : reqB q.f0 q.f1 q.f2 q.f3 q.f4 q.f5 with
 | false => simp only [Bool.false_eq_true, if_false]; exact Ev.now _
 | true =>
  have ht : 0 ≤ q.f5 ∧ q.f5 ≤ 10000 := by
   unfold reqB at c
   simp only [Bool.and_eq_true] at c
   exact timeAt c.2.2.2.2.2
  simp only [if_true]
  refine Ev.bind (impl_IsPolicy_ev ⟨v, P⟩ (by unfold n41; unfold nPol at hp; exact hp)) ?_
  cases c2 : policyB ⟨v, P⟩ with
  | false => simp only [Bool.false_eq_true, if_false]; exact Ev.now _
  | true =>
   simp only [if_true, impl_InRange_eq, Option.bind_some]
   cases c3 : inB most 0 60 with
   | false => simp only [Bool.false_eq_true, if_false]; exact Ev.now _
   | true =>
    have hm := inB_iff.1 c3
    have hw : wrap64 (q.f5 + most) = q.f5 + most := wr (by omega) (by omega)
    simp only [if_true]
    refine Ev.bind (impl_DecideBy_ev l s v P q hl hs hp) ?_
    have key : ∀ (n : Nat) (t : Int), q.f5 + most - t ≤ (n : Int) → 0 ≤ t → t ≤ 10000 → Ev (fun k => impl_DecisionUntil.l0 k l s most v P q.f0 q.f1 q.f2 q.f3 q.f4 q.f5 t (decV l s v P q)) (untilL l s v P q (q.f5 + most) n t) := by
     intro n
     induction n with
     | zero =>
      intro t hd h0 h1
      refine Ev.succ ?_
      simp only [impl_DecisionUntil.l0, hw, untilL]
      refine Ev.neg (by split <;> omega) (Ev.now _)
     | succ n ih =>
      intro t hd h0 h1
      refine Ev.succ ?_
      unfold untilL
      by_cases c4 : t < q.f5 + most ∧ t < 10000
      ·have hw2 : wrap64 (t + 1) = t + 1 := wr (by omega) (by omega)
       rw [if_pos c4]
       simp only [impl_DecisionUntil.l0, hw, impl_AtTime.f, Option.bind_some, hw2]
       refine Ev.pos (by split <;> omega) ?_
       refine Ev.bind (impl_DecideBy_ev l s v P (atT q (t + 1)) hl hs hp) ?_
       by_cases c5 : decV l s v P (atT q (t + 1)) = decV l s v P q
       ·rw [if_pos c5]; exact Ev.pos c5 (ih (t + 1) (by omega) (by omega) (by omega))
       ·rw [if_neg c5]; exact Ev.neg c5 (Ev.now _)
      ·rw [if_neg c4]
       simp only [impl_DecisionUntil.l0, hw]
       refine Ev.neg (by split <;> omega) (Ev.now _)
    exact key 60 q.f5 (by omega) ht.1 ht.2
theorem impl_SaveDecision_ev (l : List S133) (s : List S100) (v : Int) (P : List S131) (q : S54) (most : Int) (hl : l.length ≤ 2097152) (hs : s.length ≤ 2097152) (hp : nPol P ≤ 2097152) : Ev (fun k => impl_SaveDecision.f k l s v P q.f0 q.f1 q.f2 q.f3 q.f4 q.f5 most) (q.f0, q.f1, q.f2, q.f3, q.f4, q.f5, (saveV l s v P q most).f1, (saveV l s v P q most).f2) := by
 unfold impl_SaveDecision.f
 exact Ev.bind (impl_DecideBy_ev l s v P q hl hs hp) (Ev.bind (impl_DecisionUntil_ev l s v P q most hl hs hp) (Ev.now _))
theorem impl_PutSaved_ev (l : List S70) (x : S70) (h : l.length ≤ 2097152) : Ev (fun k => impl_PutSaved.f k l x.f0.f0 x.f0.f1 x.f0.f2 x.f0.f3 x.f0.f4 x.f0.f5 x.f1 x.f2) (putV l x) := by
 unfold impl_PutSaved.f putV
 refine ev_fold l (putStep x) (putEnd x) (fun i s => s.length ≤ i) (fun k s i => impl_PutSaved.l0 k x.f0.f0 x.f0.f1 x.f0.f2 x.f0.f3 x.f0.f4 x.f0.f5 x.f1 x.f2 s l (l.length : Int) i) ?_ ?_ ?_ [] (by simp)
 ·intro s hs
  have h3 : (s.length < 2199023255552) = True := eq_true (by have : s.length ≤ l.length := hs; omega)
  refine Ev.succ ?_
  have e : ∀ (y : S70), (⟨⟨y.f0.f0, y.f0.f1, y.f0.f2, y.f0.f3, y.f0.f4, y.f0.f5⟩, y.f1, y.f2⟩ : S70) = y := fun _ => rfl
  simp only [impl_PutSaved.l0, Int.lt_irrefl, if_false, h3, if_true, Option.bind_some, putEnd, e]
  by_cases c : ((s ++ [x]).length : Int) > 8
  ·have c1 : 1 ≤ ((s ++ [x]).length : Int) := by omega
   simp only [if_pos c, if_pos c1]
   exact Ev.now _
  ·simp only [if_neg c]
   exact Ev.now _
 ·intro i y s hx hs
  have := putStep_length x s y
  show (putStep x s y).length ≤ i + 1
  omega
 ·intro i y s r hx hs hr
  have hi := lt_of_get hx
  have hs' : s.length ≤ i := hs
  have h1 : ((i : Int) < (l.length : Int)) = True := eq_true (by omega)
  have h2 : (0 ≤ (i : Int)) = True := eq_true (by omega)
  have h3 : (s.length < 2199023255552) = True := eq_true (by omega)
  refine Ev.succ ?_
  simp only [impl_PutSaved.l0, h1, h2, h3, if_true, rd_at_T70 hx, wr1 hi (by omega), impl_SameQuestion_eq y.f0 x.f0, Option.bind_some]
  unfold putStep at hr
  by_cases c : sameQ y.f0 x.f0 = true
  ·simp only [if_pos c] at hr ⊢; exact hr
  ·simp only [if_neg c] at hr ⊢; exact hr
theorem impl_AskPoint_ev (p : S48) (s : Int) (x : S52) (q : S54) (h : n48 p ≤ 2097152) : Ev (fun k => impl_AskPoint.f k p.f0 p.f1.f0 p.f1.f1 p.f1.f2 p.f1.f3.f0 p.f1.f3.f1 p.f2 p.f3 p.f4 p.f5 s x.f0 x.f1 x.f2 x.f3 x.f4 x.f5 q.f0 q.f1 q.f2 q.f3 q.f4 q.f5) ((askV p s x q).1.f0, (askV p s x q).1.f1.f0, (askV p s x q).1.f1.f1, (askV p s x q).1.f1.f2, (askV p s x q).1.f1.f3.f0, (askV p s x q).1.f1.f3.f1, (askV p s x q).1.f2, (askV p s x q).1.f3, (askV p s x q).1.f4, (askV p s x q).1.f5, (askV p s x q).2) := by
 obtain ⟨h1, hl, hp, h2, h3, h5⟩ := ptN h
 unfold impl_AskPoint.f askV askG
 refine Ev.bind (impl_copyPoint_ev p h) ?_
 simp only [impl_IsRequest_eq, Option.bind_some]
 by_cases c1 : reqB q.f0 q.f1 q.f2 q.f3 q.f4 q.f5 = true
 ·simp only [if_pos c1, c1, Bool.true_and]
  refine Ev.bind (impl_CheckCert_ev s x q.f5) ?_
  by_cases c2 : chkB s x q.f5 = true
  ·simp only [if_pos c2, c2, Bool.true_and, decide_eq_true_eq]
   by_cases c3 : x.f1 = q.f1
   ·simp only [if_pos c3, impl_IsCurrent_eq, Option.bind_some]
    by_cases c4 : freshV p.f4 q.f5 10 = true
    ·simp only [if_pos c4]
     refine Ev.bind (impl_IsRevoked_ev p.f3 x.f0 q.f5 h3) ?_
     by_cases c5 : inB (revAt p.f3 x.f0) 0 q.f5 = true
     ·simp only [if_pos c5]; exact Ev.now _
     ·simp only [if_neg c5]
      refine Ev.bind (impl_FindSaved_ev p.f5 q h5) ?_
      by_cases c6 : idxV (savedP q) p.f5 0 ≥ 0
      ·simp only [if_pos c6]
       have := (idxV_in _ p.f5 (show ¬ idxV (savedP q) p.f5 0 < 0 by omega)).2
       exact Ev.pos (by omega) (Ev.now _)
      ·simp only [if_neg c6]
       refine Ev.bind (impl_SaveDecision_ev p.f1.f2 p.f2 p.f1.f3.f0 p.f1.f3.f1 q 10 hl h2 hp) ?_
       exact Ev.bind (impl_PutSaved_ev p.f5 (ptSave p q) h5) (Ev.now _)
    ·simp only [if_neg c4]; exact Ev.now _
   ·simp only [if_neg c3]; exact Ev.now _
  ·simp only [if_neg c2, eq_false_of_ne_true c2, Bool.false_and, Bool.false_eq_true, if_false]; exact Ev.now _
 ·simp only [if_neg c1, eq_false_of_ne_true c1, Bool.false_and, Bool.false_eq_true, if_false]; exact Ev.now _
theorem laws_eqIncludes_refl (x : S133) : laws_eqIncludes.f x.f0 x.f1 x.f0 x.f1 = some true := by
 unfold laws_eqIncludes.f
 simp
theorem laws_eqIncludesS_refl (l : List (S133)) (h : l.length ≤ 2097152) : Ev (fun k => laws_eqIncludesS.f k l l) true := by
 unfold laws_eqIncludesS.f
 refine Ev.pos rfl ?_
 refine ev_walk l (fun k i => laws_eqIncludesS.l0 k l l i) true ?_ ?_
 ·refine Ev.succ ?_
  simp only [laws_eqIncludesS.l0, Int.lt_irrefl, if_false]
  exact Ev.now _
 ·intro i x hx hr
  have hi := lt_of_get hx
  have h1 : ((i : Int) < (l.length : Int)) = True := eq_true (by omega)
  have h2 : (0 ≤ (i : Int)) = True := eq_true (by omega)
  refine Ev.succ ?_
  simp only [laws_eqIncludesS.l0, h1, h2, if_true, rd_at_T133 hx, wr1 hi (by omega), laws_eqIncludes_refl x, Option.bind_some]
  exact hr
theorem laws_eqCondS_reflN (N : Nat) : ∀ l : List S129, l.length + (l.map n129).sum ≤ N → N ≤ 2097152 → Ev (fun k => laws_eqCondS.f k l l) true := by
 induction N using Nat.strongRecOn with
 | _ N ih =>
 intro l h hN
 refine Ev.succ ?_
 simp only [laws_eqCondS.f]
 refine Ev.pos (by first | trivial | rfl) ?_
 refine ev_walk l (fun k i => laws_eqCondS.l0 k l l i) true ?_ ?_
 ·refine Ev.succ ?_
  simp only [laws_eqCondS.l0, Int.lt_irrefl, if_false]
  exact Ev.now _
 ·intro i x hx hr
  have hi := lt_of_get hx
  have h1 : ((i : Int) < (l.length : Int)) = True := eq_true (by omega)
  have h2 : (0 ≤ (i : Int)) = True := eq_true (by omega)
  have hn := le_sum n129 hx
  rw [n129_f] at hn
  have e := ih (x.f3.length + (x.f3.map n129).sum) (by omega) x.f3 (Nat.le_refl _) (by omega)
  have e' : Ev (fun k => laws_eqCond.f k x.f0 x.f1 x.f2 x.f3 x.f0 x.f1 x.f2 x.f3) true := by
   refine Ev.succ ?_
   simp only [laws_eqCond.f, if_true]
   refine Ev.bind e ?_
   simp only [if_true]
   exact Ev.now _
  refine Ev.succ ?_
  simp only [laws_eqCondS.l0, h1, h2, if_true, rd_at_T129 hx, wr1 hi (by omega)]
  refine Ev.bind e' ?_
  simp only [if_true]
  exact hr
theorem laws_eqCondS_refl (l : List S129) (h : l.length + (l.map n129).sum ≤ 2097152) : Ev (fun k => laws_eqCondS.f k l l) true := laws_eqCondS_reflN _ l (Nat.le_refl _) h
theorem laws_eqCond_refl (x : S129) (h : n129 x ≤ 2097152) : Ev (fun k => laws_eqCond.f k x.f0 x.f1 x.f2 x.f3 x.f0 x.f1 x.f2 x.f3) true := by
 rw [n129_f] at h
 refine Ev.succ ?_
 simp only [laws_eqCond.f, if_true]
 refine Ev.bind (laws_eqCondS_refl x.f3 h) ?_
 simp only [if_true]
 exact Ev.now _
theorem laws_eqRule_refl (x : S131) (h : n131 x ≤ 2097152) : Ev (fun k => laws_eqRule.f k x.f0 x.f1 x.f2 x.f3.f0 x.f3.f1 x.f3.f2 x.f3.f3 x.f0 x.f1 x.f2 x.f3.f0 x.f3.f1 x.f3.f2 x.f3.f3) true := by
 unfold n131 at h
 unfold laws_eqRule.f
 simp only [if_true, bne_self_eq_false, Bool.false_eq_true, if_false]
 repeat (first | exact Ev.now _ | (refine Ev.bind (laws_eqCond_refl _ (by omega)) ?_; simp only [if_true, bne_self_eq_false, Bool.false_eq_true, if_false]))
theorem laws_eqRuleS_refl (l : List (S131)) (h : l.length + (l.map n131).sum ≤ 2097152) : Ev (fun k => laws_eqRuleS.f k l l) true := by
 unfold laws_eqRuleS.f
 refine Ev.pos rfl ?_
 refine ev_walk l (fun k i => laws_eqRuleS.l0 k l l i) true ?_ ?_
 ·refine Ev.succ ?_
  simp only [laws_eqRuleS.l0, Int.lt_irrefl, if_false]
  exact Ev.now _
 ·intro i x hx hr
  have hi := lt_of_get hx
  have h1 : ((i : Int) < (l.length : Int)) = True := eq_true (by omega)
  have h2 : (0 ≤ (i : Int)) = True := eq_true (by omega)
  refine Ev.succ ?_
  simp only [laws_eqRuleS.l0, h1, h2, if_true, rd_at_T131 hx, wr1 hi (by omega)]
  refine Ev.bind (laws_eqRule_refl x (by have := le_sum n131 hx; omega)) ?_
  simp only [if_true]
  exact hr
theorem laws_eqPolicy_refl (x : S41) (h : n41 x ≤ 2097152) : Ev (fun k => laws_eqPolicy.f k x.f0 x.f1 x.f0 x.f1) true := by
 unfold n41 at h
 unfold laws_eqPolicy.f
 simp only [if_true, bne_self_eq_false, Bool.false_eq_true, if_false]
 repeat (first | exact Ev.now _ | (refine Ev.bind (laws_eqRuleS_refl _ (by omega)) ?_; simp only [if_true, bne_self_eq_false, Bool.false_eq_true, if_false]))
theorem laws_eqEpoch_refl (x : S43) (h : n43 x ≤ 2097152) : Ev (fun k => laws_eqEpoch.f k x.f0 x.f1 x.f2 x.f3.f0 x.f3.f1 x.f0 x.f1 x.f2 x.f3.f0 x.f3.f1) true := by
 unfold n43 at h
 unfold laws_eqEpoch.f
 simp only [if_true, bne_self_eq_false, Bool.false_eq_true, if_false]
 repeat (first | exact Ev.now _ | (refine Ev.bind (laws_eqIncludesS_refl _ (by omega)) ?_; simp only [if_true, bne_self_eq_false, Bool.false_eq_true, if_false]) | (refine Ev.bind (laws_eqPolicy_refl _ (by omega)) ?_; simp only [if_true, bne_self_eq_false, Bool.false_eq_true, if_false]))
theorem laws_eqFact_refl (x : S100) : laws_eqFact.f x.f0 x.f1 x.f2 x.f3 x.f4 x.f5 x.f0 x.f1 x.f2 x.f3 x.f4 x.f5 = some true := by
 unfold laws_eqFact.f
 simp
theorem laws_eqFactS_refl (l : List (S100)) (h : l.length ≤ 2097152) : Ev (fun k => laws_eqFactS.f k l l) true := by
 unfold laws_eqFactS.f
 refine Ev.pos rfl ?_
 refine ev_walk l (fun k i => laws_eqFactS.l0 k l l i) true ?_ ?_
 ·refine Ev.succ ?_
  simp only [laws_eqFactS.l0, Int.lt_irrefl, if_false]
  exact Ev.now _
 ·intro i x hx hr
  have hi := lt_of_get hx
  have h1 : ((i : Int) < (l.length : Int)) = True := eq_true (by omega)
  have h2 : (0 ≤ (i : Int)) = True := eq_true (by omega)
  refine Ev.succ ?_
  simp only [laws_eqFactS.l0, h1, h2, if_true, rd_at_T100 hx, wr1 hi (by omega), laws_eqFact_refl x, Option.bind_some]
  exact hr
theorem laws_eqRevoked_refl (x : S104) : laws_eqRevoked.f x.f0 x.f1 x.f0 x.f1 = some true := by
 unfold laws_eqRevoked.f
 simp
theorem laws_eqRevokedS_refl (l : List (S104)) (h : l.length ≤ 2097152) : Ev (fun k => laws_eqRevokedS.f k l l) true := by
 unfold laws_eqRevokedS.f
 refine Ev.pos rfl ?_
 refine ev_walk l (fun k i => laws_eqRevokedS.l0 k l l i) true ?_ ?_
 ·refine Ev.succ ?_
  simp only [laws_eqRevokedS.l0, Int.lt_irrefl, if_false]
  exact Ev.now _
 ·intro i x hx hr
  have hi := lt_of_get hx
  have h1 : ((i : Int) < (l.length : Int)) = True := eq_true (by omega)
  have h2 : (0 ≤ (i : Int)) = True := eq_true (by omega)
  refine Ev.succ ?_
  simp only [laws_eqRevokedS.l0, h1, h2, if_true, rd_at_T104 hx, wr1 hi (by omega), laws_eqRevoked_refl x, Option.bind_some]
  exact hr
theorem laws_eqRequest_refl (x : S54) : laws_eqRequest.f x.f0 x.f1 x.f2 x.f3 x.f4 x.f5 x.f0 x.f1 x.f2 x.f3 x.f4 x.f5 = some true := by
 unfold laws_eqRequest.f
 simp
theorem laws_eqSaved_refl (x : S70) : laws_eqSaved.f x.f0.f0 x.f0.f1 x.f0.f2 x.f0.f3 x.f0.f4 x.f0.f5 x.f1 x.f2 x.f0.f0 x.f0.f1 x.f0.f2 x.f0.f3 x.f0.f4 x.f0.f5 x.f1 x.f2 = some true := by
 unfold laws_eqSaved.f
 simp [laws_eqRequest_refl]
theorem laws_eqSavedS_refl (l : List (S70)) (h : l.length ≤ 2097152) : Ev (fun k => laws_eqSavedS.f k l l) true := by
 unfold laws_eqSavedS.f
 refine Ev.pos rfl ?_
 refine ev_walk l (fun k i => laws_eqSavedS.l0 k l l i) true ?_ ?_
 ·refine Ev.succ ?_
  simp only [laws_eqSavedS.l0, Int.lt_irrefl, if_false]
  exact Ev.now _
 ·intro i x hx hr
  have hi := lt_of_get hx
  have h1 : ((i : Int) < (l.length : Int)) = True := eq_true (by omega)
  have h2 : (0 ≤ (i : Int)) = True := eq_true (by omega)
  refine Ev.succ ?_
  simp only [laws_eqSavedS.l0, h1, h2, if_true, rd_at_T70 hx, wr1 hi (by omega), laws_eqSaved_refl x, Option.bind_some]
  exact hr
theorem laws_eqPoint_refl (x : S48) (h : n48 x ≤ 2097152) : Ev (fun k => laws_eqPoint.f k x.f0 x.f1.f0 x.f1.f1 x.f1.f2 x.f1.f3.f0 x.f1.f3.f1 x.f2 x.f3 x.f4 x.f5 x.f0 x.f1.f0 x.f1.f1 x.f1.f2 x.f1.f3.f0 x.f1.f3.f1 x.f2 x.f3 x.f4 x.f5) true := by
 unfold n48 at h
 unfold laws_eqPoint.f
 simp only [if_true, bne_self_eq_false, Bool.false_eq_true, if_false]
 repeat (first | exact Ev.now _ | (refine Ev.bind (laws_eqEpoch_refl _ (by omega)) ?_; simp only [if_true, bne_self_eq_false, Bool.false_eq_true, if_false]) | (refine Ev.bind (laws_eqFactS_refl _ (by omega)) ?_; simp only [if_true, bne_self_eq_false, Bool.false_eq_true, if_false]) | (refine Ev.bind (laws_eqRevokedS_refl _ (by omega)) ?_; simp only [if_true, bne_self_eq_false, Bool.false_eq_true, if_false]) | (refine Ev.bind (laws_eqSavedS_refl _ (by omega)) ?_; simp only [if_true, bne_self_eq_false, Bool.false_eq_true, if_false]))
def ct133 (x : S133) : Nat := 2
def mk133 (x : S133) (n : Int) : S133 × Int := ((⟨n, n + 1⟩ : S133), n + 1 + 1)
theorem mk133_up (x : S133) (n : Int) : (mk133 x n).2 = n + (ct133 x : Nat) := by
 simp only [mk133, ct133]
 omega
theorem ct133_bd (x : S133) : ct133 x ≤ 8 := by simp only [ct133]; omega
theorem rds_T133 {l : List S133} {i : Nat} {v : S133} (h : i < l.length) : rd_T133 (l.set i v) (i : Int) = v := rd_at_T133 (List.getElem?_set_self h)
theorem laws_markIncludesS_ev (l : List S133) (h : l.length ≤ 2097152) (n : Int) (h0 : 0 ≤ n) (hB : n + ((l.map ct133).sum : Nat) ≤ 4611686018427387904) : Ev (fun k => laws_markIncludesS.f k l n) (n + ((l.map ct133).sum : Nat), (acc mk133 l n).1) := by
 unfold laws_markIncludesS.f
 refine Ev.eqv (by rw [acc_up mk133 ct133 mk133_up]) (ev_markB mk133 ct133 4611686018427387904 mk133_up (fun k l n i => laws_markIncludesS.l0 k l n i) l ?_ ?_ n h0 hB)
 ·intro l' n hl
  refine Ev.succ ?_
  simp only [laws_markIncludesS.l0, hl, Int.lt_irrefl, if_false]
  exact Ev.now _
 ·intro l' i x n r hl hm hx h0 hc hr
  have hi := lt_of_get hx
  have h1 : ((i : Int) < (l'.length : Int)) = True := eq_true (by omega)
  have h2 : (0 ≤ (i : Int)) = True := eq_true (by omega)
  simp only [ct133] at hc
  have e0 : wrap64 (n + 1) = n + 1 := wr (by omega) (by omega)
  have e1 : wrap64 (n + 1 + 1) = n + 1 + 1 := wr (by omega) (by omega)
  simp only [mk133] at hr
  refine Ev.succ ?_
  simp only [laws_markIncludesS.l0, h1, h2, if_true, Option.bind_some, List.length_set, List.set_set, Int.toNat_natCast, wr1 hi (by omega), rd_at_T133 hx, rds_T133 hi, e0, e1]
  exact hr
mutual
def mk129 : S129 → Int → S129 × Int
 | ⟨_, _, _, l⟩, n => (⟨n, n + 1, n + 1 + 1, (mkL129 l (n + 1 + 1 + 1)).1⟩, n + 1 + 1 + 1 + (ctL129 l : Nat))
def mkL129 : List S129 → Int → List S129 × Int
 | [], n => ([], n)
 | x :: l, n => ((mk129 x n).1 :: (mkL129 l (mk129 x n).2).1, (mkL129 l (mk129 x n).2).2)
def ct129 : S129 → Nat
 | ⟨_, _, _, l⟩ => 3 + ctL129 l
def ctL129 : List S129 → Nat
 | [] => 0
 | x :: l => ct129 x + ctL129 l
end
theorem ctL_eq : ∀ l : List S129, ctL129 l = (l.map ct129).sum
 | [] => by simp [ctL129]
 | x :: l => by simp [ctL129, ctL_eq l]
theorem mkL_eq : ∀ (l : List S129) (n : Int), mkL129 l n = acc mk129 l n
 | [], n => by simp [mkL129, acc]
 | x :: l, n => by simp only [mkL129, acc, mkL_eq l]
theorem ctC_f (x : S129) : ct129 x = 3 + (x.f3.map ct129).sum := by
 cases x
 simp only [ct129, ctL_eq]
theorem mkC_f (x : S129) (n : Int) : mk129 x n = (⟨n, n + 1, n + 1 + 1, (acc mk129 x.f3 (n + 1 + 1 + 1)).1⟩, n + 1 + 1 + 1 + ((x.f3.map ct129).sum : Nat)) := by
 cases x
 simp only [mk129, mkL_eq, ctL_eq]
theorem mk129_up (x : S129) (n : Int) : (mk129 x n).2 = n + (ct129 x : Nat) := by
 rw [mkC_f, ctC_f]
 simp only []
 omega
theorem ctC_bdN (N : Nat) : ∀ x : S129, n129 x ≤ N → ct129 x ≤ 8 + 8 * n129 x := by
 induction N using Nat.strongRecOn with
 | _ N ih =>
 intro x h
 rw [ctC_f]
 rw [n129_f] at h ⊢
 have key : ∀ l : List S129, (∀ y ∈ l, ct129 y ≤ 8 + 8 * n129 y) → (l.map ct129).sum ≤ 8 * (l.length + (l.map n129).sum) := by
  intro l
  induction l with
  | nil => simp
  | cons y l ihl =>
   intro hl
   have h1 := hl y List.mem_cons_self
   have h2 := ihl fun z hz => hl z (List.mem_cons_of_mem _ hz)
   simp only [List.map_cons, List.sum_cons, List.length_cons]
   omega
 have := key x.f3 fun y hy => by
  obtain ⟨j, hj⟩ := List.getElem?_of_mem hy
  have h1 := le_sum n129 hj
  have h2 := lt_of_get hj
  exact ih (n129 y) (by omega) y (Nat.le_refl _)
 omega
theorem ct129_bd (x : S129) : ct129 x ≤ 8 + 8 * n129 x := ctC_bdN _ x (Nat.le_refl _)
theorem rds_T129 {l : List S129} {i : Nat} {v : S129} (h : i < l.length) : rd_T129 (l.set i v) (i : Int) = v := rd_at_T129 (List.getElem?_set_self h)
theorem laws_markCondS_evN (N : Nat) : ∀ (l : List S129) (n : Int), l.length + (l.map n129).sum ≤ N → N ≤ 2097152 → 0 ≤ n → n + ((l.map ct129).sum : Nat) ≤ 4611686018427387904 → Ev (fun k => laws_markCondS.f k l n) (n + ((l.map ct129).sum : Nat), (acc mk129 l n).1) := by
 induction N using Nat.strongRecOn with
 | _ N ih =>
 intro l n h hN h0 hB
 refine Ev.succ ?_
 simp only [laws_markCondS.f]
 refine Ev.eqv (by rw [acc_up mk129 ct129 mk129_up]) (ev_markB mk129 ct129 4611686018427387904 mk129_up (fun k l n i => laws_markCondS.l0 k l n i) l ?_ ?_ n h0 hB)
 ·intro l' n hl
  refine Ev.succ ?_
  simp only [laws_markCondS.l0, hl, Int.lt_irrefl, if_false]
  exact Ev.now _
 ·intro l' i x n r hl hm hx h0 hc hr
  have hi := lt_of_get hx
  have h1 : ((i : Int) < (l'.length : Int)) = True := eq_true (by omega)
  have h2 : (0 ≤ (i : Int)) = True := eq_true (by omega)
  rw [ctC_f] at hc
  obtain ⟨jm, hjm⟩ := List.getElem?_of_mem hm
  have hn := le_sum n129 hjm
  have hlt := lt_of_get hjm
  rw [n129_f] at hn
  have e0 : wrap64 (n + 1) = n + 1 := wr (by omega) (by omega)
  have e1 : wrap64 (n + 1 + 1) = n + 1 + 1 := wr (by omega) (by omega)
  have e2 : wrap64 (n + 1 + 1 + 1) = n + 1 + 1 + 1 := wr (by omega) (by omega)
  rw [mkC_f] at hr
  refine Ev.succ ?_
  simp only [laws_markCondS.l0, h1, h2, if_true, Option.bind_some, List.length_set, List.set_set, Int.toNat_natCast, wr1 hi (by omega), rd_at_T129 hx, rds_T129 hi, e0, e1, e2]
  refine Ev.bind (ih (x.f3.length + (x.f3.map n129).sum) (by omega) x.f3 (n + 1 + 1 + 1) (Nat.le_refl _) (by omega) (by omega) (by omega)) ?_
  exact hr
theorem laws_markCondS_ev (l : List S129) (h : l.length + (l.map n129).sum ≤ 2097152) (n : Int) (h0 : 0 ≤ n) (hB : n + ((l.map ct129).sum : Nat) ≤ 4611686018427387904) : Ev (fun k => laws_markCondS.f k l n) (n + ((l.map ct129).sum : Nat), (acc mk129 l n).1) := laws_markCondS_evN _ l n (Nat.le_refl _) h h0 hB
def ct131 (x : S131) : Nat := 6 + (x.f3.f3.map ct129).sum
def mk131 (x : S131) (n : Int) : S131 × Int := ((⟨n, n + 1, n + 1 + 1, (⟨n + 1 + 1 + 1, n + 1 + 1 + 1 + 1, n + 1 + 1 + 1 + 1 + 1, (acc mk129 x.f3.f3 (n + 1 + 1 + 1 + 1 + 1 + 1)).1⟩ : S129)⟩ : S131), n + 1 + 1 + 1 + 1 + 1 + 1 + ((x.f3.f3.map ct129).sum : Nat))
theorem mk131_up (x : S131) (n : Int) : (mk131 x n).2 = n + (ct131 x : Nat) := by
 simp only [mk131, ct131]
 omega
theorem ct131_bd (x : S131) : ct131 x ≤ 8 + 8 * n131 x := by
 have b0 := sum_ct ct129 x.f3.f3 ct129_bd
 simp only [ct131, n131, n129_f]
 omega
theorem rds_T131 {l : List S131} {i : Nat} {v : S131} (h : i < l.length) : rd_T131 (l.set i v) (i : Int) = v := rd_at_T131 (List.getElem?_set_self h)
theorem laws_markRuleS_ev (l : List S131) (h : l.length + (l.map n131).sum ≤ 2097152) (n : Int) (h0 : 0 ≤ n) (hB : n + ((l.map ct131).sum : Nat) ≤ 4611686018427387904) : Ev (fun k => laws_markRuleS.f k l n) (n + ((l.map ct131).sum : Nat), (acc mk131 l n).1) := by
 unfold laws_markRuleS.f
 refine Ev.eqv (by rw [acc_up mk131 ct131 mk131_up]) (ev_markB mk131 ct131 4611686018427387904 mk131_up (fun k l n i => laws_markRuleS.l0 k l n i) l ?_ ?_ n h0 hB)
 ·intro l' n hl
  refine Ev.succ ?_
  simp only [laws_markRuleS.l0, hl, Int.lt_irrefl, if_false]
  exact Ev.now _
 ·intro l' i x n r hl hm hx h0 hc hr
  have hi := lt_of_get hx
  have h1 : ((i : Int) < (l'.length : Int)) = True := eq_true (by omega)
  have h2 : (0 ≤ (i : Int)) = True := eq_true (by omega)
  simp only [ct131] at hc
  obtain ⟨jm, hjm⟩ := List.getElem?_of_mem hm
  have hn := le_sum n131 hjm
  simp only [n131, n129_f] at hn
  have e0 : wrap64 (n + 1) = n + 1 := wr (by omega) (by omega)
  have e1 : wrap64 (n + 1 + 1) = n + 1 + 1 := wr (by omega) (by omega)
  have e2 : wrap64 (n + 1 + 1 + 1) = n + 1 + 1 + 1 := wr (by omega) (by omega)
  have e3 : wrap64 (n + 1 + 1 + 1 + 1) = n + 1 + 1 + 1 + 1 := wr (by omega) (by omega)
  have e4 : wrap64 (n + 1 + 1 + 1 + 1 + 1) = n + 1 + 1 + 1 + 1 + 1 := wr (by omega) (by omega)
  have e5 : wrap64 (n + 1 + 1 + 1 + 1 + 1 + 1) = n + 1 + 1 + 1 + 1 + 1 + 1 := wr (by omega) (by omega)
  simp only [mk131] at hr
  refine Ev.succ ?_
  simp only [laws_markRuleS.l0, h1, h2, if_true, Option.bind_some, List.length_set, List.set_set, Int.toNat_natCast, wr1 hi (by omega), rd_at_T131 hx, rds_T131 hi, e0, e1, e2, e3, e4, e5]
  refine Ev.bind (laws_markCondS_ev x.f3.f3 (by omega) (n + 1 + 1 + 1 + 1 + 1 + 1) (by omega) (by omega)) ?_
  (try simp only [h1, h2, if_true, Option.bind_some, List.length_set, List.set_set, Int.toNat_natCast, wr1 hi (by omega), rd_at_T131 hx, rds_T131 hi, e0, e1, e2, e3, e4, e5])
  exact hr
theorem laws_markPolicy_ev (v : Int) (l : List S131) (h : l.length + (l.map n131).sum ≤ 2097152) (n : Int) (h0 : 0 ≤ n) (hB : n + ((l.map ct131).sum : Nat) ≤ 4611686018427387904) : Ev (fun k => laws_markPolicy.f k v l n) (n + ((l.map ct131).sum : Nat), (acc mk131 l n).1) := by
 unfold laws_markPolicy.f
 exact Ev.bind (laws_markRuleS_ev l h n h0 hB) (Ev.now _)
theorem laws_markEpoch_ev (x : S43) (h2 : x.f2.length ≤ 2097152) (h3 : x.f3.f1.length + (x.f3.f1.map n131).sum ≤ 2097152) (n : Int) (h0 : 0 ≤ n) (hB : n + ((x.f2.map ct133).sum : Nat) + ((x.f3.f1.map ct131).sum : Nat) ≤ 4611686018427387904) : Ev (fun k => laws_markEpoch.f k x.f0 x.f1 x.f2 x.f3.f0 x.f3.f1 n) (n + ((x.f2.map ct133).sum : Nat) + ((x.f3.f1.map ct131).sum : Nat), (acc mk133 x.f2 n).1, (acc mk131 x.f3.f1 (n + ((x.f2.map ct133).sum : Nat))).1) := by
 unfold laws_markEpoch.f
 refine Ev.bind (laws_markIncludesS_ev x.f2 h2 n h0 (by omega)) ?_
 exact Ev.bind (laws_markPolicy_ev x.f3.f0 x.f3.f1 h3 (n + ((x.f2.map ct133).sum : Nat)) (by omega) hB) (Ev.now _)
def ct100 (x : S100) : Nat := 6
def mk100 (x : S100) (n : Int) : S100 × Int := ((⟨n, n + 1, n + 1 + 1, n + 1 + 1 + 1, n + 1 + 1 + 1 + 1, n + 1 + 1 + 1 + 1 + 1⟩ : S100), n + 1 + 1 + 1 + 1 + 1 + 1)
theorem mk100_up (x : S100) (n : Int) : (mk100 x n).2 = n + (ct100 x : Nat) := by
 simp only [mk100, ct100]
 omega
theorem ct100_bd (x : S100) : ct100 x ≤ 8 := by simp only [ct100]; omega
theorem rds_T100 {l : List S100} {i : Nat} {v : S100} (h : i < l.length) : rd_T100 (l.set i v) (i : Int) = v := rd_at_T100 (List.getElem?_set_self h)
theorem laws_markFactS_ev (l : List S100) (h : l.length ≤ 2097152) (n : Int) (h0 : 0 ≤ n) (hB : n + ((l.map ct100).sum : Nat) ≤ 4611686018427387904) : Ev (fun k => laws_markFactS.f k l n) (n + ((l.map ct100).sum : Nat), (acc mk100 l n).1) := by
 unfold laws_markFactS.f
 refine Ev.eqv (by rw [acc_up mk100 ct100 mk100_up]) (ev_markB mk100 ct100 4611686018427387904 mk100_up (fun k l n i => laws_markFactS.l0 k l n i) l ?_ ?_ n h0 hB)
 ·intro l' n hl
  refine Ev.succ ?_
  simp only [laws_markFactS.l0, hl, Int.lt_irrefl, if_false]
  exact Ev.now _
 ·intro l' i x n r hl hm hx h0 hc hr
  have hi := lt_of_get hx
  have h1 : ((i : Int) < (l'.length : Int)) = True := eq_true (by omega)
  have h2 : (0 ≤ (i : Int)) = True := eq_true (by omega)
  simp only [ct100] at hc
  have e0 : wrap64 (n + 1) = n + 1 := wr (by omega) (by omega)
  have e1 : wrap64 (n + 1 + 1) = n + 1 + 1 := wr (by omega) (by omega)
  have e2 : wrap64 (n + 1 + 1 + 1) = n + 1 + 1 + 1 := wr (by omega) (by omega)
  have e3 : wrap64 (n + 1 + 1 + 1 + 1) = n + 1 + 1 + 1 + 1 := wr (by omega) (by omega)
  have e4 : wrap64 (n + 1 + 1 + 1 + 1 + 1) = n + 1 + 1 + 1 + 1 + 1 := wr (by omega) (by omega)
  have e5 : wrap64 (n + 1 + 1 + 1 + 1 + 1 + 1) = n + 1 + 1 + 1 + 1 + 1 + 1 := wr (by omega) (by omega)
  simp only [mk100] at hr
  refine Ev.succ ?_
  simp only [laws_markFactS.l0, h1, h2, if_true, Option.bind_some, List.length_set, List.set_set, Int.toNat_natCast, wr1 hi (by omega), rd_at_T100 hx, rds_T100 hi, e0, e1, e2, e3, e4, e5]
  exact hr
def ct104 (x : S104) : Nat := 2
def mk104 (x : S104) (n : Int) : S104 × Int := ((⟨n, n + 1⟩ : S104), n + 1 + 1)
theorem mk104_up (x : S104) (n : Int) : (mk104 x n).2 = n + (ct104 x : Nat) := by
 simp only [mk104, ct104]
 omega
theorem ct104_bd (x : S104) : ct104 x ≤ 8 := by simp only [ct104]; omega
theorem rds_T104 {l : List S104} {i : Nat} {v : S104} (h : i < l.length) : rd_T104 (l.set i v) (i : Int) = v := rd_at_T104 (List.getElem?_set_self h)
theorem laws_markRevokedS_ev (l : List S104) (h : l.length ≤ 2097152) (n : Int) (h0 : 0 ≤ n) (hB : n + ((l.map ct104).sum : Nat) ≤ 4611686018427387904) : Ev (fun k => laws_markRevokedS.f k l n) (n + ((l.map ct104).sum : Nat), (acc mk104 l n).1) := by
 unfold laws_markRevokedS.f
 refine Ev.eqv (by rw [acc_up mk104 ct104 mk104_up]) (ev_markB mk104 ct104 4611686018427387904 mk104_up (fun k l n i => laws_markRevokedS.l0 k l n i) l ?_ ?_ n h0 hB)
 ·intro l' n hl
  refine Ev.succ ?_
  simp only [laws_markRevokedS.l0, hl, Int.lt_irrefl, if_false]
  exact Ev.now _
 ·intro l' i x n r hl hm hx h0 hc hr
  have hi := lt_of_get hx
  have h1 : ((i : Int) < (l'.length : Int)) = True := eq_true (by omega)
  have h2 : (0 ≤ (i : Int)) = True := eq_true (by omega)
  simp only [ct104] at hc
  have e0 : wrap64 (n + 1) = n + 1 := wr (by omega) (by omega)
  have e1 : wrap64 (n + 1 + 1) = n + 1 + 1 := wr (by omega) (by omega)
  simp only [mk104] at hr
  refine Ev.succ ?_
  simp only [laws_markRevokedS.l0, h1, h2, if_true, Option.bind_some, List.length_set, List.set_set, Int.toNat_natCast, wr1 hi (by omega), rd_at_T104 hx, rds_T104 hi, e0, e1]
  exact hr
def ct70 (x : S70) : Nat := 8
def mk70 (x : S70) (n : Int) : S70 × Int := ((⟨(⟨n, n + 1, n + 1 + 1, n + 1 + 1 + 1, n + 1 + 1 + 1 + 1, n + 1 + 1 + 1 + 1 + 1⟩ : S54), n + 1 + 1 + 1 + 1 + 1 + 1, n + 1 + 1 + 1 + 1 + 1 + 1 + 1⟩ : S70), n + 1 + 1 + 1 + 1 + 1 + 1 + 1 + 1)
theorem mk70_up (x : S70) (n : Int) : (mk70 x n).2 = n + (ct70 x : Nat) := by
 simp only [mk70, ct70]
 omega
theorem ct70_bd (x : S70) : ct70 x ≤ 8 := by simp only [ct70]; omega
theorem rds_T70 {l : List S70} {i : Nat} {v : S70} (h : i < l.length) : rd_T70 (l.set i v) (i : Int) = v := rd_at_T70 (List.getElem?_set_self h)
theorem laws_markSavedS_ev (l : List S70) (h : l.length ≤ 2097152) (n : Int) (h0 : 0 ≤ n) (hB : n + ((l.map ct70).sum : Nat) ≤ 4611686018427387904) : Ev (fun k => laws_markSavedS.f k l n) (n + ((l.map ct70).sum : Nat), (acc mk70 l n).1) := by
 unfold laws_markSavedS.f
 refine Ev.eqv (by rw [acc_up mk70 ct70 mk70_up]) (ev_markB mk70 ct70 4611686018427387904 mk70_up (fun k l n i => laws_markSavedS.l0 k l n i) l ?_ ?_ n h0 hB)
 ·intro l' n hl
  refine Ev.succ ?_
  simp only [laws_markSavedS.l0, hl, Int.lt_irrefl, if_false]
  exact Ev.now _
 ·intro l' i x n r hl hm hx h0 hc hr
  have hi := lt_of_get hx
  have h1 : ((i : Int) < (l'.length : Int)) = True := eq_true (by omega)
  have h2 : (0 ≤ (i : Int)) = True := eq_true (by omega)
  simp only [ct70] at hc
  have e0 : wrap64 (n + 1) = n + 1 := wr (by omega) (by omega)
  have e1 : wrap64 (n + 1 + 1) = n + 1 + 1 := wr (by omega) (by omega)
  have e2 : wrap64 (n + 1 + 1 + 1) = n + 1 + 1 + 1 := wr (by omega) (by omega)
  have e3 : wrap64 (n + 1 + 1 + 1 + 1) = n + 1 + 1 + 1 + 1 := wr (by omega) (by omega)
  have e4 : wrap64 (n + 1 + 1 + 1 + 1 + 1) = n + 1 + 1 + 1 + 1 + 1 := wr (by omega) (by omega)
  have e5 : wrap64 (n + 1 + 1 + 1 + 1 + 1 + 1) = n + 1 + 1 + 1 + 1 + 1 + 1 := wr (by omega) (by omega)
  have e6 : wrap64 (n + 1 + 1 + 1 + 1 + 1 + 1 + 1) = n + 1 + 1 + 1 + 1 + 1 + 1 + 1 := wr (by omega) (by omega)
  have e7 : wrap64 (n + 1 + 1 + 1 + 1 + 1 + 1 + 1 + 1) = n + 1 + 1 + 1 + 1 + 1 + 1 + 1 + 1 := wr (by omega) (by omega)
  simp only [mk70] at hr
  refine Ev.succ ?_
  simp only [laws_markSavedS.l0, h1, h2, if_true, Option.bind_some, List.length_set, List.set_set, Int.toNat_natCast, wr1 hi (by omega), rd_at_T70 hx, rds_T70 hi, e0, e1, e2, e3, e4, e5, e6, e7]
  exact hr
def q148 (x : S48) : Int := 1 + ((x.f1.f2.map ct133).sum : Nat)
def q248 (x : S48) : Int := q148 x + ((x.f1.f3.f1.map ct131).sum : Nat)
def q348 (x : S48) : Int := q248 x + ((x.f2.map ct100).sum : Nat)
def q448 (x : S48) : Int := q348 x + ((x.f3.map ct104).sum : Nat)
def q548 (x : S48) : Int := q448 x + ((x.f5.map ct70).sum : Nat)
def mkX48 (x : S48) : S48 := ⟨x.f0, ⟨x.f1.f0, x.f1.f1, (acc mk133 x.f1.f2 1).1, ⟨x.f1.f3.f0, (acc mk131 x.f1.f3.f1 (q148 x)).1⟩⟩, (acc mk100 x.f2 (q248 x)).1, (acc mk104 x.f3 (q348 x)).1, x.f4, (acc mk70 x.f5 (q448 x)).1⟩
theorem ptM {x : S48} (h : n48 x ≤ 2097152) : x.f1.f2.length ≤ 2097152 ∧ x.f1.f3.f1.length + (x.f1.f3.f1.map n131).sum ≤ 2097152 ∧ x.f2.length ≤ 2097152 ∧ x.f3.length ≤ 2097152 ∧ x.f5.length ≤ 2097152 := by
 unfold n48 at h
 refine ⟨?_, ?_, by omega, by omega, by omega⟩
 ·unfold n43 at h; omega
 ·unfold n43 n41 at h; omega
theorem q_bd48 (x : S48) (h : n48 x ≤ 2097152) : (0 ≤ q148 x ∧ q148 x ≤ 16777217) ∧ (0 ≤ q248 x ∧ q248 x ≤ 33554433) ∧ (0 ≤ q348 x ∧ q348 x ≤ 67108865) ∧ (0 ≤ q448 x ∧ q448 x ≤ 134217729) ∧ (0 ≤ q548 x ∧ q548 x ≤ 268435457) := by
 obtain ⟨h1, h2, h3, h4, h5⟩ := ptM h
 have b0 := sum_ct0 ct133 x.f1.f2 ct133_bd
 have b1 := sum_ct ct131 x.f1.f3.f1 ct131_bd
 have b2 := sum_ct0 ct100 x.f2 ct100_bd
 have b3 := sum_ct0 ct104 x.f3 ct104_bd
 have b5 := sum_ct0 ct70 x.f5 ct70_bd
 simp only [q148, q248, q348, q448, q548]
 omega
theorem laws_markPoint_ev (x : S48) (h : n48 x ≤ 2097152) : Ev (fun k => laws_markPoint.f k x.f0 x.f1.f0 x.f1.f1 x.f1.f2 x.f1.f3.f0 x.f1.f3.f1 x.f2 x.f3 x.f4 x.f5 1) (q548 x, (mkX48 x).f1.f2, (mkX48 x).f1.f3.f1, (mkX48 x).f2, (mkX48 x).f3, (mkX48 x).f5) := by
 obtain ⟨⟨g1, g1'⟩, ⟨g2, g2'⟩, ⟨g3, g3'⟩, ⟨g4, g4'⟩, ⟨g5, g5'⟩⟩ := q_bd48 x h
 obtain ⟨h1, h2, h3, h4, h5⟩ := ptM h
 unfold laws_markPoint.f
 refine Ev.bind (laws_markEpoch_ev x.f1 h1 h2 1 (by omega) (show q248 x ≤ _ by omega)) ?_
 refine Ev.bind (laws_markFactS_ev x.f2 h3 (q248 x) (by omega) (show q348 x ≤ _ by omega)) ?_
 refine Ev.bind (laws_markRevokedS_ev x.f3 h4 (q348 x) (by omega) (show q448 x ≤ _ by omega)) ?_
 refine Ev.bind (laws_markSavedS_ev x.f5 h5 (q448 x) (by omega) (show q548 x ≤ _ by omega)) ?_
 exact Ev.now _
theorem laws_heldIncludesS_ev (l : List S133) (h : l.length ≤ 2097152) (n : Int) (h0 : 0 ≤ n) (hB : n + ((l.map ct133).sum : Nat) ≤ 4611686018427387904) : Ev (fun k => laws_heldIncludesS.f k (acc mk133 l n).1 n) (n + ((l.map ct133).sum : Nat)) := by
 unfold laws_heldIncludesS.f
 refine Ev.eqv (acc_up mk133 ct133 mk133_up l n) (ev_held2 mk133 ct133 4611686018427387904 (fun x n _ _ => mk133_up x n) (fun k l n i => laws_heldIncludesS.l0 k l n i) l ?_ ?_ n h0 hB)
 ·intro l' n hl
  refine Ev.succ ?_
  simp only [laws_heldIncludesS.l0, hl, Int.lt_irrefl, if_false]
  exact Ev.now _
 ·intro l' i x n r hl hm h0 hc hx hr
  have hi := lt_of_get hx
  have h1 : ((i : Int) < (l'.length : Int)) = True := eq_true (by omega)
  have h2 : (0 ≤ (i : Int)) = True := eq_true (by omega)
  simp only [ct133] at hc
  have e0 : wrap64 (n + 1) = n + 1 := wr (by omega) (by omega)
  have e1 : wrap64 (n + 1 + 1) = n + 1 + 1 := wr (by omega) (by omega)
  simp only [mk133] at hr
  refine Ev.succ ?_
  simp only [laws_heldIncludesS.l0, h1, h2, if_true, wr1 hi (by omega), rd_at_T133 hx, mk133, e0, e1]
  exact hr
theorem laws_heldCondS_evN (N : Nat) : ∀ (l : List S129) (n : Int), l.length + (l.map n129).sum ≤ N → N ≤ 2097152 → 0 ≤ n → n + ((l.map ct129).sum : Nat) ≤ 4611686018427387904 → Ev (fun k => laws_heldCondS.f k (acc mk129 l n).1 n) (n + ((l.map ct129).sum : Nat)) := by
 induction N using Nat.strongRecOn with
 | _ N ih =>
 intro l n h hN h0 hB
 refine Ev.succ ?_
 simp only [laws_heldCondS.f]
 refine Ev.eqv (acc_up mk129 ct129 mk129_up l n) (ev_held2 mk129 ct129 4611686018427387904 (fun x n _ _ => mk129_up x n) (fun k l n i => laws_heldCondS.l0 k l n i) l ?_ ?_ n h0 hB)
 ·intro l' n hl
  refine Ev.succ ?_
  simp only [laws_heldCondS.l0, hl, Int.lt_irrefl, if_false]
  exact Ev.now _
 ·intro l' i x n r hl hm h0 hc hx hr
  have hi := lt_of_get hx
  have h1 : ((i : Int) < (l'.length : Int)) = True := eq_true (by omega)
  have h2 : (0 ≤ (i : Int)) = True := eq_true (by omega)
  rw [ctC_f] at hc
  obtain ⟨jm, hjm⟩ := List.getElem?_of_mem hm
  have hn := le_sum n129 hjm
  have hlt := lt_of_get hjm
  rw [n129_f] at hn
  have e0 : wrap64 (n + 1) = n + 1 := wr (by omega) (by omega)
  have e1 : wrap64 (n + 1 + 1) = n + 1 + 1 := wr (by omega) (by omega)
  have e2 : wrap64 (n + 1 + 1 + 1) = n + 1 + 1 + 1 := wr (by omega) (by omega)
  have R := rd_at_T129 hx
  rw [mkC_f] at hr R
  refine Ev.succ ?_
  simp only [laws_heldCondS.l0, h1, h2, if_true, wr1 hi (by omega), R, e0, e1, e2]
  refine Ev.bind (ih (x.f3.length + (x.f3.map n129).sum) (by omega) x.f3 (n + 1 + 1 + 1) (Nat.le_refl _) (by omega) (by omega) (by omega)) ?_
  refine Ev.neg (by omega) ?_
  exact hr
theorem laws_heldCondS_ev (l : List S129) (h : l.length + (l.map n129).sum ≤ 2097152) (n : Int) (h0 : 0 ≤ n) (hB : n + ((l.map ct129).sum : Nat) ≤ 4611686018427387904) : Ev (fun k => laws_heldCondS.f k (acc mk129 l n).1 n) (n + ((l.map ct129).sum : Nat)) := laws_heldCondS_evN _ l n (Nat.le_refl _) h h0 hB
theorem laws_heldRuleS_ev (l : List S131) (h : l.length + (l.map n131).sum ≤ 2097152) (n : Int) (h0 : 0 ≤ n) (hB : n + ((l.map ct131).sum : Nat) ≤ 4611686018427387904) : Ev (fun k => laws_heldRuleS.f k (acc mk131 l n).1 n) (n + ((l.map ct131).sum : Nat)) := by
 unfold laws_heldRuleS.f
 refine Ev.eqv (acc_up mk131 ct131 mk131_up l n) (ev_held2 mk131 ct131 4611686018427387904 (fun x n _ _ => mk131_up x n) (fun k l n i => laws_heldRuleS.l0 k l n i) l ?_ ?_ n h0 hB)
 ·intro l' n hl
  refine Ev.succ ?_
  simp only [laws_heldRuleS.l0, hl, Int.lt_irrefl, if_false]
  exact Ev.now _
 ·intro l' i x n r hl hm h0 hc hx hr
  have hi := lt_of_get hx
  have h1 : ((i : Int) < (l'.length : Int)) = True := eq_true (by omega)
  have h2 : (0 ≤ (i : Int)) = True := eq_true (by omega)
  simp only [ct131] at hc
  obtain ⟨jm, hjm⟩ := List.getElem?_of_mem hm
  have hn := le_sum n131 hjm
  simp only [n131, n129_f] at hn
  have e0 : wrap64 (n + 1) = n + 1 := wr (by omega) (by omega)
  have e1 : wrap64 (n + 1 + 1) = n + 1 + 1 := wr (by omega) (by omega)
  have e2 : wrap64 (n + 1 + 1 + 1) = n + 1 + 1 + 1 := wr (by omega) (by omega)
  have e3 : wrap64 (n + 1 + 1 + 1 + 1) = n + 1 + 1 + 1 + 1 := wr (by omega) (by omega)
  have e4 : wrap64 (n + 1 + 1 + 1 + 1 + 1) = n + 1 + 1 + 1 + 1 + 1 := wr (by omega) (by omega)
  have e5 : wrap64 (n + 1 + 1 + 1 + 1 + 1 + 1) = n + 1 + 1 + 1 + 1 + 1 + 1 := wr (by omega) (by omega)
  simp only [mk131] at hr
  refine Ev.succ ?_
  simp only [laws_heldRuleS.l0, h1, h2, if_true, wr1 hi (by omega), rd_at_T131 hx, mk131, e0, e1, e2, e3, e4, e5]
  refine Ev.bind (laws_heldCondS_ev x.f3.f3 (by omega) (n + 1 + 1 + 1 + 1 + 1 + 1) (by omega) (by omega)) ?_
  refine Ev.neg (by omega) ?_
  (try simp only [h1, h2, if_true, wr1 hi (by omega), rd_at_T131 hx, mk131, e0, e1, e2, e3, e4, e5])
  exact hr
theorem laws_heldPolicy_ev (v : Int) (l : List S131) (h : l.length + (l.map n131).sum ≤ 2097152) (n : Int) (h0 : 0 ≤ n) (hB : n + ((l.map ct131).sum : Nat) ≤ 4611686018427387904) : Ev (fun k => laws_heldPolicy.f k v (acc mk131 l n).1 n) (n + ((l.map ct131).sum : Nat)) := by
 unfold laws_heldPolicy.f
 refine Ev.bind (laws_heldRuleS_ev l h n h0 hB) ?_
 exact Ev.neg (by omega) (Ev.now _)
theorem laws_heldEpoch_ev (x : S43) (h2 : x.f2.length ≤ 2097152) (h3 : x.f3.f1.length + (x.f3.f1.map n131).sum ≤ 2097152) (n : Int) (h0 : 0 ≤ n) (hB : n + ((x.f2.map ct133).sum : Nat) + ((x.f3.f1.map ct131).sum : Nat) ≤ 4611686018427387904) : Ev (fun k => laws_heldEpoch.f k x.f0 x.f1 (acc mk133 x.f2 n).1 x.f3.f0 (acc mk131 x.f3.f1 (n + ((x.f2.map ct133).sum : Nat))).1 n) (n + ((x.f2.map ct133).sum : Nat) + ((x.f3.f1.map ct131).sum : Nat)) := by
 unfold laws_heldEpoch.f
 refine Ev.bind (laws_heldIncludesS_ev x.f2 h2 n h0 (by omega)) (Ev.neg (by omega) ?_)
 exact Ev.bind (laws_heldPolicy_ev x.f3.f0 x.f3.f1 h3 (n + ((x.f2.map ct133).sum : Nat)) (by omega) hB) (Ev.neg (by omega) (Ev.now _))
theorem laws_heldFactS_ev (l : List S100) (h : l.length ≤ 2097152) (n : Int) (h0 : 0 ≤ n) (hB : n + ((l.map ct100).sum : Nat) ≤ 4611686018427387904) : Ev (fun k => laws_heldFactS.f k (acc mk100 l n).1 n) (n + ((l.map ct100).sum : Nat)) := by
 unfold laws_heldFactS.f
 refine Ev.eqv (acc_up mk100 ct100 mk100_up l n) (ev_held2 mk100 ct100 4611686018427387904 (fun x n _ _ => mk100_up x n) (fun k l n i => laws_heldFactS.l0 k l n i) l ?_ ?_ n h0 hB)
 ·intro l' n hl
  refine Ev.succ ?_
  simp only [laws_heldFactS.l0, hl, Int.lt_irrefl, if_false]
  exact Ev.now _
 ·intro l' i x n r hl hm h0 hc hx hr
  have hi := lt_of_get hx
  have h1 : ((i : Int) < (l'.length : Int)) = True := eq_true (by omega)
  have h2 : (0 ≤ (i : Int)) = True := eq_true (by omega)
  simp only [ct100] at hc
  have e0 : wrap64 (n + 1) = n + 1 := wr (by omega) (by omega)
  have e1 : wrap64 (n + 1 + 1) = n + 1 + 1 := wr (by omega) (by omega)
  have e2 : wrap64 (n + 1 + 1 + 1) = n + 1 + 1 + 1 := wr (by omega) (by omega)
  have e3 : wrap64 (n + 1 + 1 + 1 + 1) = n + 1 + 1 + 1 + 1 := wr (by omega) (by omega)
  have e4 : wrap64 (n + 1 + 1 + 1 + 1 + 1) = n + 1 + 1 + 1 + 1 + 1 := wr (by omega) (by omega)
  have e5 : wrap64 (n + 1 + 1 + 1 + 1 + 1 + 1) = n + 1 + 1 + 1 + 1 + 1 + 1 := wr (by omega) (by omega)
  simp only [mk100] at hr
  refine Ev.succ ?_
  simp only [laws_heldFactS.l0, h1, h2, if_true, wr1 hi (by omega), rd_at_T100 hx, mk100, e0, e1, e2, e3, e4, e5]
  exact hr
theorem laws_heldRevokedS_ev (l : List S104) (h : l.length ≤ 2097152) (n : Int) (h0 : 0 ≤ n) (hB : n + ((l.map ct104).sum : Nat) ≤ 4611686018427387904) : Ev (fun k => laws_heldRevokedS.f k (acc mk104 l n).1 n) (n + ((l.map ct104).sum : Nat)) := by
 unfold laws_heldRevokedS.f
 refine Ev.eqv (acc_up mk104 ct104 mk104_up l n) (ev_held2 mk104 ct104 4611686018427387904 (fun x n _ _ => mk104_up x n) (fun k l n i => laws_heldRevokedS.l0 k l n i) l ?_ ?_ n h0 hB)
 ·intro l' n hl
  refine Ev.succ ?_
  simp only [laws_heldRevokedS.l0, hl, Int.lt_irrefl, if_false]
  exact Ev.now _
 ·intro l' i x n r hl hm h0 hc hx hr
  have hi := lt_of_get hx
  have h1 : ((i : Int) < (l'.length : Int)) = True := eq_true (by omega)
  have h2 : (0 ≤ (i : Int)) = True := eq_true (by omega)
  simp only [ct104] at hc
  have e0 : wrap64 (n + 1) = n + 1 := wr (by omega) (by omega)
  have e1 : wrap64 (n + 1 + 1) = n + 1 + 1 := wr (by omega) (by omega)
  simp only [mk104] at hr
  refine Ev.succ ?_
  simp only [laws_heldRevokedS.l0, h1, h2, if_true, wr1 hi (by omega), rd_at_T104 hx, mk104, e0, e1]
  exact hr
theorem laws_heldSavedS_ev (l : List S70) (h : l.length ≤ 2097152) (n : Int) (h0 : 0 ≤ n) (hB : n + ((l.map ct70).sum : Nat) ≤ 4611686018427387904) : Ev (fun k => laws_heldSavedS.f k (acc mk70 l n).1 n) (n + ((l.map ct70).sum : Nat)) := by
 unfold laws_heldSavedS.f
 refine Ev.eqv (acc_up mk70 ct70 mk70_up l n) (ev_held2 mk70 ct70 4611686018427387904 (fun x n _ _ => mk70_up x n) (fun k l n i => laws_heldSavedS.l0 k l n i) l ?_ ?_ n h0 hB)
 ·intro l' n hl
  refine Ev.succ ?_
  simp only [laws_heldSavedS.l0, hl, Int.lt_irrefl, if_false]
  exact Ev.now _
 ·intro l' i x n r hl hm h0 hc hx hr
  have hi := lt_of_get hx
  have h1 : ((i : Int) < (l'.length : Int)) = True := eq_true (by omega)
  have h2 : (0 ≤ (i : Int)) = True := eq_true (by omega)
  simp only [ct70] at hc
  have e0 : wrap64 (n + 1) = n + 1 := wr (by omega) (by omega)
  have e1 : wrap64 (n + 1 + 1) = n + 1 + 1 := wr (by omega) (by omega)
  have e2 : wrap64 (n + 1 + 1 + 1) = n + 1 + 1 + 1 := wr (by omega) (by omega)
  have e3 : wrap64 (n + 1 + 1 + 1 + 1) = n + 1 + 1 + 1 + 1 := wr (by omega) (by omega)
  have e4 : wrap64 (n + 1 + 1 + 1 + 1 + 1) = n + 1 + 1 + 1 + 1 + 1 := wr (by omega) (by omega)
  have e5 : wrap64 (n + 1 + 1 + 1 + 1 + 1 + 1) = n + 1 + 1 + 1 + 1 + 1 + 1 := wr (by omega) (by omega)
  have e6 : wrap64 (n + 1 + 1 + 1 + 1 + 1 + 1 + 1) = n + 1 + 1 + 1 + 1 + 1 + 1 + 1 := wr (by omega) (by omega)
  have e7 : wrap64 (n + 1 + 1 + 1 + 1 + 1 + 1 + 1 + 1) = n + 1 + 1 + 1 + 1 + 1 + 1 + 1 + 1 := wr (by omega) (by omega)
  simp only [mk70] at hr
  refine Ev.succ ?_
  simp only [laws_heldSavedS.l0, h1, h2, if_true, wr1 hi (by omega), rd_at_T70 hx, mk70, e0, e1, e2, e3, e4, e5, e6, e7]
  exact hr
theorem laws_heldPoint_ev (x : S48) (h : n48 x ≤ 2097152) : Ev (fun k => laws_heldPoint.f k x.f0 x.f1.f0 x.f1.f1 (mkX48 x).f1.f2 x.f1.f3.f0 (mkX48 x).f1.f3.f1 (mkX48 x).f2 (mkX48 x).f3 x.f4 (mkX48 x).f5 1) (q548 x) := by
 obtain ⟨⟨g1, g1'⟩, ⟨g2, g2'⟩, ⟨g3, g3'⟩, ⟨g4, g4'⟩, ⟨g5, g5'⟩⟩ := q_bd48 x h
 obtain ⟨h1, h2, h3, h4, h5⟩ := ptM h
 unfold laws_heldPoint.f
 refine Ev.bind (laws_heldEpoch_ev x.f1 h1 h2 1 (by omega) (show q248 x ≤ _ by omega)) ?_
 refine Ev.neg (show ¬ q248 x < 0 by omega) ?_
 refine Ev.bind (laws_heldFactS_ev x.f2 h3 (q248 x) (by omega) (show q348 x ≤ _ by omega)) ?_
 refine Ev.neg (show ¬ q348 x < 0 by omega) ?_
 refine Ev.bind (laws_heldRevokedS_ev x.f3 h4 (q348 x) (by omega) (show q448 x ≤ _ by omega)) ?_
 refine Ev.neg (show ¬ q448 x < 0 by omega) ?_
 refine Ev.bind (laws_heldSavedS_ev x.f5 h5 (q448 x) (by omega) (show q548 x ≤ _ by omega)) ?_
 refine Ev.neg (show ¬ q548 x < 0 by omega) ?_
 exact Ev.now _
theorem FnExactAskPoint : laws_FnExactAskPoint.Pure := by
 intro x s c q hx _ _ _
 refine Ev.rounds ?_
 unfold laws_FnExactAskPoint.f
 obtain ⟨r, e, hr1, hr⟩ := laws_szPoint_le x hx 1048576 (by omega) (by omega)
 refine Ev.bind e ?_
 by_cases cr : r < 0
 ·simp only [if_pos cr]; exact Ev.now _
 simp only [if_neg cr]
 have hb := hr (by omega)
 have hT := laws_toPoint_ev x (by omega)
 have hz0 : n48 (cv32 x) ≤ 1048576 := by rw [ncv32]; omega
 simp only [laws_toCert_eq c, laws_toRequest_eq q, Option.bind_some]
 generalize cv32 x = z at hT hz0 ⊢
 generalize cv34 c = cz
 generalize cv36 q = qz
 have hz : n48 z ≤ 2097152 := by omega
 have hy : n48 (askV z s cz qz).1 ≤ 2097152 := by have := askV_n z s cz qz; omega
 have hS := spec_AskPoint_ev z s cz qz hz
 have hI := impl_AskPoint_ev z s cz qz hz
 generalize askV z s cz qz = y at hy hS hI
 have qz' := (q_bd48 z hz).2.2.2.2
 have qy := (q_bd48 y.1 hy).2.2.2.2
 repeat (first
  | exact Ev.now _
  | ((first | refine Ev.bind hT ?_ | refine Ev.bind hS ?_ | refine Ev.bind hI ?_ | refine Ev.bind (laws_eqPoint_refl y.1 hy) ?_ | refine Ev.bind (laws_eqPoint_refl z hz) ?_ | refine Ev.bind (laws_markPoint_ev z hz) ?_ | refine Ev.bind (laws_markPoint_ev y.1 hy) ?_ | refine Ev.bind (laws_heldPoint_ev y.1 hy) ?_); try simp only [])
  | refine Ev.neg (show ¬ q548 z < 0 by omega) ?_
  | refine Ev.neg (show ¬ q548 y.1 < 0 by omega) ?_
  | refine Ev.pos rfl ?_
  | simp only [if_true])
end Go.Proofs.YtgaefkbfhdnhdaaGreat.Pure
