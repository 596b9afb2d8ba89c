/- The law FnExactEqualCenters answers true for all arguments, over numbers and lists alone: what each function computes, and that program and reference compute the same. No condition. -/
import Derived.Test.YtineejdlpcgnkaaQFnExactEqualCentersx18
import Derived.Test.YtineejdlpcgnkaaL
namespace Go.Proofs.Ytineejdlpcgnkaa.Pure
open Go.RowKit Go.Proofs.Ytineejdlpcgnkaa.QFnExactEqualCenters Go.Proofs.YtineejdlpcgnkaaL Go.Proofs.YtineejdlpcgnkaaW.PrintWords Go.Proofs.YtineejdlpcgnkaaW.PrintLast
set_option linter.unusedVariables false
set_option linter.unusedSimpArgs false

def n107 (x : S107) : Nat := x.f1.length
theorem eta172 (x : S172) : (⟨x.f0, x.f1, x.f2, x.f3⟩ : S172) = x := by cases x; rfl
mutual
def n172 : S172 → Nat
  | ⟨x0, x1, x2, x3⟩ => x3.length + nL172 x3
def nL172 : List S172 → Nat
  | [] => 0
  | x :: l => n172 x + nL172 l
end
theorem nL172_eq : ∀ l : List S172, nL172 l = (l.map n172).sum
  | [] => by simp [nL172]
  | x :: l => by simp [nL172, nL172_eq l]
theorem n172_f (x : S172) : n172 x = x.f3.length + (x.f3.map n172).sum := by
  cases x
  simp only [n172, nL172_eq]
def n174 (x : S174) : Nat := n172 x.f3
def n38 (x : S38) : Nat := x.f1.length + (x.f1.map n174).sum
def n40 (x : S40) : Nat := x.f2.length + n38 x.f3
def n64 (x : S64) : Nat := x.f0.length + (x.f0.map n107).sum + x.f1.length + (x.f1.map n40).sum + x.f2.length + x.f3.length + x.f5.length
def cv134 (x : S134) : S132 := ⟨x.f0, x.f1, x.f2, x.f3, x.f4, x.f5⟩
def cv136 (x : S136) : S99 := ⟨x.f0, x.f1⟩
def cv154 (x : S154) : S107 := ⟨x.f0, x.f1, x.f2⟩
def n154 (x : S154) : Nat := x.f1.length
def cv164 (x : S164) : S149 := ⟨x.f0, x.f1⟩
theorem eta183 (x : S183) : (⟨x.f0, x.f1, x.f2, x.f3⟩ : S183) = x := by cases x; rfl
mutual
def n183 : S183 → Nat
  | ⟨x0, x1, x2, x3⟩ => x3.length + nL183 x3
def nL183 : List S183 → Nat
  | [] => 0
  | x :: l => n183 x + nL183 l
end
theorem nL183_eq : ∀ l : List S183, nL183 l = (l.map n183).sum
  | [] => by simp [nL183]
  | x :: l => by simp [nL183, nL183_eq l]
theorem n183_f (x : S183) : n183 x = x.f3.length + (x.f3.map n183).sum := by
  cases x
  simp only [n183, nL183_eq]
mutual
def cv183 : S183 → S172
  | ⟨x0, x1, x2, x3⟩ => ⟨x0, x1, x2, cvL183 x3⟩
def cvL183 : List S183 → List S172
  | [] => []
  | x :: l => cv183 x :: cvL183 l
end
theorem cvL183_eq : ∀ l : List S183, cvL183 l = l.map cv183
  | [] => by simp [cvL183]
  | x :: l => by simp [cvL183, cvL183_eq l]
theorem cv183_f (x : S183) : cv183 x = ⟨x.f0, x.f1, x.f2, x.f3.map cv183⟩ := by
  cases x
  simp only [cv183, cvL183_eq]
def cv185 (x : S185) : S174 := ⟨x.f0, x.f1, x.f2, (cv183 x.f3)⟩
def n185 (x : S185) : Nat := n183 x.f3
def cv25 (x : S25) : S38 := ⟨x.f0, (x.f1.map cv185)⟩
def n25 (x : S25) : Nat := x.f1.length + (x.f1.map n185).sum
def cv27 (x : S27) : S40 := ⟨x.f0, x.f1, (x.f2.map cv164), (cv25 x.f3)⟩
def n27 (x : S27) : Nat := x.f2.length + n25 x.f3
def cv158 (x : S158) : S118 := ⟨x.f0, x.f1, x.f2, x.f3, x.f4, x.f5⟩
def cv73 (x : S73) : S64 := ⟨(x.f0.map cv154), (x.f1.map cv27), (x.f2.map cv134), (x.f3.map cv136), x.f4, (x.f5.map cv158)⟩
def n73 (x : S73) : Nat := x.f0.length + (x.f0.map n154).sum + x.f1.length + (x.f1.map n27).sum + x.f2.length + x.f3.length + x.f5.length
theorem rd_at_T132 {l : List S132} {i : Nat} {x : S132} (h : l[i]? = some x) : rd_T132 l (i : Int) = x := getD_nat l _ i x h
theorem rd_at_T99 {l : List S99} {i : Nat} {x : S99} (h : l[i]? = some x) : rd_T99 l (i : Int) = x := getD_nat l _ i x h
theorem rd_at_T107 {l : List S107} {i : Nat} {x : S107} (h : l[i]? = some x) : rd_T107 l (i : Int) = x := getD_nat l _ i x h
theorem rd_at_T149 {l : List S149} {i : Nat} {x : S149} (h : l[i]? = some x) : rd_T149 l (i : Int) = x := getD_nat l _ i x h
theorem rd_at_T172 {l : List S172} {i : Nat} {x : S172} (h : l[i]? = some x) : rd_T172 l (i : Int) = x := getD_nat l _ i x h
theorem rd_at_T174 {l : List S174} {i : Nat} {x : S174} (h : l[i]? = some x) : rd_T174 l (i : Int) = x := getD_nat l _ i x h
theorem rd_at_T38 {l : List S38} {i : Nat} {x : S38} (h : l[i]? = some x) : rd_T38 l (i : Int) = x := getD_nat l _ i x h
theorem rd_at_T40 {l : List S40} {i : Nat} {x : S40} (h : l[i]? = some x) : rd_T40 l (i : Int) = x := getD_nat l _ i x h
theorem rd_at_T118 {l : List S118} {i : Nat} {x : S118} (h : l[i]? = some x) : rd_T118 l (i : Int) = x := getD_nat l _ i x h
theorem rd_at_T64 {l : List S64} {i : Nat} {x : S64} (h : l[i]? = some x) : rd_T64 l (i : Int) = x := getD_nat l _ i x h
theorem rd_at_T134 {l : List S134} {i : Nat} {x : S134} (h : l[i]? = some x) : rd_T134 l (i : Int) = x := getD_nat l _ i x h
theorem rd_at_T136 {l : List S136} {i : Nat} {x : S136} (h : l[i]? = some x) : rd_T136 l (i : Int) = x := getD_nat l _ i x h
theorem rd_at_T154 {l : List S154} {i : Nat} {x : S154} (h : l[i]? = some x) : rd_T154 l (i : Int) = x := getD_nat l _ i x h
theorem rd_at_T164 {l : List S164} {i : Nat} {x : S164} (h : l[i]? = some x) : rd_T164 l (i : Int) = x := getD_nat l _ i x h
theorem rd_at_T183 {l : List S183} {i : Nat} {x : S183} (h : l[i]? = some x) : rd_T183 l (i : Int) = x := getD_nat l _ i x h
theorem rd_at_T185 {l : List S185} {i : Nat} {x : S185} (h : l[i]? = some x) : rd_T185 l (i : Int) = x := getD_nat l _ i x h
theorem rd_at_T25 {l : List S25} {i : Nat} {x : S25} (h : l[i]? = some x) : rd_T25 l (i : Int) = x := getD_nat l _ i x h
theorem rd_at_T27 {l : List S27} {i : Nat} {x : S27} (h : l[i]? = some x) : rd_T27 l (i : Int) = x := getD_nat l _ i x h
theorem rd_at_T158 {l : List S158} {i : Nat} {x : S158} (h : l[i]? = some x) : rd_T158 l (i : Int) = x := getD_nat l _ i x h
theorem rd_at_T73 {l : List S73} {i : Nat} {x : S73} (h : l[i]? = some x) : rd_T73 l (i : Int) = x := getD_nat l _ i x h
def eqT132 (x y : S132) : Bool := (x.f0 == y.f0) && ((x.f1 == y.f1) && ((x.f2 == y.f2) && ((x.f3 == y.f3) && ((x.f4 == y.f4) && ((x.f5 == y.f5))))))
def eqT99 (x y : S99) : Bool := (x.f0 == y.f0) && ((x.f1 == y.f1))
def eqT149 (x y : S149) : Bool := (x.f0 == y.f0) && ((x.f1 == y.f1))
def eqT118 (x y : S118) : Bool := (x.f0 == y.f0) && ((x.f1 == y.f1) && ((x.f2 == y.f2) && ((x.f3 == y.f3) && ((x.f4 == y.f4) && ((x.f5 == y.f5))))))
theorem ncv154 (x : S154) : n107 (cv154 x) = n154 x := by
  simp only [cv154, n107, n154, List.length_map, List.map_map, Function.comp_def]
theorem ncvN183 (l : List S183) : (cvL183 l).length = l.length := by rw [cvL183_eq, List.length_map]
mutual
theorem ncv183 : ∀ x : S183, n172 (cv183 x) = n183 x
  | ⟨x0, x1, x2, x3⟩ => by simp only [cv183, n172, n183, ncvL183 x3, ncvN183 x3]
theorem ncvL183 : ∀ l : List S183, nL172 (cvL183 l) = nL183 l
  | [] => by simp [cvL183, nL172, nL183]
  | x :: l => by simp only [cvL183, nL172, nL183, ncv183 x, ncvL183 l]
end
theorem ncv185 (x : S185) : n174 (cv185 x) = n185 x := by
  simp only [cv185, n174, n185, List.length_map, List.map_map, Function.comp_def, ncv183]
theorem ncv25 (x : S25) : n38 (cv25 x) = n25 x := by
  simp only [cv25, n38, n25, List.length_map, List.map_map, Function.comp_def, ncv185]
theorem ncv27 (x : S27) : n40 (cv27 x) = n27 x := by
  simp only [cv27, n40, n27, List.length_map, List.map_map, Function.comp_def, ncv25]
theorem ncv73 (x : S73) : n64 (cv73 x) = n73 x := by
  simp only [cv73, n64, n73, List.length_map, List.map_map, Function.comp_def, ncv154, ncv27]

theorem laws_eqFact_refl (x : S132) : laws_eqFact.f x.f0 x.f1 x.f2 x.f3 x.f4 x.f5 x.f0 x.f1 x.f2 x.f3 x.f4 x.f5 = some true := by
  unfold laws_eqFact.f
  simp

theorem laws_eqFactS_refl (l : List (S132)) (h : l.length ≤ 1048576) : Ev (fun k => laws_eqFactS.f k l l) true := by
  unfold laws_eqFactS.f
  refine Ev.pos rfl ?_
  refine ev_walk l (fun k i => laws_eqFactS.l0 k l l i) true ?_ ?_
  · refine Ev.succ ?_
    simp only [laws_eqFactS.l0, Int.lt_irrefl, if_false]
    exact Ev.now _
  · intro i x hx hr
    have hi := lt_of_get hx
    have h1 : ((i : Int) < (l.length : Int)) = True := eq_true (by omega)
    have h2 : (0 ≤ (i : Int)) = True := eq_true (by omega)
    refine Ev.succ ?_
    simp only [laws_eqFactS.l0, h1, h2, if_true, rd_at_T132 hx, wr1 hi (by omega), laws_eqFact_refl x, Option.bind_some]
    exact hr

theorem laws_eqRevoked_refl (x : S99) : laws_eqRevoked.f x.f0 x.f1 x.f0 x.f1 = some true := by
  unfold laws_eqRevoked.f
  simp

theorem laws_eqRevokedS_refl (l : List (S99)) (h : l.length ≤ 1048576) : Ev (fun k => laws_eqRevokedS.f k l l) true := by
  unfold laws_eqRevokedS.f
  refine Ev.pos rfl ?_
  refine ev_walk l (fun k i => laws_eqRevokedS.l0 k l l i) true ?_ ?_
  · refine Ev.succ ?_
    simp only [laws_eqRevokedS.l0, Int.lt_irrefl, if_false]
    exact Ev.now _
  · intro i x hx hr
    have hi := lt_of_get hx
    have h1 : ((i : Int) < (l.length : Int)) = True := eq_true (by omega)
    have h2 : (0 ≤ (i : Int)) = True := eq_true (by omega)
    refine Ev.succ ?_
    simp only [laws_eqRevokedS.l0, h1, h2, if_true, rd_at_T99 hx, wr1 hi (by omega), laws_eqRevoked_refl x, Option.bind_some]
    exact hr

theorem laws_eqIntS_refl (l : List Int) (h : l.length ≤ 1048576) : Ev (fun k => laws_eqIntS.f k l l) true := by
  unfold laws_eqIntS.f
  refine Ev.pos rfl ?_
  refine ev_walk l (fun k i => laws_eqIntS.l0 k l l i) true ?_ ?_
  · refine Ev.succ ?_
    simp only [laws_eqIntS.l0, Int.lt_irrefl, if_false]
    exact Ev.now _
  · intro i x hx hr
    have hi := lt_of_get hx
    have h1 : ((i : Int) < (l.length : Int)) = True := eq_true (by omega)
    have h2 : (0 ≤ (i : Int)) = True := eq_true (by omega)
    refine Ev.succ ?_
    simp only [laws_eqIntS.l0, h1, h2, if_true, rd_nat l i x hx, wr1 hi (by omega)]
    exact hr

theorem laws_eqIssuer_refl (x : S107) (h : n107 x ≤ 1048576) : Ev (fun k => laws_eqIssuer.f k x.f0 x.f1 x.f2 x.f0 x.f1 x.f2) true := by
  unfold n107 at h
  unfold laws_eqIssuer.f
  simp only [if_true, bne_self_eq_false, Bool.false_eq_true, if_false]
  repeat (first | exact Ev.now _ | (refine Ev.bind (laws_eqIntS_refl _ (by omega)) ?_; simp only [if_true, bne_self_eq_false, Bool.false_eq_true, if_false]))

theorem laws_eqIssuerS_refl (l : List (S107)) (h : l.length + (l.map n107).sum ≤ 1048576) : Ev (fun k => laws_eqIssuerS.f k l l) true := by
  unfold laws_eqIssuerS.f
  refine Ev.pos rfl ?_
  refine ev_walk l (fun k i => laws_eqIssuerS.l0 k l l i) true ?_ ?_
  · refine Ev.succ ?_
    simp only [laws_eqIssuerS.l0, Int.lt_irrefl, if_false]
    exact Ev.now _
  · intro i x hx hr
    have hi := lt_of_get hx
    have h1 : ((i : Int) < (l.length : Int)) = True := eq_true (by omega)
    have h2 : (0 ≤ (i : Int)) = True := eq_true (by omega)
    refine Ev.succ ?_
    simp only [laws_eqIssuerS.l0, h1, h2, if_true, rd_at_T107 hx, wr1 hi (by omega)]
    refine Ev.bind (laws_eqIssuer_refl x (by have := le_sum n107 hx; omega)) ?_
    simp only [if_true]
    exact hr

theorem laws_eqIncludes_refl (x : S149) : laws_eqIncludes.f x.f0 x.f1 x.f0 x.f1 = some true := by
  unfold laws_eqIncludes.f
  simp

theorem laws_eqIncludesS_refl (l : List (S149)) (h : l.length ≤ 1048576) : Ev (fun k => laws_eqIncludesS.f k l l) true := by
  unfold laws_eqIncludesS.f
  refine Ev.pos rfl ?_
  refine ev_walk l (fun k i => laws_eqIncludesS.l0 k l l i) true ?_ ?_
  · refine Ev.succ ?_
    simp only [laws_eqIncludesS.l0, Int.lt_irrefl, if_false]
    exact Ev.now _
  · intro i x hx hr
    have hi := lt_of_get hx
    have h1 : ((i : Int) < (l.length : Int)) = True := eq_true (by omega)
    have h2 : (0 ≤ (i : Int)) = True := eq_true (by omega)
    refine Ev.succ ?_
    simp only [laws_eqIncludesS.l0, h1, h2, if_true, rd_at_T149 hx, wr1 hi (by omega), laws_eqIncludes_refl x, Option.bind_some]
    exact hr

theorem laws_eqCondS_reflN (N : Nat) : ∀ l : List S172, l.length + (l.map n172).sum ≤ N → N ≤ 1048576 → Ev (fun k => laws_eqCondS.f k l l) true := by
  induction N using Nat.strongRecOn with
  | _ N ih =>
  intro l h hN
  refine Ev.succ ?_
  simp only [laws_eqCondS.f]
  refine Ev.pos (by first | trivial | rfl) ?_
  refine ev_walk l (fun k i => laws_eqCondS.l0 k l l i) true ?_ ?_
  · refine Ev.succ ?_
    simp only [laws_eqCondS.l0, Int.lt_irrefl, if_false]
    exact Ev.now _
  · intro i x hx hr
    have hi := lt_of_get hx
    have h1 : ((i : Int) < (l.length : Int)) = True := eq_true (by omega)
    have h2 : (0 ≤ (i : Int)) = True := eq_true (by omega)
    have hn := le_sum n172 hx
    rw [n172_f] at hn
    have e := ih (x.f3.length + (x.f3.map n172).sum) (by omega) x.f3 (Nat.le_refl _) (by omega)
    have e' : Ev (fun k => laws_eqCond.f k x.f0 x.f1 x.f2 x.f3 x.f0 x.f1 x.f2 x.f3) true := by
      refine Ev.succ ?_
      simp only [laws_eqCond.f, if_true]
      refine Ev.bind e ?_
      simp only [if_true]
      exact Ev.now _
    refine Ev.succ ?_
    simp only [laws_eqCondS.l0, h1, h2, if_true, rd_at_T172 hx, wr1 hi (by omega)]
    refine Ev.bind e' ?_
    simp only [if_true]
    exact hr
theorem laws_eqCondS_refl (l : List S172) (h : l.length + (l.map n172).sum ≤ 1048576) : Ev (fun k => laws_eqCondS.f k l l) true := laws_eqCondS_reflN _ l (Nat.le_refl _) h
theorem laws_eqCond_refl (x : S172) (h : n172 x ≤ 1048576) : Ev (fun k => laws_eqCond.f k x.f0 x.f1 x.f2 x.f3 x.f0 x.f1 x.f2 x.f3) true := by
  rw [n172_f] at h
  refine Ev.succ ?_
  simp only [laws_eqCond.f, if_true]
  refine Ev.bind (laws_eqCondS_refl x.f3 h) ?_
  simp only [if_true]
  exact Ev.now _



theorem laws_eqRule_refl (x : S174) (h : n174 x ≤ 1048576) : Ev (fun k => laws_eqRule.f k x.f0 x.f1 x.f2 x.f3.f0 x.f3.f1 x.f3.f2 x.f3.f3 x.f0 x.f1 x.f2 x.f3.f0 x.f3.f1 x.f3.f2 x.f3.f3) true := by
  unfold n174 at h
  unfold laws_eqRule.f
  simp only [if_true, bne_self_eq_false, Bool.false_eq_true, if_false]
  repeat (first | exact Ev.now _ | (refine Ev.bind (laws_eqCond_refl _ (by omega)) ?_; simp only [if_true, bne_self_eq_false, Bool.false_eq_true, if_false]))

theorem laws_eqRuleS_refl (l : List (S174)) (h : l.length + (l.map n174).sum ≤ 1048576) : Ev (fun k => laws_eqRuleS.f k l l) true := by
  unfold laws_eqRuleS.f
  refine Ev.pos rfl ?_
  refine ev_walk l (fun k i => laws_eqRuleS.l0 k l l i) true ?_ ?_
  · refine Ev.succ ?_
    simp only [laws_eqRuleS.l0, Int.lt_irrefl, if_false]
    exact Ev.now _
  · intro i x hx hr
    have hi := lt_of_get hx
    have h1 : ((i : Int) < (l.length : Int)) = True := eq_true (by omega)
    have h2 : (0 ≤ (i : Int)) = True := eq_true (by omega)
    refine Ev.succ ?_
    simp only [laws_eqRuleS.l0, h1, h2, if_true, rd_at_T174 hx, wr1 hi (by omega)]
    refine Ev.bind (laws_eqRule_refl x (by have := le_sum n174 hx; omega)) ?_
    simp only [if_true]
    exact hr

theorem laws_eqPolicy_refl (x : S38) (h : n38 x ≤ 1048576) : Ev (fun k => laws_eqPolicy.f k x.f0 x.f1 x.f0 x.f1) true := by
  unfold n38 at h
  unfold laws_eqPolicy.f
  simp only [if_true, bne_self_eq_false, Bool.false_eq_true, if_false]
  repeat (first | exact Ev.now _ | (refine Ev.bind (laws_eqRuleS_refl _ (by omega)) ?_; simp only [if_true, bne_self_eq_false, Bool.false_eq_true, if_false]))

theorem laws_eqEpoch_refl (x : S40) (h : n40 x ≤ 1048576) : Ev (fun k => laws_eqEpoch.f k x.f0 x.f1 x.f2 x.f3.f0 x.f3.f1 x.f0 x.f1 x.f2 x.f3.f0 x.f3.f1) true := by
  unfold n40 at h
  unfold laws_eqEpoch.f
  simp only [if_true, bne_self_eq_false, Bool.false_eq_true, if_false]
  repeat (first | exact Ev.now _ | (refine Ev.bind (laws_eqIncludesS_refl _ (by omega)) ?_; simp only [if_true, bne_self_eq_false, Bool.false_eq_true, if_false]) | (refine Ev.bind (laws_eqPolicy_refl _ (by omega)) ?_; simp only [if_true, bne_self_eq_false, Bool.false_eq_true, if_false]))

theorem laws_eqEpochS_refl (l : List (S40)) (h : l.length + (l.map n40).sum ≤ 1048576) : Ev (fun k => laws_eqEpochS.f k l l) true := by
  unfold laws_eqEpochS.f
  refine Ev.pos rfl ?_
  refine ev_walk l (fun k i => laws_eqEpochS.l0 k l l i) true ?_ ?_
  · refine Ev.succ ?_
    simp only [laws_eqEpochS.l0, Int.lt_irrefl, if_false]
    exact Ev.now _
  · intro i x hx hr
    have hi := lt_of_get hx
    have h1 : ((i : Int) < (l.length : Int)) = True := eq_true (by omega)
    have h2 : (0 ≤ (i : Int)) = True := eq_true (by omega)
    refine Ev.succ ?_
    simp only [laws_eqEpochS.l0, h1, h2, if_true, rd_at_T40 hx, wr1 hi (by omega)]
    refine Ev.bind (laws_eqEpoch_refl x (by have := le_sum n40 hx; omega)) ?_
    simp only [if_true]
    exact hr

theorem laws_eqCert_refl (x : S118) : laws_eqCert.f x.f0 x.f1 x.f2 x.f3 x.f4 x.f5 x.f0 x.f1 x.f2 x.f3 x.f4 x.f5 = some true := by
  unfold laws_eqCert.f
  simp

theorem laws_eqCertS_refl (l : List (S118)) (h : l.length ≤ 1048576) : Ev (fun k => laws_eqCertS.f k l l) true := by
  unfold laws_eqCertS.f
  refine Ev.pos rfl ?_
  refine ev_walk l (fun k i => laws_eqCertS.l0 k l l i) true ?_ ?_
  · refine Ev.succ ?_
    simp only [laws_eqCertS.l0, Int.lt_irrefl, if_false]
    exact Ev.now _
  · intro i x hx hr
    have hi := lt_of_get hx
    have h1 : ((i : Int) < (l.length : Int)) = True := eq_true (by omega)
    have h2 : (0 ≤ (i : Int)) = True := eq_true (by omega)
    refine Ev.succ ?_
    simp only [laws_eqCertS.l0, h1, h2, if_true, rd_at_T118 hx, wr1 hi (by omega), laws_eqCert_refl x, Option.bind_some]
    exact hr

theorem laws_eqCenter_refl (x : S64) (h : n64 x ≤ 1048576) : Ev (fun k => laws_eqCenter.f k x.f0 x.f1 x.f2 x.f3 x.f4 x.f5 x.f0 x.f1 x.f2 x.f3 x.f4 x.f5) true := by
  unfold n64 at h
  unfold laws_eqCenter.f
  simp only [if_true, bne_self_eq_false, Bool.false_eq_true, if_false]
  repeat (first | exact Ev.now _ | (refine Ev.bind (laws_eqFactS_refl _ (by omega)) ?_; simp only [if_true, bne_self_eq_false, Bool.false_eq_true, if_false]) | (refine Ev.bind (laws_eqRevokedS_refl _ (by omega)) ?_; simp only [if_true, bne_self_eq_false, Bool.false_eq_true, if_false]) | (refine Ev.bind (laws_eqIssuerS_refl _ (by omega)) ?_; simp only [if_true, bne_self_eq_false, Bool.false_eq_true, if_false]) | (refine Ev.bind (laws_eqEpochS_refl _ (by omega)) ?_; simp only [if_true, bne_self_eq_false, Bool.false_eq_true, if_false]) | (refine Ev.bind (laws_eqCertS_refl _ (by omega)) ?_; simp only [if_true, bne_self_eq_false, Bool.false_eq_true, if_false]))

theorem laws_szFactS_le (l : List (S134)) (hl : l.length ≤ maxLen) (a : Int) (h0 : 0 ≤ a) (ha : a ≤ 1048576) : ∃ r, laws_szFactS.f l a = some r ∧ r ≤ 1048576 ∧ (0 ≤ r → r + (l.length : Nat) ≤ a) := by
  unfold laws_szFactS.f
  unfold maxLen at hl
  rw [wr (by omega) (by omega)]
  split
  · exact ⟨_, rfl, by omega, by omega⟩
  · exact ⟨_, rfl, by omega, by omega⟩

theorem laws_szRevokedS_le (l : List (S136)) (hl : l.length ≤ maxLen) (a : Int) (h0 : 0 ≤ a) (ha : a ≤ 1048576) : ∃ r, laws_szRevokedS.f l a = some r ∧ r ≤ 1048576 ∧ (0 ≤ r → r + (l.length : Nat) ≤ a) := by
  unfold laws_szRevokedS.f
  unfold maxLen at hl
  rw [wr (by omega) (by omega)]
  split
  · exact ⟨_, rfl, by omega, by omega⟩
  · exact ⟨_, rfl, by omega, by omega⟩

theorem laws_szIntS_le (l : List Int) (hl : l.length ≤ maxLen) (a : Int) (h0 : 0 ≤ a) (ha : a ≤ 1048576) : ∃ r, laws_szIntS.f l a = some r ∧ r ≤ 1048576 ∧ (0 ≤ r → r + (l.length : Nat) ≤ a) := by
  unfold laws_szIntS.f
  unfold maxLen at hl
  rw [wr (by omega) (by omega)]
  split
  · exact ⟨_, rfl, by omega, by omega⟩
  · exact ⟨_, rfl, by omega, by omega⟩

theorem laws_szIssuer_le (x : S154) (hg : g154 x) (a : Int) (h0 : 0 ≤ a) (ha : a ≤ 1048576) : ∃ r, laws_szIssuer.f x.f0 x.f1 x.f2 a = some r ∧ r ≤ 1048576 ∧ (0 ≤ r → r + (n154 x : Nat) ≤ a) := by
  unfold g154 at hg
  unfold n154 laws_szIssuer.f
  obtain ⟨r0, e0, b0, s0⟩ := laws_szIntS_le x.f1 (by have := hg; simp_all) a (by omega) (by omega)
  rw [e0]; simp only [Option.bind_some]
  by_cases c0 : r0 < 0
  · rw [if_pos c0]; exact ⟨_, rfl, by omega, by omega⟩
  rw [if_neg c0]
  have s0' := s0 (by omega)
  exact ⟨_, rfl, by omega, by omega⟩

theorem laws_szIssuerS_le (l : List (S154)) (hl : l.length ≤ maxLen) (hg : ∀ y_ ∈ l, g154 y_) (a : Int) (h0 : 0 ≤ a) (ha : a ≤ 1048576) : ∃ r, Ev (fun k => laws_szIssuerS.f k l a) r ∧ r ≤ 1048576 ∧ (0 ≤ r → r + (l.length + (l.map n154).sum : Nat) ≤ a) := by
  unfold laws_szIssuerS.f
  unfold maxLen at hl
  rw [wr (by omega) (by omega)]
  by_cases c : a - (l.length : Int) < 0
  · simp only [if_pos c]; exact ⟨_, Ev.now _, by omega, by omega⟩
  simp only [if_neg c]
  have hend : ∀ a, Ev (fun k => laws_szIssuerS.l0 k l a (l.length : Int)) a := by
    intro a
    refine Ev.succ ?_
    simp only [laws_szIssuerS.l0, Int.lt_irrefl, if_false]
    exact Ev.now _
  have hstep : ∀ (i : Nat) (x : S154) (a : Int), l[i]? = some x → 0 ≤ a → a ≤ 1048576 → (∃ r, Ev (fun k => laws_szIssuerS.l0 k l a (i : Int)) r ∧ r < 0) ∨ ∃ a', 0 ≤ a' ∧ a' + n154 x ≤ a ∧ ∀ r, Ev (fun k => laws_szIssuerS.l0 k l a' ((i + 1 : Nat) : Int)) r → Ev (fun k => laws_szIssuerS.l0 k l a (i : Int)) r := by
    intro i x a hx h0 ha
    have hi := lt_of_get hx
    have h1 : ((i : Int) < (l.length : Int)) = True := eq_true (by omega)
    have h2 : (0 ≤ (i : Int)) = True := eq_true (by omega)
    obtain ⟨r, e, b, s⟩ := laws_szIssuer_le x (hg x (List.mem_of_getElem? hx)) a h0 ha
    by_cases c2 : r < 0
    · left
      refine ⟨-1, Ev.succ ?_, by omega⟩
      simp only [laws_szIssuerS.l0, h1, h2, if_true, rd_at_T154 hx, e, Option.bind_some, if_pos c2]
      exact Ev.now _
    · right
      have s' := s (by omega)
      refine ⟨r, by omega, by omega, fun r' hr => Ev.succ ?_⟩
      simp only [laws_szIssuerS.l0, h1, h2, if_true, rd_at_T154 hx, e, Option.bind_some, if_neg c2, wr1 hi (by omega)]
      exact hr
  obtain ⟨r, h1, h2, h3⟩ := ev_sz n154 l (fun k a i => laws_szIssuerS.l0 k l a i) 1048576 hend hstep (a - l.length) (by omega) (by omega)
  exact ⟨r, h1, h2, fun h => by have := h3 h; omega⟩

theorem laws_szIncludesS_le (l : List (S164)) (hl : l.length ≤ maxLen) (a : Int) (h0 : 0 ≤ a) (ha : a ≤ 1048576) : ∃ r, laws_szIncludesS.f l a = some r ∧ r ≤ 1048576 ∧ (0 ≤ r → r + (l.length : Nat) ≤ a) := by
  unfold laws_szIncludesS.f
  unfold maxLen at hl
  rw [wr (by omega) (by omega)]
  split
  · exact ⟨_, rfl, by omega, by omega⟩
  · exact ⟨_, rfl, by omega, by omega⟩

theorem gin183 {x : S183} (h : g183 x) : x.f3.length ≤ maxLen ∧ ∀ y ∈ x.f3, g183 y := by
  obtain ⟨k, h⟩ := h
  cases k with
  | zero => exact h.elim
  | succ k =>
    obtain ⟨_, _, _, h1, h2⟩ := (show GF183 _ x from h)
    exact ⟨h1, fun y hy => ⟨k, h2 y hy⟩⟩
theorem laws_szCondS_leN (N : Nat) : ∀ (l : List S183) (hl : l.length ≤ maxLen) (hg : ∀ y ∈ l, g183 y) (a : Int), 0 ≤ a → a ≤ 1048576 → a.toNat ≤ N → ∃ r, Ev (fun k => laws_szCondS.f k l a) r ∧ r ≤ 1048576 ∧ (0 ≤ r → r + (l.length + (l.map n183).sum : Nat) ≤ a) := by
  induction N using Nat.strongRecOn with
  | _ N ih =>
  intro l hl hg a h0 ha hN
  unfold maxLen at hl
  by_cases c : a - (l.length : Int) < 0
  · refine ⟨-1, Ev.succ ?_, by omega, by omega⟩
    simp only [laws_szCondS.f, wr (x := a - (l.length : Int)) (by omega) (by omega), if_pos c]
    exact Ev.now _
  have hend : ∀ a, Ev (fun k => laws_szCondS.l0 k l a (l.length : Int)) a := by
    intro a
    refine Ev.succ ?_
    simp only [laws_szCondS.l0, Int.lt_irrefl, if_false]
    exact Ev.now _
  have hstep : ∀ (i : Nat) (x : S183) (b : Int), l[i]? = some x → 0 ≤ b → b ≤ a - (l.length : Int) → (∃ r, Ev (fun k => laws_szCondS.l0 k l b (i : Int)) r ∧ r < 0) ∨ ∃ a', 0 ≤ a' ∧ a' + n183 x ≤ b ∧ ∀ r, Ev (fun k => laws_szCondS.l0 k l a' ((i + 1 : Nat) : Int)) r → Ev (fun k => laws_szCondS.l0 k l b (i : Int)) r := by
    intro i x b hx hb0 hba
    have hi := lt_of_get hx
    have h1 : ((i : Int) < (l.length : Int)) = True := eq_true (by omega)
    have h2 : (0 ≤ (i : Int)) = True := eq_true (by omega)
    have hgx := gin183 (hg x (List.mem_of_getElem? hx))
    obtain ⟨r, e, br, s⟩ := ih b.toNat (by omega) x.f3 hgx.1 hgx.2 b hb0 (by omega) (Nat.le_refl _)
    have e' : Ev (fun k => laws_szCond.f k x.f0 x.f1 x.f2 x.f3 b) (if r < 0 then -1 else r) := by
      refine Ev.succ ?_
      simp only [laws_szCond.f]
      refine Ev.bind e ?_
      by_cases c2 : r < 0
      · simp only [if_pos c2]; exact Ev.now _
      · simp only [if_neg c2]; exact Ev.now _
    by_cases c2 : r < 0
    · left
      rw [if_pos c2] at e'
      refine ⟨-1, Ev.succ ?_, by omega⟩
      simp only [laws_szCondS.l0, h1, h2, if_true, rd_at_T183 hx]
      refine Ev.bind e' ?_
      exact Ev.pos (by omega) (Ev.now _)
    · right
      rw [if_neg c2] at e'
      have s' := s (by omega)
      rw [← n183_f] at s'
      refine ⟨r, by omega, by omega, fun r' hr => Ev.succ ?_⟩
      simp only [laws_szCondS.l0, h1, h2, if_true, rd_at_T183 hx]
      refine Ev.bind e' ?_
      simp only [if_neg c2, wr1 hi (by omega)]
      exact hr
  obtain ⟨r, h1, h2, h3⟩ := ev_sz n183 l (fun k a i => laws_szCondS.l0 k l a i) (a - (l.length : Int)) hend hstep (a - (l.length : Int)) (by omega) (by omega)
  refine ⟨r, Ev.succ ?_, by omega, fun h => by have := h3 h; omega⟩
  simp only [laws_szCondS.f, wr (x := a - (l.length : Int)) (by omega) (by omega), if_neg c]
  exact h1
theorem laws_szCondS_le (l : List S183) (hl : l.length ≤ maxLen) (hg : ∀ y ∈ l, g183 y) (a : Int) (h0 : 0 ≤ a) (ha : a ≤ 1048576) : ∃ r, Ev (fun k => laws_szCondS.f k l a) r ∧ r ≤ 1048576 ∧ (0 ≤ r → r + (l.length + (l.map n183).sum : Nat) ≤ a) := laws_szCondS_leN _ l hl hg a h0 ha (Nat.le_refl _)
theorem laws_szCond_le (x : S183) (hg : g183 x) (a : Int) (h0 : 0 ≤ a) (ha : a ≤ 1048576) : ∃ r, Ev (fun k => laws_szCond.f k x.f0 x.f1 x.f2 x.f3 a) r ∧ r ≤ 1048576 ∧ (0 ≤ r → r + (n183 x : Nat) ≤ a) := by
  have hgx := gin183 hg
  obtain ⟨r, e, b, s⟩ := laws_szCondS_le x.f3 hgx.1 hgx.2 a h0 ha
  by_cases c : r < 0
  · refine ⟨-1, Ev.succ ?_, by omega, by omega⟩
    simp only [laws_szCond.f]
    refine Ev.bind e ?_
    simp only [if_pos c]; exact Ev.now _
  · refine ⟨r, Ev.succ ?_, b, fun h => by rw [n183_f]; exact s h⟩
    simp only [laws_szCond.f]
    refine Ev.bind e ?_
    simp only [if_neg c]; exact Ev.now _



theorem laws_szRule_le (x : S185) (hg : g185 x) (a : Int) (h0 : 0 ≤ a) (ha : a ≤ 1048576) : ∃ r, Ev (fun k => laws_szRule.f k x.f0 x.f1 x.f2 x.f3.f0 x.f3.f1 x.f3.f2 x.f3.f3 a) r ∧ r ≤ 1048576 ∧ (0 ≤ r → r + (n185 x : Nat) ≤ a) := by
  unfold g185 at hg
  unfold n185 laws_szRule.f
  obtain ⟨r0, e0, b0, s0⟩ := laws_szCond_le x.f3 (by have := hg; simp_all) a (by omega) (by omega)
  by_cases c0 : r0 < 0
  · exact ⟨-1, by refine Ev.bind e0 ?_; simp only [if_pos c0]; exact Ev.now _, by omega, by omega⟩
  have s0' := s0 (by omega)
  exact ⟨r0, by refine Ev.bind e0 ?_; simp only [if_neg c0]; exact Ev.now _, by omega, fun _ => by omega⟩

theorem laws_szRuleS_le (l : List (S185)) (hl : l.length ≤ maxLen) (hg : ∀ y_ ∈ l, g185 y_) (a : Int) (h0 : 0 ≤ a) (ha : a ≤ 1048576) : ∃ r, Ev (fun k => laws_szRuleS.f k l a) r ∧ r ≤ 1048576 ∧ (0 ≤ r → r + (l.length + (l.map n185).sum : Nat) ≤ a) := by
  unfold laws_szRuleS.f
  unfold maxLen at hl
  rw [wr (by omega) (by omega)]
  by_cases c : a - (l.length : Int) < 0
  · simp only [if_pos c]; exact ⟨_, Ev.now _, by omega, by omega⟩
  simp only [if_neg c]
  have hend : ∀ a, Ev (fun k => laws_szRuleS.l0 k l a (l.length : Int)) a := by
    intro a
    refine Ev.succ ?_
    simp only [laws_szRuleS.l0, Int.lt_irrefl, if_false]
    exact Ev.now _
  have hstep : ∀ (i : Nat) (x : S185) (a : Int), l[i]? = some x → 0 ≤ a → a ≤ 1048576 → (∃ r, Ev (fun k => laws_szRuleS.l0 k l a (i : Int)) r ∧ r < 0) ∨ ∃ a', 0 ≤ a' ∧ a' + n185 x ≤ a ∧ ∀ r, Ev (fun k => laws_szRuleS.l0 k l a' ((i + 1 : Nat) : Int)) r → Ev (fun k => laws_szRuleS.l0 k l a (i : Int)) r := by
    intro i x a hx h0 ha
    have hi := lt_of_get hx
    have h1 : ((i : Int) < (l.length : Int)) = True := eq_true (by omega)
    have h2 : (0 ≤ (i : Int)) = True := eq_true (by omega)
    obtain ⟨r, e, b, s⟩ := laws_szRule_le x (hg x (List.mem_of_getElem? hx)) a h0 ha
    by_cases c2 : r < 0
    · left
      refine ⟨-1, Ev.succ ?_, by omega⟩
      simp only [laws_szRuleS.l0, h1, h2, if_true, rd_at_T185 hx]
      refine Ev.bind e ?_
      simp only [if_pos c2]
      exact Ev.now _
    · right
      have s' := s (by omega)
      refine ⟨r, by omega, by omega, fun r' hr => Ev.succ ?_⟩
      simp only [laws_szRuleS.l0, h1, h2, if_true, rd_at_T185 hx]
      refine Ev.bind e ?_
      simp only [if_neg c2, wr1 hi (by omega)]
      exact hr
  obtain ⟨r, h1, h2, h3⟩ := ev_sz n185 l (fun k a i => laws_szRuleS.l0 k l a i) 1048576 hend hstep (a - l.length) (by omega) (by omega)
  exact ⟨r, h1, h2, fun h => by have := h3 h; omega⟩

theorem laws_szPolicy_le (x : S25) (hg : g25 x) (a : Int) (h0 : 0 ≤ a) (ha : a ≤ 1048576) : ∃ r, Ev (fun k => laws_szPolicy.f k x.f0 x.f1 a) r ∧ r ≤ 1048576 ∧ (0 ≤ r → r + (n25 x : Nat) ≤ a) := by
  unfold g25 at hg
  unfold n25 laws_szPolicy.f
  obtain ⟨r0, e0, b0, s0⟩ := laws_szRuleS_le x.f1 (by have := hg; simp_all) (by have := hg; simp_all) a (by omega) (by omega)
  by_cases c0 : r0 < 0
  · exact ⟨-1, by refine Ev.bind e0 ?_; simp only [if_pos c0]; exact Ev.now _, by omega, by omega⟩
  have s0' := s0 (by omega)
  exact ⟨r0, by refine Ev.bind e0 ?_; simp only [if_neg c0]; exact Ev.now _, by omega, fun _ => by omega⟩

theorem laws_szEpoch_le (x : S27) (hg : g27 x) (a : Int) (h0 : 0 ≤ a) (ha : a ≤ 1048576) : ∃ r, Ev (fun k => laws_szEpoch.f k x.f0 x.f1 x.f2 x.f3.f0 x.f3.f1 a) r ∧ r ≤ 1048576 ∧ (0 ≤ r → r + (n27 x : Nat) ≤ a) := by
  unfold g27 at hg
  unfold n27 laws_szEpoch.f
  obtain ⟨r0, e0, b0, s0⟩ := laws_szIncludesS_le x.f2 (by have := hg; simp_all) a (by omega) (by omega)
  by_cases c0 : r0 < 0
  · exact ⟨-1, by simp only [e0, Option.bind_some]; simp only [if_pos c0]; exact Ev.now _, by omega, by omega⟩
  have s0' := s0 (by omega)
  obtain ⟨r1, e1, b1, s1⟩ := laws_szPolicy_le x.f3 (by have := hg; simp_all) r0 (by omega) (by omega)
  by_cases c1 : r1 < 0
  · exact ⟨-1, by simp only [e0, Option.bind_some]; simp only [if_neg c0]; refine Ev.bind e1 ?_; simp only [if_pos c1]; exact Ev.now _, by omega, by omega⟩
  have s1' := s1 (by omega)
  exact ⟨r1, by simp only [e0, Option.bind_some]; simp only [if_neg c0]; refine Ev.bind e1 ?_; simp only [if_neg c1]; exact Ev.now _, by omega, fun _ => by omega⟩

theorem laws_szEpochS_le (l : List (S27)) (hl : l.length ≤ maxLen) (hg : ∀ y_ ∈ l, g27 y_) (a : Int) (h0 : 0 ≤ a) (ha : a ≤ 1048576) : ∃ r, Ev (fun k => laws_szEpochS.f k l a) r ∧ r ≤ 1048576 ∧ (0 ≤ r → r + (l.length + (l.map n27).sum : Nat) ≤ a) := by
  unfold laws_szEpochS.f
  unfold maxLen at hl
  rw [wr (by omega) (by omega)]
  by_cases c : a - (l.length : Int) < 0
  · simp only [if_pos c]; exact ⟨_, Ev.now _, by omega, by omega⟩
  simp only [if_neg c]
  have hend : ∀ a, Ev (fun k => laws_szEpochS.l0 k l a (l.length : Int)) a := by
    intro a
    refine Ev.succ ?_
    simp only [laws_szEpochS.l0, Int.lt_irrefl, if_false]
    exact Ev.now _
  have hstep : ∀ (i : Nat) (x : S27) (a : Int), l[i]? = some x → 0 ≤ a → a ≤ 1048576 → (∃ r, Ev (fun k => laws_szEpochS.l0 k l a (i : Int)) r ∧ r < 0) ∨ ∃ a', 0 ≤ a' ∧ a' + n27 x ≤ a ∧ ∀ r, Ev (fun k => laws_szEpochS.l0 k l a' ((i + 1 : Nat) : Int)) r → Ev (fun k => laws_szEpochS.l0 k l a (i : Int)) r := by
    intro i x a hx h0 ha
    have hi := lt_of_get hx
    have h1 : ((i : Int) < (l.length : Int)) = True := eq_true (by omega)
    have h2 : (0 ≤ (i : Int)) = True := eq_true (by omega)
    obtain ⟨r, e, b, s⟩ := laws_szEpoch_le x (hg x (List.mem_of_getElem? hx)) a h0 ha
    by_cases c2 : r < 0
    · left
      refine ⟨-1, Ev.succ ?_, by omega⟩
      simp only [laws_szEpochS.l0, h1, h2, if_true, rd_at_T27 hx]
      refine Ev.bind e ?_
      simp only [if_pos c2]
      exact Ev.now _
    · right
      have s' := s (by omega)
      refine ⟨r, by omega, by omega, fun r' hr => Ev.succ ?_⟩
      simp only [laws_szEpochS.l0, h1, h2, if_true, rd_at_T27 hx]
      refine Ev.bind e ?_
      simp only [if_neg c2, wr1 hi (by omega)]
      exact hr
  obtain ⟨r, h1, h2, h3⟩ := ev_sz n27 l (fun k a i => laws_szEpochS.l0 k l a i) 1048576 hend hstep (a - l.length) (by omega) (by omega)
  exact ⟨r, h1, h2, fun h => by have := h3 h; omega⟩

theorem laws_szCertS_le (l : List (S158)) (hl : l.length ≤ maxLen) (a : Int) (h0 : 0 ≤ a) (ha : a ≤ 1048576) : ∃ r, laws_szCertS.f l a = some r ∧ r ≤ 1048576 ∧ (0 ≤ r → r + (l.length : Nat) ≤ a) := by
  unfold laws_szCertS.f
  unfold maxLen at hl
  rw [wr (by omega) (by omega)]
  split
  · exact ⟨_, rfl, by omega, by omega⟩
  · exact ⟨_, rfl, by omega, by omega⟩

theorem laws_szCenter_le (x : S73) (hg : g73 x) (a : Int) (h0 : 0 ≤ a) (ha : a ≤ 1048576) : ∃ r, Ev (fun k => laws_szCenter.f k x.f0 x.f1 x.f2 x.f3 x.f4 x.f5 a) r ∧ r ≤ 1048576 ∧ (0 ≤ r → r + (n73 x : Nat) ≤ a) := by
  unfold g73 at hg
  unfold n73 laws_szCenter.f
  obtain ⟨r0, e0, b0, s0⟩ := laws_szIssuerS_le x.f0 (by have := hg; simp_all) (by have := hg; simp_all) a (by omega) (by omega)
  by_cases c0 : r0 < 0
  · exact ⟨-1, by refine Ev.bind e0 ?_; simp only [if_pos c0]; exact Ev.now _, by omega, by omega⟩
  have s0' := s0 (by omega)
  obtain ⟨r1, e1, b1, s1⟩ := laws_szEpochS_le x.f1 (by have := hg; simp_all) (by have := hg; simp_all) r0 (by omega) (by omega)
  by_cases c1 : r1 < 0
  · exact ⟨-1, by refine Ev.bind e0 ?_; simp only [if_neg c0]; refine Ev.bind e1 ?_; simp only [if_pos c1]; exact Ev.now _, by omega, by omega⟩
  have s1' := s1 (by omega)
  obtain ⟨r2, e2, b2, s2⟩ := laws_szFactS_le x.f2 (by have := hg; simp_all) r1 (by omega) (by omega)
  by_cases c2 : r2 < 0
  · exact ⟨-1, by refine Ev.bind e0 ?_; simp only [if_neg c0]; refine Ev.bind e1 ?_; simp only [if_neg c1]; simp only [e2, Option.bind_some]; simp only [if_pos c2]; exact Ev.now _, by omega, by omega⟩
  have s2' := s2 (by omega)
  obtain ⟨r3, e3, b3, s3⟩ := laws_szRevokedS_le x.f3 (by have := hg; simp_all) r2 (by omega) (by omega)
  by_cases c3 : r3 < 0
  · exact ⟨-1, by refine Ev.bind e0 ?_; simp only [if_neg c0]; refine Ev.bind e1 ?_; simp only [if_neg c1]; simp only [e2, Option.bind_some]; simp only [if_neg c2]; simp only [e3, Option.bind_some]; simp only [if_pos c3]; exact Ev.now _, by omega, by omega⟩
  have s3' := s3 (by omega)
  obtain ⟨r4, e4, b4, s4⟩ := laws_szCertS_le x.f5 (by have := hg; simp_all) r3 (by omega) (by omega)
  by_cases c4 : r4 < 0
  · exact ⟨-1, by refine Ev.bind e0 ?_; simp only [if_neg c0]; refine Ev.bind e1 ?_; simp only [if_neg c1]; simp only [e2, Option.bind_some]; simp only [if_neg c2]; simp only [e3, Option.bind_some]; simp only [if_neg c3]; simp only [e4, Option.bind_some]; simp only [if_pos c4]; exact Ev.now _, by omega, by omega⟩
  have s4' := s4 (by omega)
  exact ⟨r4, by refine Ev.bind e0 ?_; simp only [if_neg c0]; refine Ev.bind e1 ?_; simp only [if_neg c1]; simp only [e2, Option.bind_some]; simp only [if_neg c2]; simp only [e3, Option.bind_some]; simp only [if_neg c3]; simp only [e4, Option.bind_some]; simp only [if_neg c4]; exact Ev.now _, by omega, fun _ => by omega⟩

theorem spec_l24Pairs_ev (l m : List S149) (h : l.length ≤ 1048576) : Ev (fun k => spec_l24Pairs.f k l m) (decide (l.length = m.length) && allZ eqT149 l m) := by
  unfold spec_l24Pairs.f
  refine Ev.dlen fun c => ev_allz eqT149 l m c (fun k i => spec_l24Pairs.l0 k l m i) ?_ ?_
  · refine Ev.succ ?_
    simp only [spec_l24Pairs.l0, Int.lt_irrefl, if_false]
    exact Ev.now _
  · intro i x y r hx hy hr
    have hi := lt_of_get hx
    have h1 : ((i : Int) < (l.length : Int)) = True := eq_true (by omega)
    have h2 : (0 ≤ (i : Int)) = True := eq_true (by omega)
    have h3 : ((i : Int) < (m.length : Int)) = True := eq_true (by omega)
    refine Ev.succ ?_
    simp only [spec_l24Pairs.l0, h1, h2, h3, if_true, rd_at_T149 hx, rd_at_T149 hy, wr1 hi (by omega)]
    exact ev_ne (by simp only [eqT149, Bool.not_and, Bool.or_assoc]) hr

mutual
def eqC : S172 → S172 → Bool
  | ⟨a, b, c, l⟩, ⟨a', b', c', l'⟩ => decide (a = a') && (decide (b = b') && (decide (c = c') && (decide (l.length = l'.length) && eqCL l l')))
def eqCL : List S172 → List S172 → Bool
  | [], _ => true
  | _ :: _, [] => true
  | x :: xs, y :: ys => eqC x y && eqCL xs ys
end
theorem eqCL_allZ : ∀ l m : List S172, eqCL l m = allZ eqC l m
  | [], m => by cases m <;> simp [eqCL, allZ]
  | _ :: _, [] => by simp [eqCL, allZ]
  | x :: xs, y :: ys => by simp only [eqCL, allZ, eqCL_allZ xs ys]
theorem eqC_f (x y : S172) : eqC x y = (decide (x.f0 = y.f0) && (decide (x.f1 = y.f1) && (decide (x.f2 = y.f2) && (decide (x.f3.length = y.f3.length) && allZ eqC x.f3 y.f3)))) := by
  cases x; cases y
  simp only [eqC, eqCL_allZ]
def eqR (x y : S174) : Bool := decide (x.f0 = y.f0) && (decide (x.f1 = y.f1) && (decide (x.f2 = y.f2) && eqC x.f3 y.f3))
def eqPol (a : Int) (l : List S174) (b : Int) (m : List S174) : Bool := decide (a = b) && (decide (l.length = m.length) && allZ eqR l m)
theorem rule_le {l : List S174} {x : S174} (h : x ∈ l) : n172 x.f3 ≤ (l.map n174).sum := by
  obtain ⟨j, hj⟩ := List.getElem?_of_mem h
  have := le_sum n174 hj
  simpa only [n174] using this
theorem spec_EqualConds_evN (N : Nat) : ∀ x y : S172, n172 x ≤ N → N ≤ 1048576 → Ev (fun k => spec_EqualConds.f k x.f0 x.f1 x.f2 x.f3 y.f0 y.f1 y.f2 y.f3) (eqC x y) := by
  induction N using Nat.strongRecOn with
  | _ N ih =>
  intro x y h hN
  rw [n172_f] at h
  rw [eqC_f]
  refine Ev.succ ?_
  simp only [spec_EqualConds.f]
  refine Ev.dand fun _ => Ev.dand fun _ => Ev.dand fun _ => Ev.dlen fun c => ?_
  refine ev_allz eqC x.f3 y.f3 c (fun k i => spec_EqualConds.l0 k i x.f0 x.f1 x.f2 x.f3 y.f0 y.f1 y.f2 y.f3) ?_ ?_
  · refine Ev.succ ?_
    simp only [spec_EqualConds.l0, Int.lt_irrefl, if_false]
    exact Ev.now _
  · intro i a b r ha hb hr
    have hi := lt_of_get ha
    have hn := le_sum n172 ha
    have h1 : ((i : Int) < (x.f3.length : Int)) = True := eq_true (by omega)
    have h2 : (0 ≤ (i : Int)) = True := eq_true (by omega)
    have h3 : ((i : Int) < (y.f3.length : Int)) = True := eq_true (by omega)
    refine Ev.succ ?_
    simp only [spec_EqualConds.l0, h1, h2, h3, if_true, rd_at_T172 ha, rd_at_T172 hb, wr1 hi (by omega)]
    exact Ev.band (ih (n172 a) (by omega) a b (Nat.le_refl _) (by omega)) (fun _ => hr)
theorem spec_EqualConds_ev (x y : S172) (h : n172 x ≤ 1048576) : Ev (fun k => spec_EqualConds.f k x.f0 x.f1 x.f2 x.f3 y.f0 y.f1 y.f2 y.f3) (eqC x y) := spec_EqualConds_evN _ x y (Nat.le_refl _) h

theorem spec_EqualPolicies_ev (a : Int) (l : List S174) (b : Int) (m : List S174) (h : l.length + (l.map n174).sum ≤ 1048576) : Ev (fun k => spec_EqualPolicies.f k a l b m) (eqPol a l b m) := by
  unfold spec_EqualPolicies.f eqPol
  refine Ev.dand fun _ => Ev.dlen fun c => ?_
  refine ev_allz eqR l m c (fun k i => spec_EqualPolicies.l0 k i a l b m) ?_ ?_
  · refine Ev.succ ?_
    simp only [spec_EqualPolicies.l0, Int.lt_irrefl, if_false]
    exact Ev.now _
  · intro i x y r hx hy hr
    have hi := lt_of_get hx
    have hn := rule_le (List.mem_of_getElem? hx)
    have h1 : ((i : Int) < (l.length : Int)) = True := eq_true (by omega)
    have h2 : (0 ≤ (i : Int)) = True := eq_true (by omega)
    have h3 : ((i : Int) < (m.length : Int)) = True := eq_true (by omega)
    refine Ev.succ ?_
    simp only [spec_EqualPolicies.l0, h1, h2, h3, if_true, rd_at_T174 hx, rd_at_T174 hy, wr1 hi (by omega), eqR, Bool.and_assoc]
    exact Ev.dand fun _ => Ev.dand fun _ => Ev.dand fun _ => Ev.band (spec_EqualConds_ev x.f3 y.f3 (by omega)) (fun _ => hr)

def eqEp (a0 a1 : Int) (l2 : List S149) (a3 : Int) (l4 : List S174) (b0 b1 : Int) (m2 : List S149) (b3 : Int) (m4 : List S174) : Bool := decide (a0 = b0) && (decide (a1 = b1) && ((decide (l2.length = m2.length) && allZ eqT149 l2 m2) && eqPol a3 l4 b3 m4))
theorem spec_EqualEpochs_ev (a0 a1 : Int) (l2 : List S149) (a3 : Int) (l4 : List S174) (b0 b1 : Int) (m2 : List S149) (b3 : Int) (m4 : List S174) (h2 : l2.length ≤ 1048576) (h4 : l4.length + (l4.map n174).sum ≤ 1048576) : Ev (fun k => spec_EqualEpochs.f k a0 a1 l2 a3 l4 b0 b1 m2 b3 m4) (eqEp a0 a1 l2 a3 l4 b0 b1 m2 b3 m4) := by
  unfold spec_EqualEpochs.f eqEp
  exact Ev.dand fun _ => Ev.dand fun _ => Ev.band (spec_l24Pairs_ev l2 m2 h2) fun _ => Ev.bid (spec_EqualPolicies_ev a3 l4 b3 m4 h4)

theorem spec_EqualStores_ev (l m : List S132) (h : l.length ≤ 1048576) : Ev (fun k => spec_EqualStores.f k l m) (decide (l.length = m.length) && allZ eqT132 l m) := by
  unfold spec_EqualStores.f
  refine Ev.dlen fun c => ev_allz eqT132 l m c (fun k i => spec_EqualStores.l0 k l m i) ?_ ?_
  · refine Ev.succ ?_
    simp only [spec_EqualStores.l0, Int.lt_irrefl, if_false]
    exact Ev.now _
  · intro i x y r hx hy hr
    have hi := lt_of_get hx
    have h1 : ((i : Int) < (l.length : Int)) = True := eq_true (by omega)
    have h2 : (0 ≤ (i : Int)) = True := eq_true (by omega)
    have h3 : ((i : Int) < (m.length : Int)) = True := eq_true (by omega)
    refine Ev.succ ?_
    simp only [spec_EqualStores.l0, h1, h2, h3, if_true, rd_at_T132 hx, rd_at_T132 hy, wr1 hi (by omega)]
    exact ev_ne (by simp only [eqT132, Bool.not_and, Bool.or_assoc]) hr

theorem spec_l27Revoked_ev (l m : List S99) (h : l.length ≤ 1048576) : Ev (fun k => spec_l27Revoked.f k l m) (decide (l.length = m.length) && allZ eqT99 l m) := by
  unfold spec_l27Revoked.f
  refine Ev.dlen fun c => ev_allz eqT99 l m c (fun k i => spec_l27Revoked.l0 k l m i) ?_ ?_
  · refine Ev.succ ?_
    simp only [spec_l27Revoked.l0, Int.lt_irrefl, if_false]
    exact Ev.now _
  · intro i x y r hx hy hr
    have hi := lt_of_get hx
    have h1 : ((i : Int) < (l.length : Int)) = True := eq_true (by omega)
    have h2 : (0 ≤ (i : Int)) = True := eq_true (by omega)
    have h3 : ((i : Int) < (m.length : Int)) = True := eq_true (by omega)
    refine Ev.succ ?_
    simp only [spec_l27Revoked.l0, h1, h2, h3, if_true, rd_at_T99 hx, rd_at_T99 hy, wr1 hi (by omega)]
    exact ev_ne (by simp only [eqT99, Bool.not_and, Bool.or_assoc]) hr

theorem spec_EqualInts_ev (l m : List Int) (h : l.length ≤ 9223372036854775807) : Ev (fun k => spec_EqualInts.f k l m) (decide (l = m)) := by
  unfold spec_EqualInts.f
  by_cases c : l.length = m.length
  · have e : decide (l = m) = (allN l.length (fun i => decide (l.getD i 0 = m.getD i 0)) && true) := by
      rw [← allZ_eq l m c, allZ_allN _ l m 0 0 c, Bool.and_true]
    rw [e]
    refine Ev.pos (by omega) (ev_all l.length _ true (fun k i => spec_EqualInts.l0 k l m i) ?_ ?_)
    · refine Ev.succ ?_
      simp only [spec_EqualInts.l0, Int.lt_irrefl, if_false]
      exact Ev.now _
    · intro i hi
      have h1 : ((i : Int) < (l.length : Int)) = True := eq_true (by omega)
      have h2 : (0 ≤ (i : Int)) = True := eq_true (by omega)
      have h3 : ((i : Int) < (m.length : Int)) = True := eq_true (by omega)
      have h4 := wr1 hi h
      have r1 : rd l (i : Int) = l.getD i 0 := by simp [rd]
      have r2 : rd m (i : Int) = m.getD i 0 := by simp [rd]
      refine ⟨fun hp r hr => ?_, fun hp => ?_⟩
      · refine Ev.succ ?_
        simp only [spec_EqualInts.l0, h1, h2, h3, if_true, h4, r1, r2, if_pos (of_decide_eq_true hp)]
        exact hr
      · refine Ev.succ ?_
        simp only [spec_EqualInts.l0, h1, h2, h3, if_true, h4, r1, r2, if_neg (of_decide_eq_false hp)]
        exact Ev.now _
  · rw [show decide (l = m) = false from decide_eq_false (fun e => c (by rw [e]))]
    exact Ev.neg (by omega) (Ev.now _)

def rowB {α : Type} (p : α → α → Bool) (l m : List α) : Bool := decide (l.length = m.length) && allZ p l m
def eqIs (x y : S107) : Bool := decide (x.f0 = y.f0) && (decide (x.f2 = y.f2) && decide (x.f1 = y.f1))
theorem spec_l28Issuers_ev (l m : List S107) (h : l.length + (l.map n107).sum ≤ 1048576) : Ev (fun k => spec_l28Issuers.f k l m) (rowB eqIs l m) := by
  unfold spec_l28Issuers.f rowB
  refine Ev.dlen fun c => ev_allz eqIs l m c (fun k i => spec_l28Issuers.l0 k l m i) ?_ ?_
  · refine Ev.succ ?_
    simp only [spec_l28Issuers.l0, Int.lt_irrefl, if_false]
    exact Ev.now _
  · intro i x y r hx hy hr
    have hi := lt_of_get hx
    have hn := le_sum n107 hx
    have e : n107 x = x.f1.length := rfl
    have h1 : ((i : Int) < (l.length : Int)) = True := eq_true (by omega)
    have h2 : (0 ≤ (i : Int)) = True := eq_true (by omega)
    have h3 : ((i : Int) < (m.length : Int)) = True := eq_true (by omega)
    refine Ev.succ ?_
    simp only [spec_l28Issuers.l0, h1, h2, h3, if_true, rd_at_T107 hx, rd_at_T107 hy, wr1 hi (by omega), eqIs, Bool.and_assoc]
    exact Ev.dand fun _ => Ev.dand fun _ => Ev.band (spec_EqualInts_ev x.f1 y.f1 (by omega)) (fun _ => hr)

def eqEpX (a b : S40) : Bool := eqEp a.f0 a.f1 a.f2 a.f3.f0 a.f3.f1 b.f0 b.f1 b.f2 b.f3.f0 b.f3.f1
def eqCt (x y : S64) : Bool := decide (x.f1.length = y.f1.length) && (decide (x.f5.length = y.f5.length) && (allZ eqEpX x.f1 y.f1 && (allZ eqT118 x.f5 y.f5 && (decide (x.f4 = y.f4) && (rowB eqIs x.f0 y.f0 && (rowB eqT132 x.f2 y.f2 && rowB eqT99 x.f3 y.f3))))))
theorem epoch_le {l : List S40} {a : S40} (h : a ∈ l) (hl : (l.map n40).sum ≤ 1048576) : a.f2.length ≤ 1048576 ∧ a.f3.f1.length + (a.f3.f1.map n174).sum ≤ 1048576 := by
  obtain ⟨j, hj⟩ := List.getElem?_of_mem h
  have := le_sum n40 hj
  unfold n40 n38 at this
  unfold n40 n38 at hl
  constructor <;> omega
theorem center_le (x : S64) (h : n64 x ≤ 1048576) : x.f0.length + (x.f0.map n107).sum ≤ 1048576 ∧ x.f1.length ≤ 1048576 ∧ (x.f1.map n40).sum ≤ 1048576 ∧ x.f2.length ≤ 1048576 ∧ x.f3.length ≤ 1048576 ∧ x.f5.length ≤ 1048576 := by
  unfold n64 at h
  refine ⟨?_, ?_, ?_, ?_, ?_, ?_⟩ <;> omega
theorem and8 (a b e c d i s r : Bool) : (a && (b && (e && (c && (d && (i && (s && r))))))) = (i && ((a && e) && (s && (r && (d && (b && c)))))) := by cases a <;> cases b <;> cases e <;> cases c <;> cases d <;> cases i <;> cases s <;> cases r <;> rfl
theorem spec_EqualCenters_ev (x y : S64) (h : n64 x ≤ 1048576) : Ev (fun k => spec_EqualCenters.f k x.f0 x.f1 x.f2 x.f3 x.f4 x.f5 y.f0 y.f1 y.f2 y.f3 y.f4 y.f5) (eqCt x y) := by
  obtain ⟨h0, h1, h1', h2, h3, h5⟩ := center_le x h
  unfold spec_EqualCenters.f eqCt
  refine Ev.dlen fun c => Ev.dlen fun c5 => ev_allzE eqEpX x.f1 y.f1 c (fun k i => spec_EqualCenters.l0 k i x.f0 x.f1 x.f2 x.f3 x.f4 x.f5 y.f0 y.f1 y.f2 y.f3 y.f4 y.f5) _ ?_ ?_
  · refine Ev.succ ?_
    simp only [spec_EqualCenters.l0, Int.lt_irrefl, if_false]
    refine ev_allzE eqT118 x.f5 y.f5 c5 (fun k i => spec_EqualCenters.l1 k i x.f0 x.f1 x.f2 x.f3 x.f4 x.f5 y.f0 y.f1 y.f2 y.f3 y.f4 y.f5) _ ?_ ?_
    · refine Ev.succ ?_
      simp only [spec_EqualCenters.l1, Int.lt_irrefl, if_false]
      exact Ev.dand fun _ => Ev.band (spec_l28Issuers_ev _ _ h0) fun _ => Ev.band (spec_EqualStores_ev _ _ h2) fun _ => Ev.bid (spec_l27Revoked_ev _ _ h3)
    · intro i a b r ha hb hr
      have hi := lt_of_get ha
      have e1 : ((i : Int) < (x.f5.length : Int)) = True := eq_true (by omega)
      have e2 : (0 ≤ (i : Int)) = True := eq_true (by omega)
      have e3 : ((i : Int) < (y.f5.length : Int)) = True := eq_true (by omega)
      refine Ev.succ ?_
      simp only [spec_EqualCenters.l1, e1, e2, e3, if_true, rd_at_T118 ha, rd_at_T118 hb, wr1 hi (by omega)]
      exact ev_ne (by simp only [eqT118, Bool.not_and, Bool.or_assoc]) hr
  · intro i a b r ha hb hr
    have hi := lt_of_get ha
    obtain ⟨g2, g4⟩ := epoch_le (List.mem_of_getElem? ha) h1'
    have e1 : ((i : Int) < (x.f1.length : Int)) = True := eq_true (by omega)
    have e2 : (0 ≤ (i : Int)) = True := eq_true (by omega)
    have e3 : ((i : Int) < (y.f1.length : Int)) = True := eq_true (by omega)
    refine Ev.succ ?_
    simp only [spec_EqualCenters.l0, e1, e2, e3, if_true, rd_at_T40 ha, rd_at_T40 hb, wr1 hi (by omega), eqEpX]
    exact Ev.band (spec_EqualEpochs_ev _ _ _ _ _ _ _ _ _ _ g2 g4) (fun _ => hr)

theorem laws_toFact_eq (x : S134) : laws_toFact.f x.f0 x.f1 x.f2 x.f3 x.f4 x.f5 = some ((cv134 x).f0, (cv134 x).f1, (cv134 x).f2, (cv134 x).f3, (cv134 x).f4, (cv134 x).f5) := by
  unfold laws_toFact.f
  first | rfl | (simp only [Option.bind_some]; rfl)

theorem laws_toFactS_ev (l : List (S134)) (h : l.length ≤ 1048576) : Ev (fun k => laws_toFactS.f k l) (l.map cv134) := by
  unfold laws_toFactS.f
  refine Ev.pos (by omega) (Ev.pos (by omega) ?_)
  refine ev_fill l cv134 (fun k out i => laws_toFactS.l0 k l out i) ?_ ?_ _ (by simp)
  · intro out ho
    refine Ev.succ ?_
    simp only [laws_toFactS.l0, Int.lt_irrefl, if_false]
    exact Ev.now _
  · intro i x out r hx ho hr
    have hi := lt_of_get hx
    have h1 : ((i : Int) < (l.length : Int)) = True := eq_true (by omega)
    have h2 : (0 ≤ (i : Int)) = True := eq_true (by omega)
    have h3 : ((i : Int) < (out.length : Int)) = True := eq_true (by omega)
    refine Ev.succ ?_
    simp only [laws_toFactS.l0, h1, h2, h3, if_true, rd_at_T134 hx, wr1 hi (by omega), Int.toNat_natCast, laws_toFact_eq x, Option.bind_some]
    exact hr

theorem laws_toRevoked_eq (x : S136) : laws_toRevoked.f x.f0 x.f1 = some ((cv136 x).f0, (cv136 x).f1) := by
  unfold laws_toRevoked.f
  first | rfl | (simp only [Option.bind_some]; rfl)

theorem laws_toRevokedS_ev (l : List (S136)) (h : l.length ≤ 1048576) : Ev (fun k => laws_toRevokedS.f k l) (l.map cv136) := by
  unfold laws_toRevokedS.f
  refine Ev.pos (by omega) (Ev.pos (by omega) ?_)
  refine ev_fill l cv136 (fun k out i => laws_toRevokedS.l0 k l out i) ?_ ?_ _ (by simp)
  · intro out ho
    refine Ev.succ ?_
    simp only [laws_toRevokedS.l0, Int.lt_irrefl, if_false]
    exact Ev.now _
  · intro i x out r hx ho hr
    have hi := lt_of_get hx
    have h1 : ((i : Int) < (l.length : Int)) = True := eq_true (by omega)
    have h2 : (0 ≤ (i : Int)) = True := eq_true (by omega)
    have h3 : ((i : Int) < (out.length : Int)) = True := eq_true (by omega)
    refine Ev.succ ?_
    simp only [laws_toRevokedS.l0, h1, h2, h3, if_true, rd_at_T136 hx, wr1 hi (by omega), Int.toNat_natCast, laws_toRevoked_eq x, Option.bind_some]
    exact hr

theorem laws_toIntS_ev (l : List Int) (h : l.length ≤ 1048576) : Ev (fun k => laws_toIntS.f k l) l := by
  unfold laws_toIntS.f
  have e : l = l.map id := by simp
  conv => rhs; rw [e]
  refine Ev.pos (by omega) (Ev.pos (by omega) ?_)
  refine ev_fill l id (fun k out i => laws_toIntS.l0 k l out i) ?_ ?_ _ (by simp)
  · intro out ho
    refine Ev.succ ?_
    simp only [laws_toIntS.l0, Int.lt_irrefl, if_false]
    exact Ev.now _
  · intro i x out r hx ho hr
    have hi := lt_of_get hx
    have h1 : ((i : Int) < (l.length : Int)) = True := eq_true (by omega)
    have h2 : (0 ≤ (i : Int)) = True := eq_true (by omega)
    have h3 : ((i : Int) < (out.length : Int)) = True := eq_true (by omega)
    refine Ev.succ ?_
    simp only [laws_toIntS.l0, h1, h2, h3, if_true, rd_nat l i x hx, wr1 hi (by omega), Int.toNat_natCast]
    exact hr

theorem laws_toIssuer_ev (x : S154) (h : n154 x ≤ 1048576) : Ev (fun k => laws_toIssuer.f k x.f0 x.f1 x.f2) ((cv154 x).f0, (cv154 x).f1, (cv154 x).f2) := by
  unfold n154 at h
  unfold laws_toIssuer.f
  repeat (first | exact Ev.now _ | (refine Ev.bind (laws_toIntS_ev _ (by omega)) ?_; try simp only []))

theorem laws_toIssuerS_ev (l : List (S154)) (h : l.length + (l.map n154).sum ≤ 1048576) : Ev (fun k => laws_toIssuerS.f k l) (l.map cv154) := by
  unfold laws_toIssuerS.f
  refine Ev.pos (by omega) (Ev.pos (by omega) ?_)
  refine ev_fill l cv154 (fun k out i => laws_toIssuerS.l0 k l out i) ?_ ?_ _ (by simp)
  · intro out ho
    refine Ev.succ ?_
    simp only [laws_toIssuerS.l0, Int.lt_irrefl, if_false]
    exact Ev.now _
  · intro i x out r hx ho hr
    have hi := lt_of_get hx
    have h1 : ((i : Int) < (l.length : Int)) = True := eq_true (by omega)
    have h2 : (0 ≤ (i : Int)) = True := eq_true (by omega)
    have h3 : ((i : Int) < (out.length : Int)) = True := eq_true (by omega)
    refine Ev.succ ?_
    simp only [laws_toIssuerS.l0, h1, h2, h3, if_true, rd_at_T154 hx, wr1 hi (by omega), Int.toNat_natCast]
    refine Ev.bind (laws_toIssuer_ev x (by have := le_sum n154 hx; omega)) ?_
    simp only [h3, if_true]
    (try simp only [eta172, eta183])
    exact hr

theorem laws_toIncludes_eq (x : S164) : laws_toIncludes.f x.f0 x.f1 = some ((cv164 x).f0, (cv164 x).f1) := by
  unfold laws_toIncludes.f
  first | rfl | (simp only [Option.bind_some]; rfl)

theorem laws_toIncludesS_ev (l : List (S164)) (h : l.length ≤ 1048576) : Ev (fun k => laws_toIncludesS.f k l) (l.map cv164) := by
  unfold laws_toIncludesS.f
  refine Ev.pos (by omega) (Ev.pos (by omega) ?_)
  refine ev_fill l cv164 (fun k out i => laws_toIncludesS.l0 k l out i) ?_ ?_ _ (by simp)
  · intro out ho
    refine Ev.succ ?_
    simp only [laws_toIncludesS.l0, Int.lt_irrefl, if_false]
    exact Ev.now _
  · intro i x out r hx ho hr
    have hi := lt_of_get hx
    have h1 : ((i : Int) < (l.length : Int)) = True := eq_true (by omega)
    have h2 : (0 ≤ (i : Int)) = True := eq_true (by omega)
    have h3 : ((i : Int) < (out.length : Int)) = True := eq_true (by omega)
    refine Ev.succ ?_
    simp only [laws_toIncludesS.l0, h1, h2, h3, if_true, rd_at_T164 hx, wr1 hi (by omega), Int.toNat_natCast, laws_toIncludes_eq x, Option.bind_some]
    exact hr

theorem laws_toCondS_evN (N : Nat) : ∀ l : List S183, l.length + (l.map n183).sum ≤ N → N ≤ 1048576 → Ev (fun k => laws_toCondS.f k l) (l.map cv183) := by
  induction N using Nat.strongRecOn with
  | _ N ih =>
  intro l h hN
  refine Ev.succ ?_
  simp only [laws_toCondS.f]
  refine Ev.pos (by omega) (Ev.pos (by omega) ?_)
  refine ev_fill l cv183 (fun k out i => laws_toCondS.l0 k l out i) ?_ ?_ _ (by simp)
  · intro out ho
    refine Ev.succ ?_
    simp only [laws_toCondS.l0, Int.lt_irrefl, if_false]
    exact Ev.now _
  · intro i x out r hx ho hr
    have hi := lt_of_get hx
    have h1 : ((i : Int) < (l.length : Int)) = True := eq_true (by omega)
    have h2 : (0 ≤ (i : Int)) = True := eq_true (by omega)
    have h3 : ((i : Int) < (out.length : Int)) = True := eq_true (by omega)
    have hn := le_sum n183 hx
    rw [n183_f] at hn
    have e := ih (x.f3.length + (x.f3.map n183).sum) (by omega) x.f3 (Nat.le_refl _) (by omega)
    have e' : Ev (fun k => laws_toCond.f k x.f0 x.f1 x.f2 x.f3) (x.f0, x.f1, x.f2, x.f3.map cv183) := by
      refine Ev.succ ?_
      simp only [laws_toCond.f]
      refine Ev.bind e ?_
      exact Ev.now _
    refine Ev.succ ?_
    simp only [laws_toCondS.l0, h1, h2, if_true, rd_at_T183 hx, wr1 hi (by omega), Int.toNat_natCast]
    refine Ev.bind e' ?_
    simp only [h3, if_true]
    rw [cv183_f] at hr
    exact hr
theorem laws_toCondS_ev (l : List S183) (h : l.length + (l.map n183).sum ≤ 1048576) : Ev (fun k => laws_toCondS.f k l) (l.map cv183) := laws_toCondS_evN _ l (Nat.le_refl _) h
theorem laws_toCond_ev (x : S183) (h : n183 x ≤ 1048576) : Ev (fun k => laws_toCond.f k x.f0 x.f1 x.f2 x.f3) ((cv183 x).f0, (cv183 x).f1, (cv183 x).f2, (cv183 x).f3) := by
  rw [n183_f] at h
  rw [cv183_f]
  refine Ev.succ ?_
  simp only [laws_toCond.f]
  refine Ev.bind (laws_toCondS_ev x.f3 h) ?_
  exact Ev.now _



theorem laws_toRule_ev (x : S185) (h : n185 x ≤ 1048576) : Ev (fun k => laws_toRule.f k x.f0 x.f1 x.f2 x.f3.f0 x.f3.f1 x.f3.f2 x.f3.f3) ((cv185 x).f0, (cv185 x).f1, (cv185 x).f2, (cv185 x).f3.f0, (cv185 x).f3.f1, (cv185 x).f3.f2, (cv185 x).f3.f3) := by
  unfold n185 at h
  unfold laws_toRule.f
  repeat (first | exact Ev.now _ | (refine Ev.bind (laws_toCond_ev _ (by omega)) ?_; try simp only []))

theorem laws_toRuleS_ev (l : List (S185)) (h : l.length + (l.map n185).sum ≤ 1048576) : Ev (fun k => laws_toRuleS.f k l) (l.map cv185) := by
  unfold laws_toRuleS.f
  refine Ev.pos (by omega) (Ev.pos (by omega) ?_)
  refine ev_fill l cv185 (fun k out i => laws_toRuleS.l0 k l out i) ?_ ?_ _ (by simp)
  · intro out ho
    refine Ev.succ ?_
    simp only [laws_toRuleS.l0, Int.lt_irrefl, if_false]
    exact Ev.now _
  · intro i x out r hx ho hr
    have hi := lt_of_get hx
    have h1 : ((i : Int) < (l.length : Int)) = True := eq_true (by omega)
    have h2 : (0 ≤ (i : Int)) = True := eq_true (by omega)
    have h3 : ((i : Int) < (out.length : Int)) = True := eq_true (by omega)
    refine Ev.succ ?_
    simp only [laws_toRuleS.l0, h1, h2, h3, if_true, rd_at_T185 hx, wr1 hi (by omega), Int.toNat_natCast]
    refine Ev.bind (laws_toRule_ev x (by have := le_sum n185 hx; omega)) ?_
    simp only [h3, if_true]
    (try simp only [eta172, eta183])
    exact hr

theorem laws_toPolicy_ev (x : S25) (h : n25 x ≤ 1048576) : Ev (fun k => laws_toPolicy.f k x.f0 x.f1) ((cv25 x).f0, (cv25 x).f1) := by
  unfold n25 at h
  unfold laws_toPolicy.f
  repeat (first | exact Ev.now _ | (refine Ev.bind (laws_toRuleS_ev _ (by omega)) ?_; try simp only []))

theorem laws_toEpoch_ev (x : S27) (h : n27 x ≤ 1048576) : Ev (fun k => laws_toEpoch.f k x.f0 x.f1 x.f2 x.f3.f0 x.f3.f1) ((cv27 x).f0, (cv27 x).f1, (cv27 x).f2, (cv27 x).f3.f0, (cv27 x).f3.f1) := by
  unfold n27 at h
  unfold laws_toEpoch.f
  repeat (first | exact Ev.now _ | (refine Ev.bind (laws_toIncludesS_ev _ (by omega)) ?_; try simp only []) | (refine Ev.bind (laws_toPolicy_ev _ (by omega)) ?_; try simp only []))

theorem laws_toEpochS_ev (l : List (S27)) (h : l.length + (l.map n27).sum ≤ 1048576) : Ev (fun k => laws_toEpochS.f k l) (l.map cv27) := by
  unfold laws_toEpochS.f
  refine Ev.pos (by omega) (Ev.pos (by omega) ?_)
  refine ev_fill l cv27 (fun k out i => laws_toEpochS.l0 k l out i) ?_ ?_ _ (by simp)
  · intro out ho
    refine Ev.succ ?_
    simp only [laws_toEpochS.l0, Int.lt_irrefl, if_false]
    exact Ev.now _
  · intro i x out r hx ho hr
    have hi := lt_of_get hx
    have h1 : ((i : Int) < (l.length : Int)) = True := eq_true (by omega)
    have h2 : (0 ≤ (i : Int)) = True := eq_true (by omega)
    have h3 : ((i : Int) < (out.length : Int)) = True := eq_true (by omega)
    refine Ev.succ ?_
    simp only [laws_toEpochS.l0, h1, h2, h3, if_true, rd_at_T27 hx, wr1 hi (by omega), Int.toNat_natCast]
    refine Ev.bind (laws_toEpoch_ev x (by have := le_sum n27 hx; omega)) ?_
    simp only [h3, if_true]
    (try simp only [eta172, eta183])
    exact hr

theorem laws_toCert_eq (x : S158) : laws_toCert.f x.f0 x.f1 x.f2 x.f3 x.f4 x.f5 = some ((cv158 x).f0, (cv158 x).f1, (cv158 x).f2, (cv158 x).f3, (cv158 x).f4, (cv158 x).f5) := by
  unfold laws_toCert.f
  first | rfl | (simp only [Option.bind_some]; rfl)

theorem laws_toCertS_ev (l : List (S158)) (h : l.length ≤ 1048576) : Ev (fun k => laws_toCertS.f k l) (l.map cv158) := by
  unfold laws_toCertS.f
  refine Ev.pos (by omega) (Ev.pos (by omega) ?_)
  refine ev_fill l cv158 (fun k out i => laws_toCertS.l0 k l out i) ?_ ?_ _ (by simp)
  · intro out ho
    refine Ev.succ ?_
    simp only [laws_toCertS.l0, Int.lt_irrefl, if_false]
    exact Ev.now _
  · intro i x out r hx ho hr
    have hi := lt_of_get hx
    have h1 : ((i : Int) < (l.length : Int)) = True := eq_true (by omega)
    have h2 : (0 ≤ (i : Int)) = True := eq_true (by omega)
    have h3 : ((i : Int) < (out.length : Int)) = True := eq_true (by omega)
    refine Ev.succ ?_
    simp only [laws_toCertS.l0, h1, h2, h3, if_true, rd_at_T158 hx, wr1 hi (by omega), Int.toNat_natCast, laws_toCert_eq x, Option.bind_some]
    exact hr

theorem laws_toCenter_ev (x : S73) (h : n73 x ≤ 1048576) : Ev (fun k => laws_toCenter.f k x.f0 x.f1 x.f2 x.f3 x.f4 x.f5) ((cv73 x).f0, (cv73 x).f1, (cv73 x).f2, (cv73 x).f3, (cv73 x).f4, (cv73 x).f5) := by
  unfold n73 at h
  unfold laws_toCenter.f
  repeat (first | exact Ev.now _ | (refine Ev.bind (laws_toFactS_ev _ (by omega)) ?_; try simp only []) | (refine Ev.bind (laws_toRevokedS_ev _ (by omega)) ?_; try simp only []) | (refine Ev.bind (laws_toIssuerS_ev _ (by omega)) ?_; try simp only []) | (refine Ev.bind (laws_toEpochS_ev _ (by omega)) ?_; try simp only []) | (refine Ev.bind (laws_toCertS_ev _ (by omega)) ?_; try simp only []))

theorem impl_Includes_ev (l m : List S149) (h : l.length ≤ 1048576) : Ev (fun k => impl_Includes.f k l m) (decide (l.length = m.length) && allZ eqT149 l m) := by
  unfold impl_Includes.f
  refine Ev.dlen fun c => ev_allz eqT149 l m c (fun k i => impl_Includes.l0 k l m (l.length : Int) i) ?_ ?_
  · refine Ev.succ ?_
    simp only [impl_Includes.l0, Int.lt_irrefl, if_false]
    exact Ev.now _
  · intro i x y r hx hy hr
    have hi := lt_of_get hx
    have h1 : ((i : Int) < (l.length : Int)) = True := eq_true (by omega)
    have h2 : (0 ≤ (i : Int)) = True := eq_true (by omega)
    have h3 : ((i : Int) < (m.length : Int)) = True := eq_true (by omega)
    refine Ev.succ ?_
    simp only [impl_Includes.l0, h1, h2, h3, if_true, rd_at_T149 hx, rd_at_T149 hy, wr1 hi (by omega)]
    exact ev_ne (by simp only [eqT149, Bool.not_and, Bool.or_assoc]) hr



theorem impl_EqualConds_evN (N : Nat) : ∀ x y : S172, n172 x ≤ N → N ≤ 1048576 → Ev (fun k => impl_EqualConds.f k x.f0 x.f1 x.f2 x.f3 y.f0 y.f1 y.f2 y.f3) (eqC x y) := by
  induction N using Nat.strongRecOn with
  | _ N ih =>
  intro x y h hN
  rw [n172_f] at h
  rw [eqC_f]
  refine Ev.succ ?_
  simp only [impl_EqualConds.f]
  refine Ev.dand fun _ => Ev.dand fun _ => Ev.dand fun _ => Ev.bid ?_
  refine Ev.succ ?_
  simp only [eqF166.f]
  refine Ev.pos (by first | rfl | trivial) (ev_eqO _ eqC x.f3 y.f3 fun a ha b => ?_)
  obtain ⟨j, hj⟩ := List.getElem?_of_mem ha
  have hn := le_sum n172 hj
  have hi := lt_of_get hj
  exact ih (n172 a) (by omega) a b (Nat.le_refl _) (by omega)
theorem impl_EqualConds_ev (x y : S172) (h : n172 x ≤ 1048576) : Ev (fun k => impl_EqualConds.f k x.f0 x.f1 x.f2 x.f3 y.f0 y.f1 y.f2 y.f3) (eqC x y) := impl_EqualConds_evN _ x y (Nat.le_refl _) h

theorem impl_equalRules_ev (x y : S174) (h : n172 x.f3 ≤ 1048576) : Ev (fun k => impl_equalRules.f k x.f0 x.f1 x.f2 x.f3.f0 x.f3.f1 x.f3.f2 x.f3.f3 y.f0 y.f1 y.f2 y.f3.f0 y.f3.f1 y.f3.f2 y.f3.f3) (eqR x y) := by
  unfold impl_equalRules.f eqR
  exact Ev.dand fun _ => Ev.dand fun _ => Ev.dand fun _ => Ev.bid (impl_EqualConds_ev x.f3 y.f3 h)



theorem impl_EqualPolicies_ev (a : Int) (l : List S174) (b : Int) (m : List S174) (h : l.length + (l.map n174).sum ≤ 1048576) : Ev (fun k => impl_EqualPolicies.f k a l b m) (eqPol a l b m) := by
  unfold impl_EqualPolicies.f eqPol
  refine Ev.dand fun _ => Ev.bid ?_
  unfold eqF151.f
  refine Ev.pos (by first | rfl | trivial) (ev_eqO _ eqR l m fun x hx y => impl_equalRules_ev x y ?_)
  have := rule_le hx
  omega

theorem impl_EqualEpochs_ev (a0 a1 : Int) (l2 : List S149) (a3 : Int) (l4 : List S174) (b0 b1 : Int) (m2 : List S149) (b3 : Int) (m4 : List S174) (h2 : l2.length ≤ 1048576) (h4 : l4.length + (l4.map n174).sum ≤ 1048576) : Ev (fun k => impl_EqualEpochs.f k a0 a1 l2 a3 l4 b0 b1 m2 b3 m4) (eqEp a0 a1 l2 a3 l4 b0 b1 m2 b3 m4) := by
  unfold impl_EqualEpochs.f eqEp
  exact Ev.dand fun _ => Ev.dand fun _ => Ev.band (impl_Includes_ev l2 m2 h2) fun _ => Ev.bid (impl_EqualPolicies_ev a3 l4 b3 m4 h4)

theorem impl_Fact_ev (l m : List S132) (h : l.length ≤ 1048576) : Ev (fun k => impl_Fact.f k l m) (decide (l.length = m.length) && allZ eqT132 l m) := by
  unfold impl_Fact.f
  refine Ev.dlen fun c => ev_allz eqT132 l m c (fun k i => impl_Fact.l0 k l m (l.length : Int) i) ?_ ?_
  · refine Ev.succ ?_
    simp only [impl_Fact.l0, Int.lt_irrefl, if_false]
    exact Ev.now _
  · intro i x y r hx hy hr
    have hi := lt_of_get hx
    have h1 : ((i : Int) < (l.length : Int)) = True := eq_true (by omega)
    have h2 : (0 ≤ (i : Int)) = True := eq_true (by omega)
    have h3 : ((i : Int) < (m.length : Int)) = True := eq_true (by omega)
    refine Ev.succ ?_
    simp only [impl_Fact.l0, h1, h2, h3, if_true, rd_at_T132 hx, rd_at_T132 hy, wr1 hi (by omega)]
    exact ev_ne (by simp only [eqT132, Bool.not_and, Bool.or_assoc]) hr

theorem impl_EqualStores_ev (l m : List S132) (h : l.length ≤ 1048576) : Ev (fun k => impl_EqualStores.f k l m) (decide (l.length = m.length) && allZ eqT132 l m) := by
  unfold impl_EqualStores.f
  exact Ev.bid (impl_Fact_ev l m h)

theorem impl_Revoked_ev (l m : List S99) (h : l.length ≤ 1048576) : Ev (fun k => impl_Revoked.f k l m) (decide (l.length = m.length) && allZ eqT99 l m) := by
  unfold impl_Revoked.f
  refine Ev.dlen fun c => ev_allz eqT99 l m c (fun k i => impl_Revoked.l0 k l m (l.length : Int) i) ?_ ?_
  · refine Ev.succ ?_
    simp only [impl_Revoked.l0, Int.lt_irrefl, if_false]
    exact Ev.now _
  · intro i x y r hx hy hr
    have hi := lt_of_get hx
    have h1 : ((i : Int) < (l.length : Int)) = True := eq_true (by omega)
    have h2 : (0 ≤ (i : Int)) = True := eq_true (by omega)
    have h3 : ((i : Int) < (m.length : Int)) = True := eq_true (by omega)
    refine Ev.succ ?_
    simp only [impl_Revoked.l0, h1, h2, h3, if_true, rd_at_T99 hx, rd_at_T99 hy, wr1 hi (by omega)]
    exact ev_ne (by simp only [eqT99, Bool.not_and, Bool.or_assoc]) hr

theorem slices_Equal_int_int_ev (l m : List Int) (h : l.length ≤ 9223372036854775807) : Ev (fun k => slices_Equal_int_int.f k l m) (decide (l = m)) := by
  unfold slices_Equal_int_int.f
  by_cases c : l.length = m.length
  · have e : decide (l = m) = (allN l.length (fun i => decide (l.getD i 0 = m.getD i 0)) && true) := by
      rw [← allZ_eq l m c, allZ_allN _ l m 0 0 c, Bool.and_true]
    rw [e]
    refine Ev.pos (by omega) (ev_all l.length _ true (fun k i => slices_Equal_int_int.l0 k l m (l.length : Int) i) ?_ ?_)
    · refine Ev.succ ?_
      simp only [slices_Equal_int_int.l0, Int.lt_irrefl, if_false]
      exact Ev.now _
    · intro i hi
      have h1 : ((i : Int) < (l.length : Int)) = True := eq_true (by omega)
      have h2 : (0 ≤ (i : Int)) = True := eq_true (by omega)
      have h3 : ((i : Int) < (m.length : Int)) = True := eq_true (by omega)
      have h4 := wr1 hi h
      have r1 : rd l (i : Int) = l.getD i 0 := by simp [rd]
      have r2 : rd m (i : Int) = m.getD i 0 := by simp [rd]
      refine ⟨fun hp r hr => ?_, fun hp => ?_⟩
      · refine Ev.succ ?_
        simp only [slices_Equal_int_int.l0, h1, h2, h3, if_true, h4, r1, r2, if_pos (of_decide_eq_true hp)]
        exact hr
      · refine Ev.succ ?_
        simp only [slices_Equal_int_int.l0, h1, h2, h3, if_true, h4, r1, r2, if_neg (of_decide_eq_false hp)]
        exact Ev.now _
  · rw [show decide (l = m) = false from decide_eq_false (fun e => c (by rw [e]))]
    exact Ev.neg (by omega) (Ev.now _)

theorem impl_equalIssuers_ev (x y : S107) (h : x.f1.length ≤ 1048576) : Ev (fun k => impl_equalIssuers.f k x.f0 x.f1 x.f2 y.f0 y.f1 y.f2) (eqIs x y) := by
  unfold impl_equalIssuers.f eqIs
  rw [Bool.and_comm (decide (x.f2 = y.f2))]
  refine Ev.dand fun _ => Ev.band (slices_Equal_int_int_ev x.f1 y.f1 (by omega)) fun _ => ?_
  rw [show (x.f2 == y.f2) = decide (x.f2 = y.f2) from rfl]
  exact Ev.now _





theorem impl_Cert_ev (l m : List S118) (h : l.length ≤ 1048576) : Ev (fun k => impl_Cert.f k l m) (decide (l.length = m.length) && allZ eqT118 l m) := by
  unfold impl_Cert.f
  refine Ev.dlen fun c => ev_allz eqT118 l m c (fun k i => impl_Cert.l0 k l m (l.length : Int) i) ?_ ?_
  · refine Ev.succ ?_
    simp only [impl_Cert.l0, Int.lt_irrefl, if_false]
    exact Ev.now _
  · intro i x y r hx hy hr
    have hi := lt_of_get hx
    have h1 : ((i : Int) < (l.length : Int)) = True := eq_true (by omega)
    have h2 : (0 ≤ (i : Int)) = True := eq_true (by omega)
    have h3 : ((i : Int) < (m.length : Int)) = True := eq_true (by omega)
    refine Ev.succ ?_
    simp only [impl_Cert.l0, h1, h2, h3, if_true, rd_at_T118 hx, rd_at_T118 hy, wr1 hi (by omega)]
    exact ev_ne (by simp only [eqT118, Bool.not_and, Bool.or_assoc]) hr

theorem impl_EqualCenters_ev (x y : S64) (h : n64 x ≤ 1048576) : Ev (fun k => impl_EqualCenters.f k x.f0 x.f1 x.f2 x.f3 x.f4 x.f5 y.f0 y.f1 y.f2 y.f3 y.f4 y.f5) (eqCt x y) := by
  obtain ⟨h0, h1, h1', h2, h3, h5⟩ := center_le x h
  unfold impl_EqualCenters.f eqCt
  rw [and8]
  refine Ev.band ?_ fun _ => Ev.band ?_ fun _ => Ev.band (impl_EqualStores_ev _ _ h2) fun _ => Ev.band (impl_Revoked_ev _ _ h3) fun _ => Ev.dand fun _ => Ev.bid (impl_Cert_ev _ _ h5)
  · unfold eqF87.f rowB
    refine Ev.pos (by first | rfl | trivial) (ev_eqO _ eqIs x.f0 y.f0 fun a ha b => impl_equalIssuers_ev a b ?_)
    obtain ⟨j, hj⟩ := List.getElem?_of_mem ha
    have := le_sum n107 hj
    have e : n107 a = a.f1.length := rfl
    omega
  · unfold eqF89.f
    refine Ev.pos (by first | rfl | trivial) (ev_eqO _ eqEpX x.f1 y.f1 fun a ha b => ?_)
    obtain ⟨g2, g4⟩ := epoch_le ha h1'
    exact impl_EqualEpochs_ev _ _ _ _ _ _ _ _ _ _ g2 g4

theorem FnExactEqualCenters : laws_FnExactEqualCenters.Pure := by
  intro x y hx hy
  refine Ev.rounds ?_
  unfold laws_FnExactEqualCenters.f
  obtain ⟨r, e, hr1, hr⟩ := laws_szCenter_le x hx 1048576 (by omega) (by omega)
  refine Ev.bind e ?_
  by_cases c : r < 0
  · simp only [if_pos c]; exact Ev.now _
  simp only [if_neg c]
  have hb := hr (by omega)
  obtain ⟨r2, e2, hr2, hr3⟩ := laws_szCenter_le y hy r (by omega) (by omega)
  refine Ev.bind e2 ?_
  by_cases c2 : r2 < 0
  · simp only [if_pos c2]; exact Ev.now _
  simp only [if_neg c2]
  have hb2 := hr3 (by omega)
  have hmx : n64 (cv73 x) ≤ 1048576 := by rw [ncv73]; omega
  have hmy : n64 (cv73 y) ≤ 1048576 := by rw [ncv73]; omega
  repeat (first
    | exact Ev.now _
    | ((first | refine Ev.bind (laws_toCenter_ev x (by omega)) ?_ | refine Ev.bind (laws_toCenter_ev y (by omega)) ?_ | refine Ev.bind (spec_EqualCenters_ev (cv73 x) (cv73 y) hmx) ?_ | refine Ev.bind (impl_EqualCenters_ev (cv73 x) (cv73 y) hmx) ?_ | refine Ev.bind (laws_eqCenter_refl _ hmx) ?_ | refine Ev.bind (laws_eqCenter_refl _ hmy) ?_); try simp only [])
    | simp only [bne_self_eq_false, Bool.false_eq_true, if_false, if_true])

end Go.Proofs.Ytineejdlpcgnkaa.Pure
