/- The law FnExactNewPoint answers true for all arguments, over numbers and lists alone: what each function computes, and that program and reference compute the same. No condition. -/
import Derived.Test.YtineejdlpcgnkaaQFnExactNewPointx9
import Derived.Test.YtineejdlpcgnkaaL
namespace Go.Proofs.Ytineejdlpcgnkaa.Pure
open Go.RowKit Go.Proofs.Ytineejdlpcgnkaa.QFnExactNewPoint Go.Proofs.YtineejdlpcgnkaaL Go.Proofs.YtineejdlpcgnkaaW.PrintWords Go.Proofs.YtineejdlpcgnkaaW.PrintLast
set_option linter.unusedVariables false
set_option linter.unusedSimpArgs false

theorem eta172 (x : S172) : (⟨x.f0, x.f1, x.f2, x.f3⟩ : S172) = x := by cases x; rfl
mutual
def n172 : S172 → Nat
  | ⟨x0, x1, x2, x3⟩ => x3.length + nL172 x3
def nL172 : List S172 → Nat
  | [] => 0
  | x :: l => n172 x + nL172 l
end
theorem nL172_eq : ∀ l : List S172, nL172 l = (l.map n172).sum
  | [] => by simp [nL172]
  | x :: l => by simp [nL172, nL172_eq l]
theorem n172_f (x : S172) : n172 x = x.f3.length + (x.f3.map n172).sum := by
  cases x
  simp only [n172, nL172_eq]
def n174 (x : S174) : Nat := n172 x.f3
def n38 (x : S38) : Nat := x.f1.length + (x.f1.map n174).sum
def n40 (x : S40) : Nat := x.f2.length + n38 x.f3
def n45 (x : S45) : Nat := n40 x.f1 + x.f2.length + x.f3.length + x.f5.length
theorem rd_at_T149 {l : List S149} {i : Nat} {x : S149} (h : l[i]? = some x) : rd_T149 l (i : Int) = x := getD_nat l _ i x h
theorem rd_at_T172 {l : List S172} {i : Nat} {x : S172} (h : l[i]? = some x) : rd_T172 l (i : Int) = x := getD_nat l _ i x h
theorem rd_at_T174 {l : List S174} {i : Nat} {x : S174} (h : l[i]? = some x) : rd_T174 l (i : Int) = x := getD_nat l _ i x h
theorem rd_at_T38 {l : List S38} {i : Nat} {x : S38} (h : l[i]? = some x) : rd_T38 l (i : Int) = x := getD_nat l _ i x h
theorem rd_at_T40 {l : List S40} {i : Nat} {x : S40} (h : l[i]? = some x) : rd_T40 l (i : Int) = x := getD_nat l _ i x h
theorem rd_at_T132 {l : List S132} {i : Nat} {x : S132} (h : l[i]? = some x) : rd_T132 l (i : Int) = x := getD_nat l _ i x h
theorem rd_at_T99 {l : List S99} {i : Nat} {x : S99} (h : l[i]? = some x) : rd_T99 l (i : Int) = x := getD_nat l _ i x h
theorem rd_at_T101 {l : List S101} {i : Nat} {x : S101} (h : l[i]? = some x) : rd_T101 l (i : Int) = x := getD_nat l _ i x h
theorem rd_at_T103 {l : List S103} {i : Nat} {x : S103} (h : l[i]? = some x) : rd_T103 l (i : Int) = x := getD_nat l _ i x h
theorem rd_at_T45 {l : List S45} {i : Nat} {x : S45} (h : l[i]? = some x) : rd_T45 l (i : Int) = x := getD_nat l _ i x h



theorem FnExactNewPoint : laws_FnExactNewPoint.Pure := by
  intro a _
  refine ⟨10, ?_⟩
  have e : laws_eqPoint.f 10 a 0 0 [] 0 [] [] [] (-1) [] a 0 0 [] 0 [] [] [] (-1) [] = some true := by
    unfold laws_eqPoint.f
    rw [if_pos rfl]
    kernel_rfl
  unfold laws_FnExactNewPoint.f
  simp only [spec_NewPoint.f, impl_NewPoint.f, Option.bind_some, e, if_true]
  first | rfl | (show (_ : Option Bool) = some true; kernel_rfl)

end Go.Proofs.Ytineejdlpcgnkaa.Pure
