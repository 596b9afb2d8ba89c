/- The law FnExactNewCenter answers true for all arguments, over numbers and lists alone: what each function computes, and that program and reference compute the same. No condition. -/
import Derived.Test.YtineejdlpcgnkaaQFnExactNewCenterx10
import Derived.Test.YtineejdlpcgnkaaL
namespace Go.Proofs.Ytineejdlpcgnkaa.Pure
open Go.RowKit Go.Proofs.Ytineejdlpcgnkaa.QFnExactNewCenter Go.Proofs.YtineejdlpcgnkaaL Go.Proofs.YtineejdlpcgnkaaW.PrintWords Go.Proofs.YtineejdlpcgnkaaW.PrintLast
set_option linter.unusedVariables false
set_option linter.unusedSimpArgs false

def n107 (x : S107) : Nat := x.f1.length
theorem eta172 (x : S172) : (⟨x.f0, x.f1, x.f2, x.f3⟩ : S172) = x := by cases x; rfl
mutual
def n172 : S172 → Nat
  | ⟨x0, x1, x2, x3⟩ => x3.length + nL172 x3
def nL172 : List S172 → Nat
  | [] => 0
  | x :: l => n172 x + nL172 l
end
theorem nL172_eq : ∀ l : List S172, nL172 l = (l.map n172).sum
  | [] => by simp [nL172]
  | x :: l => by simp [nL172, nL172_eq l]
theorem n172_f (x : S172) : n172 x = x.f3.length + (x.f3.map n172).sum := by
  cases x
  simp only [n172, nL172_eq]
def n174 (x : S174) : Nat := n172 x.f3
def n38 (x : S38) : Nat := x.f1.length + (x.f1.map n174).sum
def n40 (x : S40) : Nat := x.f2.length + n38 x.f3
def n64 (x : S64) : Nat := x.f0.length + (x.f0.map n107).sum + x.f1.length + (x.f1.map n40).sum + x.f2.length + x.f3.length + x.f5.length
theorem rd_at_T107 {l : List S107} {i : Nat} {x : S107} (h : l[i]? = some x) : rd_T107 l (i : Int) = x := getD_nat l _ i x h
theorem rd_at_T149 {l : List S149} {i : Nat} {x : S149} (h : l[i]? = some x) : rd_T149 l (i : Int) = x := getD_nat l _ i x h
theorem rd_at_T172 {l : List S172} {i : Nat} {x : S172} (h : l[i]? = some x) : rd_T172 l (i : Int) = x := getD_nat l _ i x h
theorem rd_at_T174 {l : List S174} {i : Nat} {x : S174} (h : l[i]? = some x) : rd_T174 l (i : Int) = x := getD_nat l _ i x h
theorem rd_at_T38 {l : List S38} {i : Nat} {x : S38} (h : l[i]? = some x) : rd_T38 l (i : Int) = x := getD_nat l _ i x h
theorem rd_at_T40 {l : List S40} {i : Nat} {x : S40} (h : l[i]? = some x) : rd_T40 l (i : Int) = x := getD_nat l _ i x h
theorem rd_at_T132 {l : List S132} {i : Nat} {x : S132} (h : l[i]? = some x) : rd_T132 l (i : Int) = x := getD_nat l _ i x h
theorem rd_at_T99 {l : List S99} {i : Nat} {x : S99} (h : l[i]? = some x) : rd_T99 l (i : Int) = x := getD_nat l _ i x h
theorem rd_at_T118 {l : List S118} {i : Nat} {x : S118} (h : l[i]? = some x) : rd_T118 l (i : Int) = x := getD_nat l _ i x h
theorem rd_at_T64 {l : List S64} {i : Nat} {x : S64} (h : l[i]? = some x) : rd_T64 l (i : Int) = x := getD_nat l _ i x h



theorem FnExactNewCenter : laws_FnExactNewCenter.Pure := by
  refine ⟨20, ?_⟩
  show (_ : Option Bool) = some true
  kernel_rfl

end Go.Proofs.Ytineejdlpcgnkaa.Pure
