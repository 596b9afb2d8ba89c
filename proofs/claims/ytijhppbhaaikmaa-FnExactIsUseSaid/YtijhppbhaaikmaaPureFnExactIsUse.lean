/- The law FnExactIsUse answers true for all arguments, over numbers and lists alone: what each function computes, and that program and reference compute the same. No condition. -/
import Derived.Test.YtijhppbhaaikmaaQFnExactIsUsex1
import Derived.Test.YtijhppbhaaikmaaL
namespace Go.Proofs.Ytijhppbhaaikmaa.Pure
open Go.RowKit Go.Proofs.Ytijhppbhaaikmaa.QFnExactIsUse Go.Proofs.YtijhppbhaaikmaaL Go.Proofs.YtijhppbhaaikmaaW.PrintWords Go.Proofs.YtijhppbhaaikmaaW.PrintLast
set_option linter.unusedVariables false
set_option linter.unusedSimpArgs false

def cv25 (x : S25) : S27 := ⟨x.f0, x.f1, x.f2, x.f3⟩
theorem rd_at_T27 {l : List S27} {i : Nat} {x : S27} (h : l[i]? = some x) : rd_T27 l (i : Int) = x := getD_nat l _ i x h
theorem rd_at_T25 {l : List S25} {i : Nat} {x : S25} (h : l[i]? = some x) : rd_T25 l (i : Int) = x := getD_nat l _ i x h

theorem spec_l1In_eq (a b c : Int) : spec_l1In.f a b c = some (inB a b c) := by
  unfold spec_l1In.f
  rw [ite_dand]; rfl

theorem spec_IsName_eq (a : Int) : spec_IsName.f a = some (nameB a) := by
  unfold spec_IsName.f
  rw [spec_l1In_eq]; rfl

theorem spec_HasKind_eq (a b : Int) : spec_HasKind.f a b = some (kindB a b) := by
  unfold spec_HasKind.f kindB
  rw [spec_IsName_eq, Option.bind_some]
  cases h : nameB a with
  | true => simp only [if_true, name_div h, Bool.true_and]
  | false => rfl

theorem spec_IsTime_eq (a : Int) : spec_IsTime.f a = some (timeB a) := by
  unfold spec_IsTime.f
  rw [spec_l1In_eq]; rfl

theorem spec_IsUse_eq (a b c d : Int) : spec_IsUse.f a b c d = some (kindB a 1 && (kindB c 4 && (inB b 0 5 && timeB d))) := by
  unfold spec_IsUse.f
  simp only [spec_HasKind_eq, spec_l1In_eq, spec_IsTime_eq, Option.bind_some, ite_and]

theorem laws_toUse_eq (x : S25) : laws_toUse.f x.f0 x.f1 x.f2 x.f3 = some ((cv25 x).f0, (cv25 x).f1, (cv25 x).f2, (cv25 x).f3) := by
  unfold laws_toUse.f
  first | rfl | (simp only [Option.bind_some]; rfl)

theorem impl_InRange_eq (a b c : Int) : impl_InRange.f a b c = some (inB a b c) := by
  unfold impl_InRange.f
  rw [ite_dand]; rfl

theorem impl_IsName_eq (a : Int) : impl_IsName.f a = some (nameB a) := by
  unfold impl_IsName.f
  rw [impl_InRange_eq]; rfl

theorem impl_KindOf_eq (a : Int) : impl_KindOf.f a = some (if nameB a = true then a / 10 else 0) := by
  unfold impl_KindOf.f
  rw [impl_IsName_eq, Option.bind_some]
  cases h : nameB a with
  | true => simp only [if_true, name_div h]
  | false => rfl

theorem impl_HasKind_eq (a b : Int) : impl_HasKind.f a b = some (kindB a b) := by
  unfold impl_HasKind.f kindB
  rw [impl_IsName_eq, impl_KindOf_eq, Option.bind_some]
  cases h : nameB a with
  | true => simp only [if_true, Option.bind_some, Bool.true_and]
  | false => rfl

theorem impl_IsTime_eq (a : Int) : impl_IsTime.f a = some (timeB a) := by
  unfold impl_IsTime.f
  rw [impl_InRange_eq]; rfl

theorem impl_IsUse_eq (a b c d : Int) : impl_IsUse.f a b c d = some (kindB a 1 && (kindB c 4 && (inB b 0 5 && timeB d))) := by
  unfold impl_IsUse.f
  simp only [impl_HasKind_eq, impl_InRange_eq, impl_IsTime_eq, Option.bind_some, ite_and]

theorem FnExactIsUse : laws_FnExactIsUse.Pure := by
  intro x _
  unfold laws_FnExactIsUse.f
  simp only [laws_toUse_eq x, Option.bind_some, spec_IsUse_eq, impl_IsUse_eq, bne_self_eq_false, Bool.false_eq_true, if_false]

end Go.Proofs.Ytijhppbhaaikmaa.Pure
