/- The law FnExactAnswerName answers true for all arguments, over numbers and lists alone: what each function computes, and that program and reference compute the same. No condition. -/
import Derived.Test.YtijhppbhaaikmaaQFnExactAnswerNamex1
import Derived.Test.YtijhppbhaaikmaaL
namespace Go.Proofs.Ytijhppbhaaikmaa.Pure
open Go.RowKit Go.Proofs.Ytijhppbhaaikmaa.QFnExactAnswerName Go.Proofs.YtijhppbhaaikmaaL Go.Proofs.YtijhppbhaaikmaaW.PrintWords Go.Proofs.YtijhppbhaaikmaaW.PrintLast
set_option linter.unusedVariables false
set_option linter.unusedSimpArgs false



theorem spec_l1In_eq (a b c : Int) : spec_l1In.f a b c = some (inB a b c) := by
  unfold spec_l1In.f
  rw [ite_dand]; rfl

theorem impl_InRange_eq (a b c : Int) : impl_InRange.f a b c = some (inB a b c) := by
  unfold impl_InRange.f
  rw [ite_dand]; rfl

theorem FnExactAnswerName : laws_FnExactAnswerName.Pure := by
  intro a _
  unfold laws_FnExactAnswerName.f spec_AnswerName.f impl_AnswerName.f
  rw [spec_l1In_eq, impl_InRange_eq]
  cases h : inB a 0 5 with
  | false => simp
  | true =>
    have hb := inB_iff.1 h
    obtain h0 | h0 | h0 | h0 | h0 | h0 : a = 0 ∨ a = 1 ∨ a = 2 ∨ a = 3 ∨ a = 4 ∨ a = 5 := by omega
    all_goals
      subst h0
      simp [impl_AnswerName.w, rdOf]

end Go.Proofs.Ytijhppbhaaikmaa.Pure
