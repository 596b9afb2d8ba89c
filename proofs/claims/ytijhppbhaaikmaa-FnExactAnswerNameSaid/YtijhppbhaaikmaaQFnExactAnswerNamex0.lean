/- The machine side of FnExactAnswerName: what each function that it reaches computes, and that the machine's call gives just that. -/
import Derived.Test.YtijhppbhaaikmaaProg
import Derived.Below
import Derived.Deep.Draws
import Derived.Deep.AppendLies
import Derived.Maps.AppendAt
import Derived.OwnWalk
import Derived.Laws.BytesArg
import Derived.Laws.MakeOwn
import Derived.Laws.OwnMore
import Derived.Deep.OwnRows
import Derived.Tactics
import Derived.Lib.ConvBytes
import Derived.Laws.Slices
import Derived.WalkKit
import Derived.KernelRfl
import Derived.RowKit3
import Derived.Deep.LoopGhost
import Derived.Deep.QuietTactic
import Derived.BigQuiet
import Derived.WideLaws
import Derived.Deep.DeepCutAuto
import Derived.Deep.CutBlock
import Derived.Deep.RegionHeld3
import Derived.Laws.Rows
import Derived.Lib.AppendStr
import Derived.ArgAppend
import Derived.Laws.IdiomCopy
import Derived.OrdersHeld
import Derived.Laws.BitsLemmas
import Derived.RowKit
import Derived.Test.YtijhppbhaaikmaaO
import Derived.Test.YtijhppbhaaikmaaWWords
import Derived.Test.YtijhppbhaaikmaaWLast
import Derived.Test.YtijhppbhaaikmaaWTab
import Derived.Test.YtijhppbhaaikmaaWFour
import Derived.Test.YtijhppbhaaikmaaWQPut
import Derived.Test.YtijhppbhaaikmaaWApart
import Derived.Test.YtijhppbhaaikmaaWArr
import Derived.Test.YtijhppbhaaikmaaWZeros
import Derived.Test.YtijhppbhaaikmaaWFoot
import Derived.Test.YtijhppbhaaikmaaWKept
import Derived.Test.YtijhppbhaaikmaaWShare
import Derived.Test.YtijhppbhaaikmaaWN
import Derived.Test.YtijhppbhaaikmaaWFootNe
import Derived.Test.YtijhppbhaaikmaaWAt
import Derived.Test.YtijhppbhaaikmaaWEqStruct
import Derived.Test.YtijhppbhaaikmaaWRepsOne
import Derived.Test.YtijhppbhaaikmaaWInv
import Derived.Test.YtijhppbhaaikmaaWInvWords
import Derived.Test.YtijhppbhaaikmaaWGuard
import Derived.Test.YtijhppbhaaikmaaWNEv
import Derived.Test.YtijhppbhaaikmaaWMore
namespace Go.Proofs.Ytijhppbhaaikmaa.QFnExactAnswerName
open Go.RowKit Go.Proofs.YtijhppbhaaikmaaW.PrintWords Go.Proofs.YtijhppbhaaikmaaW.PrintLast Go.Proofs.YtijhppbhaaikmaaW.PrintMore
attribute [local go_sem] max2_int min2_int max_two min_two max_three min_three max_four min_four   -- for this text's walks alone
set_option linter.unusedVariables false
set_option linter.unusedSimpArgs false



def errW : Option Int → Value
  | none => .nilIface
  | some c => .iface 0 (.int .i64 c)
theorem errW_none : errW none = .nilIface := rfl
theorem errW_some (c : Int) : errW (some c) = .iface 0 (.int .i64 c) := rfl

theorem info9 : (Try.prog.info? 9).map (fun i => (i.zero, i.size, i.bytes)) = some (some (.string ⟨#[]⟩), 1, 16) := by kernel_rfl
-- the values' own types

end Go.Proofs.Ytijhppbhaaikmaa.QFnExactAnswerName
