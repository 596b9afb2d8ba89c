/-
  No cell of these rows narrows 'for every input' (looked for: loops, veiled, ifaces, maps, wideKeys, modest, calm, conditions, laid).
  DERIVED. THE GIVEN ROWS OF THIS SEAT. 12 by the template 'for every input the law returns true; each argument reads behind the call as it read before'; 0 by the template 'total and deterministic' (their statements: YtijhppbhaaikmaaTotals.lean).
  GIVEN WITH THE SEED: the statements are not yours to turn. If you find one false, say at which input.
  Laid BY PROGRAM, IN A SANDBOX (cutbox-rows.mjs): the forced cells as the released guide's own fill.sh prints them over the translation 088eda009d800316… (all of the seat's roots in one cut). By AI agents, Wed Nov 11 2026. No macro, syntax, notation, axiom, sorry.
-/
import Derived.Test.YtijhppbhaaikmaaChecked
import GoSem.Claim
import GoSem.ClaimJoined
import GoSem.ClaimMapViews
import Derived.JoinedTies
import Derived.KernelRfl
namespace Go.Proofs.Ytijhppbhaaikmaa
/- THE CELL 'sum', in the pinned program and in every row, IS THE sha256 OF THE DUMP (.gsa) THAT YtijhppbhaaikmaaProg.lean LOADS. Nothing in Lean hashes anything: it is a label: what it is worth is what the hold of that sum in a sandbox is worth. -/
noncomputable def Try.pinned : Pinned := { name := "ytijhppbhaaikmaa", sum := "088eda009d8003166ee9bea67246ed306abe4d7a1d8deb9876fc54f859f69d42", checked := Try.checked }
namespace Rows
def none {H : Type} : Left H := { results := [], args := [] }

/-- 'laws.FnExactAnswerName': WHATEVER THE INPUT: true; the input reads as it did. -/
def fnExactAnswerNameSpec : ChangeSpec := { name := "fnExactAnswerName", fn := fun _ => fun
  | [d] => { results := [.lit (.bool true)], args := [d] }
  | _ => none }
def fnExactAnswerNameRow : OpenClaim := { program := "ytijhppbhaaikmaa", sum := "088eda009d8003166ee9bea67246ed306abe4d7a1d8deb9876fc54f859f69d42", func := "loop.example/g00594/laws.FnExactAnswerName", spec := "fnExactAnswerName", apart := false }
def FnExactAnswerNameSaid : Prop := fnExactAnswerNameRow.holds Try.pinned (OpenSpec.ofChange fnExactAnswerNameSpec)

/-- ITS FALSE NEIGHBOUR: 'it returns false'. Refute it at one input. -/
def fnExactAnswerNameWrong : ChangeSpec := { name := "fnExactAnswerName", fn := fun _ => fun
  | [d] => { results := [.lit (.bool false)], args := [d] }
  | _ => none }
def FnExactAnswerNameWrongFalsely : Prop := fnExactAnswerNameRow.holds Try.pinned (OpenSpec.ofChange fnExactAnswerNameWrong)

/-- 'laws.FnExactIsUse': WHATEVER THE INPUT: true; the input reads as it did. -/
def fnExactIsUseSpec : ChangeSpec := { name := "fnExactIsUse", fn := fun _ => fun
  | [d] => { results := [.lit (.bool true)], args := [d] }
  | _ => none }
def fnExactIsUseRow : OpenClaim := { program := "ytijhppbhaaikmaa", sum := "088eda009d8003166ee9bea67246ed306abe4d7a1d8deb9876fc54f859f69d42", func := "loop.example/g00594/laws.FnExactIsUse", spec := "fnExactIsUse", apart := false }
def FnExactIsUseSaid : Prop := fnExactIsUseRow.holds Try.pinned (OpenSpec.ofChange fnExactIsUseSpec)

/-- ITS FALSE NEIGHBOUR: 'it returns false'. Refute it at one input. -/
def fnExactIsUseWrong : ChangeSpec := { name := "fnExactIsUse", fn := fun _ => fun
  | [d] => { results := [.lit (.bool false)], args := [d] }
  | _ => none }
def FnExactIsUseWrongFalsely : Prop := fnExactIsUseRow.holds Try.pinned (OpenSpec.ofChange fnExactIsUseWrong)

/-- 'laws.FnExactSumShares': WHATEVER THE INPUT: true; the input reads as it did. -/
def fnExactSumSharesSpec : ChangeSpec := { name := "fnExactSumShares", fn := fun _ => fun
  | [d] => { results := [.lit (.bool true)], args := [d] }
  | _ => none }
def fnExactSumSharesRow : OpenClaim := { program := "ytijhppbhaaikmaa", sum := "088eda009d8003166ee9bea67246ed306abe4d7a1d8deb9876fc54f859f69d42", func := "loop.example/g00594/laws.FnExactSumShares", spec := "fnExactSumShares", apart := false }
def FnExactSumSharesSaid : Prop := fnExactSumSharesRow.holds Try.pinned (OpenSpec.ofChange fnExactSumSharesSpec)

/-- ITS FALSE NEIGHBOUR: 'it returns false'. Refute it at one input. -/
def fnExactSumSharesWrong : ChangeSpec := { name := "fnExactSumShares", fn := fun _ => fun
  | [d] => { results := [.lit (.bool false)], args := [d] }
  | _ => none }
def FnExactSumSharesWrongFalsely : Prop := fnExactSumSharesRow.holds Try.pinned (OpenSpec.ofChange fnExactSumSharesWrong)

/-- 'laws.FnExactAreApart': WHATEVER THE INPUT: true; the input reads as it did. -/
def fnExactAreApartSpec : ChangeSpec := { name := "fnExactAreApart", fn := fun _ => fun
  | [d1, d2, d3, d4] => { results := [.lit (.bool true)], args := [d1, d2, d3, d4] }
  | _ => none }
def fnExactAreApartRow : OpenClaim := { program := "ytijhppbhaaikmaa", sum := "088eda009d8003166ee9bea67246ed306abe4d7a1d8deb9876fc54f859f69d42", func := "loop.example/g00594/laws.FnExactAreApart", spec := "fnExactAreApart", apart := false }
def FnExactAreApartSaid : Prop := fnExactAreApartRow.holds Try.pinned (OpenSpec.ofChange fnExactAreApartSpec)

/-- ITS FALSE NEIGHBOUR: 'it returns false'. Refute it at one input. -/
def fnExactAreApartWrong : ChangeSpec := { name := "fnExactAreApart", fn := fun _ => fun
  | [d1, d2, d3, d4] => { results := [.lit (.bool false)], args := [d1, d2, d3, d4] }
  | _ => none }
def FnExactAreApartWrongFalsely : Prop := fnExactAreApartRow.holds Try.pinned (OpenSpec.ofChange fnExactAreApartWrong)

/-- 'laws.FnExactLeftAt': WHATEVER THE INPUT: true; the input reads as it did. -/
def fnExactLeftAtSpec : ChangeSpec := { name := "fnExactLeftAt", fn := fun _ => fun
  | [d1, d2] => { results := [.lit (.bool true)], args := [d1, d2] }
  | _ => none }
def fnExactLeftAtRow : OpenClaim := { program := "ytijhppbhaaikmaa", sum := "088eda009d8003166ee9bea67246ed306abe4d7a1d8deb9876fc54f859f69d42", func := "loop.example/g00594/laws.FnExactLeftAt", spec := "fnExactLeftAt", unfollowed := true, recurses := true, apart := false }
def FnExactLeftAtSaid : Prop := fnExactLeftAtRow.holds Try.pinned (OpenSpec.ofChange fnExactLeftAtSpec)

/-- ITS FALSE NEIGHBOUR: 'it returns false'. Refute it at one input. -/
def fnExactLeftAtWrong : ChangeSpec := { name := "fnExactLeftAt", fn := fun _ => fun
  | [d1, d2] => { results := [.lit (.bool false)], args := [d1, d2] }
  | _ => none }
def FnExactLeftAtWrongFalsely : Prop := fnExactLeftAtRow.holds Try.pinned (OpenSpec.ofChange fnExactLeftAtWrong)

/-- 'laws.FnExactAreShares': WHATEVER THE INPUT: true; the input reads as it did. -/
def fnExactAreSharesSpec : ChangeSpec := { name := "fnExactAreShares", fn := fun _ => fun
  | [d] => { results := [.lit (.bool true)], args := [d] }
  | _ => none }
def fnExactAreSharesRow : OpenClaim := { program := "ytijhppbhaaikmaa", sum := "088eda009d8003166ee9bea67246ed306abe4d7a1d8deb9876fc54f859f69d42", func := "loop.example/g00594/laws.FnExactAreShares", spec := "fnExactAreShares", apart := false }
def FnExactAreSharesSaid : Prop := fnExactAreSharesRow.holds Try.pinned (OpenSpec.ofChange fnExactAreSharesSpec)

/-- ITS FALSE NEIGHBOUR: 'it returns false'. Refute it at one input. -/
def fnExactAreSharesWrong : ChangeSpec := { name := "fnExactAreShares", fn := fun _ => fun
  | [d] => { results := [.lit (.bool false)], args := [d] }
  | _ => none }
def FnExactAreSharesWrongFalsely : Prop := fnExactAreSharesRow.holds Try.pinned (OpenSpec.ofChange fnExactAreSharesWrong)

/-- 'laws.FnExactIsPlan': WHATEVER THE INPUT: true; the input reads as it did. -/
def fnExactIsPlanSpec : ChangeSpec := { name := "fnExactIsPlan", fn := fun _ => fun
  | [d] => { results := [.lit (.bool true)], args := [d] }
  | _ => none }
def fnExactIsPlanRow : OpenClaim := { program := "ytijhppbhaaikmaa", sum := "088eda009d8003166ee9bea67246ed306abe4d7a1d8deb9876fc54f859f69d42", func := "loop.example/g00594/laws.FnExactIsPlan", spec := "fnExactIsPlan", apart := false }
def FnExactIsPlanSaid : Prop := fnExactIsPlanRow.holds Try.pinned (OpenSpec.ofChange fnExactIsPlanSpec)

/-- ITS FALSE NEIGHBOUR: 'it returns false'. Refute it at one input. -/
def fnExactIsPlanWrong : ChangeSpec := { name := "fnExactIsPlan", fn := fun _ => fun
  | [d] => { results := [.lit (.bool false)], args := [d] }
  | _ => none }
def FnExactIsPlanWrongFalsely : Prop := fnExactIsPlanRow.holds Try.pinned (OpenSpec.ofChange fnExactIsPlanWrong)

/-- 'laws.FnExactFindSaved': WHATEVER THE INPUT: true; the input reads as it did. -/
def fnExactFindSavedSpec : ChangeSpec := { name := "fnExactFindSaved", fn := fun _ => fun
  | [d1, d2] => { results := [.lit (.bool true)], args := [d1, d2] }
  | _ => none }
def fnExactFindSavedRow : OpenClaim := { program := "ytijhppbhaaikmaa", sum := "088eda009d8003166ee9bea67246ed306abe4d7a1d8deb9876fc54f859f69d42", func := "loop.example/g00594/laws.FnExactFindSaved", spec := "fnExactFindSaved", unfollowed := true, recurses := true, apart := false }
def FnExactFindSavedSaid : Prop := fnExactFindSavedRow.holds Try.pinned (OpenSpec.ofChange fnExactFindSavedSpec)

/-- ITS FALSE NEIGHBOUR: 'it returns false'. Refute it at one input. -/
def fnExactFindSavedWrong : ChangeSpec := { name := "fnExactFindSaved", fn := fun _ => fun
  | [d1, d2] => { results := [.lit (.bool false)], args := [d1, d2] }
  | _ => none }
def FnExactFindSavedWrongFalsely : Prop := fnExactFindSavedRow.holds Try.pinned (OpenSpec.ofChange fnExactFindSavedWrong)

/-- 'laws.FnExactSplitQuota': WHATEVER THE INPUT: true; the input reads as it did. -/
def fnExactSplitQuotaSpec : ChangeSpec := { name := "fnExactSplitQuota", fn := fun _ => fun
  | [d1, d2] => { results := [.lit (.bool true)], args := [d1, d2] }
  | _ => none }
def fnExactSplitQuotaRow : OpenClaim := { program := "ytijhppbhaaikmaa", sum := "088eda009d8003166ee9bea67246ed306abe4d7a1d8deb9876fc54f859f69d42", func := "loop.example/g00594/laws.FnExactSplitQuota", spec := "fnExactSplitQuota", apart := false }
def FnExactSplitQuotaSaid : Prop := fnExactSplitQuotaRow.holds Try.pinned (OpenSpec.ofChange fnExactSplitQuotaSpec)

/-- ITS FALSE NEIGHBOUR: 'it returns false'. Refute it at one input. -/
def fnExactSplitQuotaWrong : ChangeSpec := { name := "fnExactSplitQuota", fn := fun _ => fun
  | [d1, d2] => { results := [.lit (.bool false)], args := [d1, d2] }
  | _ => none }
def FnExactSplitQuotaWrongFalsely : Prop := fnExactSplitQuotaRow.holds Try.pinned (OpenSpec.ofChange fnExactSplitQuotaWrong)

/-- 'laws.FnExactMayDo': WHATEVER THE INPUT: true; the input reads as it did. -/
def fnExactMayDoSpec : ChangeSpec := { name := "fnExactMayDo", fn := fun _ => fun
  | [d1, d2, d3, d4, d5] => { results := [.lit (.bool true)], args := [d1, d2, d3, d4, d5] }
  | _ => none }
def fnExactMayDoRow : OpenClaim := { program := "ytijhppbhaaikmaa", sum := "088eda009d8003166ee9bea67246ed306abe4d7a1d8deb9876fc54f859f69d42", func := "loop.example/g00594/laws.FnExactMayDo", spec := "fnExactMayDo", unfollowed := true, recurses := true, apart := false }
def FnExactMayDoSaid : Prop := fnExactMayDoRow.holds Try.pinned (OpenSpec.ofChange fnExactMayDoSpec)

/-- ITS FALSE NEIGHBOUR: 'it returns false'. Refute it at one input. -/
def fnExactMayDoWrong : ChangeSpec := { name := "fnExactMayDo", fn := fun _ => fun
  | [d1, d2, d3, d4, d5] => { results := [.lit (.bool false)], args := [d1, d2, d3, d4, d5] }
  | _ => none }
def FnExactMayDoWrongFalsely : Prop := fnExactMayDoRow.holds Try.pinned (OpenSpec.ofChange fnExactMayDoWrong)

/-- 'laws.FnExactTakeShare': WHATEVER THE INPUT: true; the input reads as it did. -/
def fnExactTakeShareSpec : ChangeSpec := { name := "fnExactTakeShare", fn := fun _ => fun
  | [d1, d2, d3] => { results := [.lit (.bool true)], args := [d1, d2, d3] }
  | _ => none }
def fnExactTakeShareRow : OpenClaim := { program := "ytijhppbhaaikmaa", sum := "088eda009d8003166ee9bea67246ed306abe4d7a1d8deb9876fc54f859f69d42", func := "loop.example/g00594/laws.FnExactTakeShare", spec := "fnExactTakeShare", unfollowed := true, recurses := true, apart := false }
def FnExactTakeShareSaid : Prop := fnExactTakeShareRow.holds Try.pinned (OpenSpec.ofChange fnExactTakeShareSpec)

/-- ITS FALSE NEIGHBOUR: 'it returns false'. Refute it at one input. -/
def fnExactTakeShareWrong : ChangeSpec := { name := "fnExactTakeShare", fn := fun _ => fun
  | [d1, d2, d3] => { results := [.lit (.bool false)], args := [d1, d2, d3] }
  | _ => none }
def FnExactTakeShareWrongFalsely : Prop := fnExactTakeShareRow.holds Try.pinned (OpenSpec.ofChange fnExactTakeShareWrong)

/-- 'laws.FnExactDebtsOf': WHATEVER THE INPUT: true; the input reads as it did. -/
def fnExactDebtsOfSpec : ChangeSpec := { name := "fnExactDebtsOf", fn := fun _ => fun
  | [d1, d2] => { results := [.lit (.bool true)], args := [d1, d2] }
  | _ => none }
def fnExactDebtsOfRow : OpenClaim := { program := "ytijhppbhaaikmaa", sum := "088eda009d8003166ee9bea67246ed306abe4d7a1d8deb9876fc54f859f69d42", func := "loop.example/g00594/laws.FnExactDebtsOf", spec := "fnExactDebtsOf", apart := false }
def FnExactDebtsOfSaid : Prop := fnExactDebtsOfRow.holds Try.pinned (OpenSpec.ofChange fnExactDebtsOfSpec)

/-- ITS FALSE NEIGHBOUR: 'it returns false'. Refute it at one input. -/
def fnExactDebtsOfWrong : ChangeSpec := { name := "fnExactDebtsOf", fn := fun _ => fun
  | [d1, d2] => { results := [.lit (.bool false)], args := [d1, d2] }
  | _ => none }
def FnExactDebtsOfWrongFalsely : Prop := fnExactDebtsOfRow.holds Try.pinned (OpenSpec.ofChange fnExactDebtsOfWrong)

/- THE SECOND FORM. 'bulk': how many values and letters a reading holds, each counted each time it is reached (what is shared counts as often as it is met; a slice's spare places count too). A statement '..UptoSaid' is the law's where the arguments, and the package variables that the reading takes, are together of bulk at most 1048576: NARROWER than '..Said'. Prove '..Said' where nothing that the law and all that it calls make is longer than what came in: it says more and counts as full. Else prove '..UptoSaid'. A law counts once. -/
mutual
def uptoBulk {H : Type} : DataW H → Nat
  | .lit (.string bytes) => bytes.length + 1
  | .lit _ => 1
  | .nil => 1
  | .ptr d => uptoBulk d + 1
  | .slice elems spare => uptoBulkAll elems + uptoBulkAll spare + 1
  | .agg parts => uptoBulkAll parts + 1
  | .iface _ d => uptoBulk d + 1
  | .map entries => uptoBulkEntries entries + 1
  | .held _ => 1
def uptoBulkAll {H : Type} : List (DataW H) → Nat
  | [] => 0
  | d :: r => uptoBulk d + uptoBulkAll r
def uptoBulkEntries {H : Type} : List (Lit × DataW H) → Nat
  | [] => 0
  | x :: r => uptoBulkEntry x + uptoBulkEntries r
def uptoBulkEntry {H : Type} : Lit × DataW H → Nat
  | (.string bytes, d) => bytes.length + uptoBulk d + 1
  | (_, d) => uptoBulk d + 1
 end
def uptoSmall : (H : Type) → List (DataW H) → Bool := fun _ ds => decide (uptoBulkAll ds ≤ 1048576)
def OpenSpec.upto (s : _root_.Go.ChangeSpec) : _root_.Go.OpenSpec := { _root_.Go.OpenSpec.ofChange s with cond := some uptoSmall }

/-- 'laws.FnExactAnswerName', WHERE WHAT IT READS IS OF BULK AT MOST 1048576: true; the input reads as it did. -/
def fnExactAnswerNameUptoRow : OpenClaim := { program := "ytijhppbhaaikmaa", sum := "088eda009d8003166ee9bea67246ed306abe4d7a1d8deb9876fc54f859f69d42", func := "loop.example/g00594/laws.FnExactAnswerName", spec := "fnExactAnswerName", apart := false, narrowed := true }
def FnExactAnswerNameUptoSaid : Prop := fnExactAnswerNameUptoRow.holds Try.pinned (OpenSpec.upto fnExactAnswerNameSpec)

/-- 'laws.FnExactIsUse', WHERE WHAT IT READS IS OF BULK AT MOST 1048576: true; the input reads as it did. -/
def fnExactIsUseUptoRow : OpenClaim := { program := "ytijhppbhaaikmaa", sum := "088eda009d8003166ee9bea67246ed306abe4d7a1d8deb9876fc54f859f69d42", func := "loop.example/g00594/laws.FnExactIsUse", spec := "fnExactIsUse", apart := false, narrowed := true }
def FnExactIsUseUptoSaid : Prop := fnExactIsUseUptoRow.holds Try.pinned (OpenSpec.upto fnExactIsUseSpec)

/-- 'laws.FnExactSumShares', WHERE WHAT IT READS IS OF BULK AT MOST 1048576: true; the input reads as it did. -/
def fnExactSumSharesUptoRow : OpenClaim := { program := "ytijhppbhaaikmaa", sum := "088eda009d8003166ee9bea67246ed306abe4d7a1d8deb9876fc54f859f69d42", func := "loop.example/g00594/laws.FnExactSumShares", spec := "fnExactSumShares", apart := false, narrowed := true }
def FnExactSumSharesUptoSaid : Prop := fnExactSumSharesUptoRow.holds Try.pinned (OpenSpec.upto fnExactSumSharesSpec)

/-- 'laws.FnExactAreApart', WHERE WHAT IT READS IS OF BULK AT MOST 1048576: true; the input reads as it did. -/
def fnExactAreApartUptoRow : OpenClaim := { program := "ytijhppbhaaikmaa", sum := "088eda009d8003166ee9bea67246ed306abe4d7a1d8deb9876fc54f859f69d42", func := "loop.example/g00594/laws.FnExactAreApart", spec := "fnExactAreApart", apart := false, narrowed := true }
def FnExactAreApartUptoSaid : Prop := fnExactAreApartUptoRow.holds Try.pinned (OpenSpec.upto fnExactAreApartSpec)

/-- 'laws.FnExactLeftAt', WHERE WHAT IT READS IS OF BULK AT MOST 1048576: true; the input reads as it did. -/
def fnExactLeftAtUptoRow : OpenClaim := { program := "ytijhppbhaaikmaa", sum := "088eda009d8003166ee9bea67246ed306abe4d7a1d8deb9876fc54f859f69d42", func := "loop.example/g00594/laws.FnExactLeftAt", spec := "fnExactLeftAt", unfollowed := true, recurses := true, apart := false, narrowed := true }
def FnExactLeftAtUptoSaid : Prop := fnExactLeftAtUptoRow.holds Try.pinned (OpenSpec.upto fnExactLeftAtSpec)

/-- 'laws.FnExactAreShares', WHERE WHAT IT READS IS OF BULK AT MOST 1048576: true; the input reads as it did. -/
def fnExactAreSharesUptoRow : OpenClaim := { program := "ytijhppbhaaikmaa", sum := "088eda009d8003166ee9bea67246ed306abe4d7a1d8deb9876fc54f859f69d42", func := "loop.example/g00594/laws.FnExactAreShares", spec := "fnExactAreShares", apart := false, narrowed := true }
def FnExactAreSharesUptoSaid : Prop := fnExactAreSharesUptoRow.holds Try.pinned (OpenSpec.upto fnExactAreSharesSpec)

/-- 'laws.FnExactIsPlan', WHERE WHAT IT READS IS OF BULK AT MOST 1048576: true; the input reads as it did. -/
def fnExactIsPlanUptoRow : OpenClaim := { program := "ytijhppbhaaikmaa", sum := "088eda009d8003166ee9bea67246ed306abe4d7a1d8deb9876fc54f859f69d42", func := "loop.example/g00594/laws.FnExactIsPlan", spec := "fnExactIsPlan", apart := false, narrowed := true }
def FnExactIsPlanUptoSaid : Prop := fnExactIsPlanUptoRow.holds Try.pinned (OpenSpec.upto fnExactIsPlanSpec)

/-- 'laws.FnExactFindSaved', WHERE WHAT IT READS IS OF BULK AT MOST 1048576: true; the input reads as it did. -/
def fnExactFindSavedUptoRow : OpenClaim := { program := "ytijhppbhaaikmaa", sum := "088eda009d8003166ee9bea67246ed306abe4d7a1d8deb9876fc54f859f69d42", func := "loop.example/g00594/laws.FnExactFindSaved", spec := "fnExactFindSaved", unfollowed := true, recurses := true, apart := false, narrowed := true }
def FnExactFindSavedUptoSaid : Prop := fnExactFindSavedUptoRow.holds Try.pinned (OpenSpec.upto fnExactFindSavedSpec)

/-- 'laws.FnExactSplitQuota', WHERE WHAT IT READS IS OF BULK AT MOST 1048576: true; the input reads as it did. -/
def fnExactSplitQuotaUptoRow : OpenClaim := { program := "ytijhppbhaaikmaa", sum := "088eda009d8003166ee9bea67246ed306abe4d7a1d8deb9876fc54f859f69d42", func := "loop.example/g00594/laws.FnExactSplitQuota", spec := "fnExactSplitQuota", apart := false, narrowed := true }
def FnExactSplitQuotaUptoSaid : Prop := fnExactSplitQuotaUptoRow.holds Try.pinned (OpenSpec.upto fnExactSplitQuotaSpec)

/-- 'laws.FnExactMayDo', WHERE WHAT IT READS IS OF BULK AT MOST 1048576: true; the input reads as it did. -/
def fnExactMayDoUptoRow : OpenClaim := { program := "ytijhppbhaaikmaa", sum := "088eda009d8003166ee9bea67246ed306abe4d7a1d8deb9876fc54f859f69d42", func := "loop.example/g00594/laws.FnExactMayDo", spec := "fnExactMayDo", unfollowed := true, recurses := true, apart := false, narrowed := true }
def FnExactMayDoUptoSaid : Prop := fnExactMayDoUptoRow.holds Try.pinned (OpenSpec.upto fnExactMayDoSpec)

/-- 'laws.FnExactTakeShare', WHERE WHAT IT READS IS OF BULK AT MOST 1048576: true; the input reads as it did. -/
def fnExactTakeShareUptoRow : OpenClaim := { program := "ytijhppbhaaikmaa", sum := "088eda009d8003166ee9bea67246ed306abe4d7a1d8deb9876fc54f859f69d42", func := "loop.example/g00594/laws.FnExactTakeShare", spec := "fnExactTakeShare", unfollowed := true, recurses := true, apart := false, narrowed := true }
def FnExactTakeShareUptoSaid : Prop := fnExactTakeShareUptoRow.holds Try.pinned (OpenSpec.upto fnExactTakeShareSpec)

/-- 'laws.FnExactDebtsOf', WHERE WHAT IT READS IS OF BULK AT MOST 1048576: true; the input reads as it did. -/
def fnExactDebtsOfUptoRow : OpenClaim := { program := "ytijhppbhaaikmaa", sum := "088eda009d8003166ee9bea67246ed306abe4d7a1d8deb9876fc54f859f69d42", func := "loop.example/g00594/laws.FnExactDebtsOf", spec := "fnExactDebtsOf", apart := false, narrowed := true }
def FnExactDebtsOfUptoSaid : Prop := fnExactDebtsOfUptoRow.holds Try.pinned (OpenSpec.upto fnExactDebtsOfSpec)

end Rows
end Go.Proofs.Ytijhppbhaaikmaa
