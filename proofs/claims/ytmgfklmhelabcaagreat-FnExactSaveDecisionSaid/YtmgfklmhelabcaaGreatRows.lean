/-
  NARROWER THAN 'FOR EVERY INPUT', by the rows' own cells (each row's printed sentence says how): FnExactDecisionUntil: loops · FnExactSaveDecision: loops · FnExactCenterPublish: loops · FnExactIsPoint: loops · FnExactAskPoint: loops · FnExactSyncPoint: loops · FnExactSyncAll: loops.
  DERIVED. THE GIVEN ROWS OF THIS SEAT. 11 by the template 'for every input the law returns true; each argument reads behind the call as it read before'; 0 by the template 'total and deterministic' (their statements: YtmgfklmhelabcaaGreatTotals.lean).
  GIVEN WITH THE SEED: the statements are not yours to turn. If you find one false, say at which input.
  Laid BY PROGRAM, IN A SANDBOX (cutbox-rows.mjs): the forced cells as the released guide's own fill.sh prints them over the translation 360b27735706e337… (all of the seat's roots in one cut). By AI agents, Wed Nov 11 2026. No macro, syntax, notation, axiom, sorry.
-/
import Derived.Test.YtmgfklmhelabcaaGreatChecked
import GoSem.Claim
import GoSem.ClaimJoined
import GoSem.ClaimMapViews
import Derived.JoinedTies
import Derived.KernelRfl
namespace Go.Proofs.YtmgfklmhelabcaaGreat
/- THE CELL 'sum', in the pinned program and in every row, IS THE sha256 OF THE DUMP (.gsa) THAT YtmgfklmhelabcaaGreatProg.lean LOADS. Nothing in Lean hashes anything: it is a label: what it is worth is what the hold of that sum in a sandbox is worth. -/
noncomputable def Tryz.pinned : Pinned := { name := "ytmgfklmhelabcaagreat", sum := "360b27735706e33722ebbe1a0e37c5f28834826e64cd9112b8801d764f574955", checked := Tryz.checked }
namespace Rows
def none {H : Type} : Left H := { results := [], args := [] }

/-- 'laws.FnExactDecisionUntil': WHATEVER THE INPUT: true; the input reads as it did. -/
def fnExactDecisionUntilSpec : ChangeSpec := { name := "fnExactDecisionUntil", fn := fun _ => fun
  | [d1, d2, d3, d4, d5] => { results := [.lit (.bool true)], args := [d1, d2, d3, d4, d5] }
  | _ => none }
def fnExactDecisionUntilRow : OpenClaim := { program := "ytmgfklmhelabcaagreat", sum := "360b27735706e33722ebbe1a0e37c5f28834826e64cd9112b8801d764f574955", func := "loop.example/g00594/laws.FnExactDecisionUntil", spec := "fnExactDecisionUntil", unfollowed := true, recurses := true, loops := true, apart := false }
def FnExactDecisionUntilSaid : Prop := fnExactDecisionUntilRow.holds Tryz.pinned (OpenSpec.ofChange fnExactDecisionUntilSpec)

/-- ITS FALSE NEIGHBOUR: 'it returns false'. Refute it at one input. -/
def fnExactDecisionUntilWrong : ChangeSpec := { name := "fnExactDecisionUntil", fn := fun _ => fun
  | [d1, d2, d3, d4, d5] => { results := [.lit (.bool false)], args := [d1, d2, d3, d4, d5] }
  | _ => none }
def FnExactDecisionUntilWrongFalsely : Prop := fnExactDecisionUntilRow.holds Tryz.pinned (OpenSpec.ofChange fnExactDecisionUntilWrong)

/-- 'laws.FnExactSaveDecision': WHATEVER THE INPUT: true; the input reads as it did. -/
def fnExactSaveDecisionSpec : ChangeSpec := { name := "fnExactSaveDecision", fn := fun _ => fun
  | [d1, d2, d3, d4, d5] => { results := [.lit (.bool true)], args := [d1, d2, d3, d4, d5] }
  | _ => none }
def fnExactSaveDecisionRow : OpenClaim := { program := "ytmgfklmhelabcaagreat", sum := "360b27735706e33722ebbe1a0e37c5f28834826e64cd9112b8801d764f574955", func := "loop.example/g00594/laws.FnExactSaveDecision", spec := "fnExactSaveDecision", unfollowed := true, recurses := true, loops := true, apart := false }
def FnExactSaveDecisionSaid : Prop := fnExactSaveDecisionRow.holds Tryz.pinned (OpenSpec.ofChange fnExactSaveDecisionSpec)

/-- ITS FALSE NEIGHBOUR: 'it returns false'. Refute it at one input. -/
def fnExactSaveDecisionWrong : ChangeSpec := { name := "fnExactSaveDecision", fn := fun _ => fun
  | [d1, d2, d3, d4, d5] => { results := [.lit (.bool false)], args := [d1, d2, d3, d4, d5] }
  | _ => none }
def FnExactSaveDecisionWrongFalsely : Prop := fnExactSaveDecisionRow.holds Tryz.pinned (OpenSpec.ofChange fnExactSaveDecisionWrong)

/-- 'laws.FnSavedAnswers': WHATEVER THE INPUT: true; the input reads as it did. -/
def fnSavedAnswersSpec : ChangeSpec := { name := "fnSavedAnswers", fn := fun _ => fun
  | [d] => { results := [.lit (.bool true)], args := [d] }
  | _ => none }
def fnSavedAnswersRow : OpenClaim := { program := "ytmgfklmhelabcaagreat", sum := "360b27735706e33722ebbe1a0e37c5f28834826e64cd9112b8801d764f574955", func := "loop.example/g00594/laws.FnSavedAnswers", spec := "fnSavedAnswers", unfollowed := true, recurses := true, apart := false }
def FnSavedAnswersSaid : Prop := fnSavedAnswersRow.holds Tryz.pinned (OpenSpec.ofChange fnSavedAnswersSpec)

/-- ITS FALSE NEIGHBOUR: 'it returns false'. Refute it at one input. -/
def fnSavedAnswersWrong : ChangeSpec := { name := "fnSavedAnswers", fn := fun _ => fun
  | [d] => { results := [.lit (.bool false)], args := [d] }
  | _ => none }
def FnSavedAnswersWrongFalsely : Prop := fnSavedAnswersRow.holds Tryz.pinned (OpenSpec.ofChange fnSavedAnswersWrong)

/-- 'laws.FnExactCenterPublish': WHATEVER THE INPUT: true; the input reads as it did. -/
def fnExactCenterPublishSpec : ChangeSpec := { name := "fnExactCenterPublish", fn := fun _ => fun
  | [d1, d2, d3, d4] => { results := [.lit (.bool true)], args := [d1, d2, d3, d4] }
  | _ => none }
def fnExactCenterPublishRow : OpenClaim := { program := "ytmgfklmhelabcaagreat", sum := "360b27735706e33722ebbe1a0e37c5f28834826e64cd9112b8801d764f574955", func := "loop.example/g00594/laws.FnExactCenterPublish", spec := "fnExactCenterPublish", unfollowed := true, recurses := true, loops := true, apart := false }
def FnExactCenterPublishSaid : Prop := fnExactCenterPublishRow.holds Tryz.pinned (OpenSpec.ofChange fnExactCenterPublishSpec)

/-- ITS FALSE NEIGHBOUR: 'it returns false'. Refute it at one input. -/
def fnExactCenterPublishWrong : ChangeSpec := { name := "fnExactCenterPublish", fn := fun _ => fun
  | [d1, d2, d3, d4] => { results := [.lit (.bool false)], args := [d1, d2, d3, d4] }
  | _ => none }
def FnExactCenterPublishWrongFalsely : Prop := fnExactCenterPublishRow.holds Tryz.pinned (OpenSpec.ofChange fnExactCenterPublishWrong)

/-- 'laws.FnExactIsPoint': WHATEVER THE INPUT: true; the input reads as it did. -/
def fnExactIsPointSpec : ChangeSpec := { name := "fnExactIsPoint", fn := fun _ => fun
  | [d] => { results := [.lit (.bool true)], args := [d] }
  | _ => none }
def fnExactIsPointRow : OpenClaim := { program := "ytmgfklmhelabcaagreat", sum := "360b27735706e33722ebbe1a0e37c5f28834826e64cd9112b8801d764f574955", func := "loop.example/g00594/laws.FnExactIsPoint", spec := "fnExactIsPoint", unfollowed := true, recurses := true, loops := true, apart := false }
def FnExactIsPointSaid : Prop := fnExactIsPointRow.holds Tryz.pinned (OpenSpec.ofChange fnExactIsPointSpec)

/-- ITS FALSE NEIGHBOUR: 'it returns false'. Refute it at one input. -/
def fnExactIsPointWrong : ChangeSpec := { name := "fnExactIsPoint", fn := fun _ => fun
  | [d] => { results := [.lit (.bool false)], args := [d] }
  | _ => none }
def FnExactIsPointWrongFalsely : Prop := fnExactIsPointRow.holds Tryz.pinned (OpenSpec.ofChange fnExactIsPointWrong)

/-- 'laws.FnExactAskPoint': WHATEVER THE INPUT: true; the input reads as it did. -/
def fnExactAskPointSpec : ChangeSpec := { name := "fnExactAskPoint", fn := fun _ => fun
  | [d1, d2, d3, d4] => { results := [.lit (.bool true)], args := [d1, d2, d3, d4] }
  | _ => none }
def fnExactAskPointRow : OpenClaim := { program := "ytmgfklmhelabcaagreat", sum := "360b27735706e33722ebbe1a0e37c5f28834826e64cd9112b8801d764f574955", func := "loop.example/g00594/laws.FnExactAskPoint", spec := "fnExactAskPoint", unfollowed := true, recurses := true, loops := true, apart := false }
def FnExactAskPointSaid : Prop := fnExactAskPointRow.holds Tryz.pinned (OpenSpec.ofChange fnExactAskPointSpec)

/-- ITS FALSE NEIGHBOUR: 'it returns false'. Refute it at one input. -/
def fnExactAskPointWrong : ChangeSpec := { name := "fnExactAskPoint", fn := fun _ => fun
  | [d1, d2, d3, d4] => { results := [.lit (.bool false)], args := [d1, d2, d3, d4] }
  | _ => none }
def FnExactAskPointWrongFalsely : Prop := fnExactAskPointRow.holds Tryz.pinned (OpenSpec.ofChange fnExactAskPointWrong)

/-- 'laws.FnAsked': WHATEVER THE INPUT: true; the input reads as it did. -/
def fnAskedSpec : ChangeSpec := { name := "fnAsked", fn := fun _ => fun
  | [d] => { results := [.lit (.bool true)], args := [d] }
  | _ => none }
def fnAskedRow : OpenClaim := { program := "ytmgfklmhelabcaagreat", sum := "360b27735706e33722ebbe1a0e37c5f28834826e64cd9112b8801d764f574955", func := "loop.example/g00594/laws.FnAsked", spec := "fnAsked", unfollowed := true, recurses := true, apart := false }
def FnAskedSaid : Prop := fnAskedRow.holds Tryz.pinned (OpenSpec.ofChange fnAskedSpec)

/-- ITS FALSE NEIGHBOUR: 'it returns false'. Refute it at one input. -/
def fnAskedWrong : ChangeSpec := { name := "fnAsked", fn := fun _ => fun
  | [d] => { results := [.lit (.bool false)], args := [d] }
  | _ => none }
def FnAskedWrongFalsely : Prop := fnAskedRow.holds Tryz.pinned (OpenSpec.ofChange fnAskedWrong)

/-- 'laws.FnExactSyncPoint': WHATEVER THE INPUT: true; the input reads as it did. -/
def fnExactSyncPointSpec : ChangeSpec := { name := "fnExactSyncPoint", fn := fun _ => fun
  | [d1, d2, d3] => { results := [.lit (.bool true)], args := [d1, d2, d3] }
  | _ => none }
def fnExactSyncPointRow : OpenClaim := { program := "ytmgfklmhelabcaagreat", sum := "360b27735706e33722ebbe1a0e37c5f28834826e64cd9112b8801d764f574955", func := "loop.example/g00594/laws.FnExactSyncPoint", spec := "fnExactSyncPoint", inPlace := ["slices.overlaps[loop.example/g00594/impl.Revoked]"], unfollowed := true, recurses := true, loops := true, apart := false }
def FnExactSyncPointSaid : Prop := fnExactSyncPointRow.holds Tryz.pinned (OpenSpec.ofChange fnExactSyncPointSpec)

/-- ITS FALSE NEIGHBOUR: 'it returns false'. Refute it at one input. -/
def fnExactSyncPointWrong : ChangeSpec := { name := "fnExactSyncPoint", fn := fun _ => fun
  | [d1, d2, d3] => { results := [.lit (.bool false)], args := [d1, d2, d3] }
  | _ => none }
def FnExactSyncPointWrongFalsely : Prop := fnExactSyncPointRow.holds Tryz.pinned (OpenSpec.ofChange fnExactSyncPointWrong)

/-- 'laws.FnExactSyncAll': WHATEVER THE INPUT: true; the input reads as it did. -/
def fnExactSyncAllSpec : ChangeSpec := { name := "fnExactSyncAll", fn := fun _ => fun
  | [d1, d2, d3] => { results := [.lit (.bool true)], args := [d1, d2, d3] }
  | _ => none }
def fnExactSyncAllRow : OpenClaim := { program := "ytmgfklmhelabcaagreat", sum := "360b27735706e33722ebbe1a0e37c5f28834826e64cd9112b8801d764f574955", func := "loop.example/g00594/laws.FnExactSyncAll", spec := "fnExactSyncAll", inPlace := ["slices.overlaps[loop.example/g00594/impl.Revoked]"], unfollowed := true, recurses := true, loops := true, apart := false }
def FnExactSyncAllSaid : Prop := fnExactSyncAllRow.holds Tryz.pinned (OpenSpec.ofChange fnExactSyncAllSpec)

/-- ITS FALSE NEIGHBOUR: 'it returns false'. Refute it at one input. -/
def fnExactSyncAllWrong : ChangeSpec := { name := "fnExactSyncAll", fn := fun _ => fun
  | [d1, d2, d3] => { results := [.lit (.bool false)], args := [d1, d2, d3] }
  | _ => none }
def FnExactSyncAllWrongFalsely : Prop := fnExactSyncAllRow.holds Tryz.pinned (OpenSpec.ofChange fnExactSyncAllWrong)

/-- 'laws.FnSynced': WHATEVER THE INPUT: true; the input reads as it did. -/
def fnSyncedSpec : ChangeSpec := { name := "fnSynced", fn := fun _ => fun
  | [d] => { results := [.lit (.bool true)], args := [d] }
  | _ => none }
def fnSyncedRow : OpenClaim := { program := "ytmgfklmhelabcaagreat", sum := "360b27735706e33722ebbe1a0e37c5f28834826e64cd9112b8801d764f574955", func := "loop.example/g00594/laws.FnSynced", spec := "fnSynced", inPlace := ["slices.overlaps[loop.example/g00594/impl.Revoked]"], unfollowed := true, recurses := true, apart := false }
def FnSyncedSaid : Prop := fnSyncedRow.holds Tryz.pinned (OpenSpec.ofChange fnSyncedSpec)

/-- ITS FALSE NEIGHBOUR: 'it returns false'. Refute it at one input. -/
def fnSyncedWrong : ChangeSpec := { name := "fnSynced", fn := fun _ => fun
  | [d] => { results := [.lit (.bool false)], args := [d] }
  | _ => none }
def FnSyncedWrongFalsely : Prop := fnSyncedRow.holds Tryz.pinned (OpenSpec.ofChange fnSyncedWrong)

/-- 'laws.FnCenters': WHATEVER THE INPUT: true; the input reads as it did. -/
def fnCentersSpec : ChangeSpec := { name := "fnCenters", fn := fun _ => fun
  | [d] => { results := [.lit (.bool true)], args := [d] }
  | _ => none }
def fnCentersRow : OpenClaim := { program := "ytmgfklmhelabcaagreat", sum := "360b27735706e33722ebbe1a0e37c5f28834826e64cd9112b8801d764f574955", func := "loop.example/g00594/laws.FnCenters", spec := "fnCenters", inPlace := ["slices.overlaps[loop.example/g00594/impl.Fact]", "slices.overlaps[loop.example/g00594/impl.Revoked]"], unfollowed := true, recurses := true, apart := false }
def FnCentersSaid : Prop := fnCentersRow.holds Tryz.pinned (OpenSpec.ofChange fnCentersSpec)

/-- ITS FALSE NEIGHBOUR: 'it returns false'. Refute it at one input. -/
def fnCentersWrong : ChangeSpec := { name := "fnCenters", fn := fun _ => fun
  | [d] => { results := [.lit (.bool false)], args := [d] }
  | _ => none }
def FnCentersWrongFalsely : Prop := fnCentersRow.holds Tryz.pinned (OpenSpec.ofChange fnCentersWrong)

/- THE SECOND FORM. 'bulk': how many values and letters a reading holds, each counted each time it is reached (what is shared counts as often as it is met; a slice's spare places count too). A statement '..UptoSaid' is the law's where the arguments, and the package variables that the reading takes, are together of bulk at most 1048576: NARROWER than '..Said'. Prove '..Said' where nothing that the law and all that it calls make is longer than what came in: it says more and counts as full. Else prove '..UptoSaid'. A law counts once. -/
mutual
def uptoBulk {H : Type} : DataW H → Nat
  | .lit (.string bytes) => bytes.length + 1
  | .lit _ => 1
  | .nil => 1
  | .ptr d => uptoBulk d + 1
  | .slice elems spare => uptoBulkAll elems + uptoBulkAll spare + 1
  | .agg parts => uptoBulkAll parts + 1
  | .iface _ d => uptoBulk d + 1
  | .map entries => uptoBulkEntries entries + 1
  | .held _ => 1
def uptoBulkAll {H : Type} : List (DataW H) → Nat
  | [] => 0
  | d :: r => uptoBulk d + uptoBulkAll r
def uptoBulkEntries {H : Type} : List (Lit × DataW H) → Nat
  | [] => 0
  | x :: r => uptoBulkEntry x + uptoBulkEntries r
def uptoBulkEntry {H : Type} : Lit × DataW H → Nat
  | (.string bytes, d) => bytes.length + uptoBulk d + 1
  | (_, d) => uptoBulk d + 1
 end
def uptoSmall : (H : Type) → List (DataW H) → Bool := fun _ ds => decide (uptoBulkAll ds ≤ 1048576)
def OpenSpec.upto (s : _root_.Go.ChangeSpec) : _root_.Go.OpenSpec := { _root_.Go.OpenSpec.ofChange s with cond := some uptoSmall }

/-- 'laws.FnExactDecisionUntil', WHERE WHAT IT READS IS OF BULK AT MOST 1048576: true; the input reads as it did. -/
def fnExactDecisionUntilUptoRow : OpenClaim := { program := "ytmgfklmhelabcaagreat", sum := "360b27735706e33722ebbe1a0e37c5f28834826e64cd9112b8801d764f574955", func := "loop.example/g00594/laws.FnExactDecisionUntil", spec := "fnExactDecisionUntil", unfollowed := true, recurses := true, loops := true, apart := false, narrowed := true }
def FnExactDecisionUntilUptoSaid : Prop := fnExactDecisionUntilUptoRow.holds Tryz.pinned (OpenSpec.upto fnExactDecisionUntilSpec)

/-- 'laws.FnExactSaveDecision', WHERE WHAT IT READS IS OF BULK AT MOST 1048576: true; the input reads as it did. -/
def fnExactSaveDecisionUptoRow : OpenClaim := { program := "ytmgfklmhelabcaagreat", sum := "360b27735706e33722ebbe1a0e37c5f28834826e64cd9112b8801d764f574955", func := "loop.example/g00594/laws.FnExactSaveDecision", spec := "fnExactSaveDecision", unfollowed := true, recurses := true, loops := true, apart := false, narrowed := true }
def FnExactSaveDecisionUptoSaid : Prop := fnExactSaveDecisionUptoRow.holds Tryz.pinned (OpenSpec.upto fnExactSaveDecisionSpec)

/-- 'laws.FnSavedAnswers', WHERE WHAT IT READS IS OF BULK AT MOST 1048576: true; the input reads as it did. -/
def fnSavedAnswersUptoRow : OpenClaim := { program := "ytmgfklmhelabcaagreat", sum := "360b27735706e33722ebbe1a0e37c5f28834826e64cd9112b8801d764f574955", func := "loop.example/g00594/laws.FnSavedAnswers", spec := "fnSavedAnswers", unfollowed := true, recurses := true, apart := false, narrowed := true }
def FnSavedAnswersUptoSaid : Prop := fnSavedAnswersUptoRow.holds Tryz.pinned (OpenSpec.upto fnSavedAnswersSpec)

/-- 'laws.FnExactCenterPublish', WHERE WHAT IT READS IS OF BULK AT MOST 1048576: true; the input reads as it did. -/
def fnExactCenterPublishUptoRow : OpenClaim := { program := "ytmgfklmhelabcaagreat", sum := "360b27735706e33722ebbe1a0e37c5f28834826e64cd9112b8801d764f574955", func := "loop.example/g00594/laws.FnExactCenterPublish", spec := "fnExactCenterPublish", unfollowed := true, recurses := true, loops := true, apart := false, narrowed := true }
def FnExactCenterPublishUptoSaid : Prop := fnExactCenterPublishUptoRow.holds Tryz.pinned (OpenSpec.upto fnExactCenterPublishSpec)

/-- 'laws.FnExactIsPoint', WHERE WHAT IT READS IS OF BULK AT MOST 1048576: true; the input reads as it did. -/
def fnExactIsPointUptoRow : OpenClaim := { program := "ytmgfklmhelabcaagreat", sum := "360b27735706e33722ebbe1a0e37c5f28834826e64cd9112b8801d764f574955", func := "loop.example/g00594/laws.FnExactIsPoint", spec := "fnExactIsPoint", unfollowed := true, recurses := true, loops := true, apart := false, narrowed := true }
def FnExactIsPointUptoSaid : Prop := fnExactIsPointUptoRow.holds Tryz.pinned (OpenSpec.upto fnExactIsPointSpec)

/-- 'laws.FnExactAskPoint', WHERE WHAT IT READS IS OF BULK AT MOST 1048576: true; the input reads as it did. -/
def fnExactAskPointUptoRow : OpenClaim := { program := "ytmgfklmhelabcaagreat", sum := "360b27735706e33722ebbe1a0e37c5f28834826e64cd9112b8801d764f574955", func := "loop.example/g00594/laws.FnExactAskPoint", spec := "fnExactAskPoint", unfollowed := true, recurses := true, loops := true, apart := false, narrowed := true }
def FnExactAskPointUptoSaid : Prop := fnExactAskPointUptoRow.holds Tryz.pinned (OpenSpec.upto fnExactAskPointSpec)

/-- 'laws.FnAsked', WHERE WHAT IT READS IS OF BULK AT MOST 1048576: true; the input reads as it did. -/
def fnAskedUptoRow : OpenClaim := { program := "ytmgfklmhelabcaagreat", sum := "360b27735706e33722ebbe1a0e37c5f28834826e64cd9112b8801d764f574955", func := "loop.example/g00594/laws.FnAsked", spec := "fnAsked", unfollowed := true, recurses := true, apart := false, narrowed := true }
def FnAskedUptoSaid : Prop := fnAskedUptoRow.holds Tryz.pinned (OpenSpec.upto fnAskedSpec)

/-- 'laws.FnExactSyncPoint', WHERE WHAT IT READS IS OF BULK AT MOST 1048576: true; the input reads as it did. -/
def fnExactSyncPointUptoRow : OpenClaim := { program := "ytmgfklmhelabcaagreat", sum := "360b27735706e33722ebbe1a0e37c5f28834826e64cd9112b8801d764f574955", func := "loop.example/g00594/laws.FnExactSyncPoint", spec := "fnExactSyncPoint", inPlace := ["slices.overlaps[loop.example/g00594/impl.Revoked]"], unfollowed := true, recurses := true, loops := true, apart := false, narrowed := true }
def FnExactSyncPointUptoSaid : Prop := fnExactSyncPointUptoRow.holds Tryz.pinned (OpenSpec.upto fnExactSyncPointSpec)

/-- 'laws.FnExactSyncAll', WHERE WHAT IT READS IS OF BULK AT MOST 1048576: true; the input reads as it did. -/
def fnExactSyncAllUptoRow : OpenClaim := { program := "ytmgfklmhelabcaagreat", sum := "360b27735706e33722ebbe1a0e37c5f28834826e64cd9112b8801d764f574955", func := "loop.example/g00594/laws.FnExactSyncAll", spec := "fnExactSyncAll", inPlace := ["slices.overlaps[loop.example/g00594/impl.Revoked]"], unfollowed := true, recurses := true, loops := true, apart := false, narrowed := true }
def FnExactSyncAllUptoSaid : Prop := fnExactSyncAllUptoRow.holds Tryz.pinned (OpenSpec.upto fnExactSyncAllSpec)

/-- 'laws.FnSynced', WHERE WHAT IT READS IS OF BULK AT MOST 1048576: true; the input reads as it did. -/
def fnSyncedUptoRow : OpenClaim := { program := "ytmgfklmhelabcaagreat", sum := "360b27735706e33722ebbe1a0e37c5f28834826e64cd9112b8801d764f574955", func := "loop.example/g00594/laws.FnSynced", spec := "fnSynced", inPlace := ["slices.overlaps[loop.example/g00594/impl.Revoked]"], unfollowed := true, recurses := true, apart := false, narrowed := true }
def FnSyncedUptoSaid : Prop := fnSyncedUptoRow.holds Tryz.pinned (OpenSpec.upto fnSyncedSpec)

/-- 'laws.FnCenters', WHERE WHAT IT READS IS OF BULK AT MOST 1048576: true; the input reads as it did. -/
def fnCentersUptoRow : OpenClaim := { program := "ytmgfklmhelabcaagreat", sum := "360b27735706e33722ebbe1a0e37c5f28834826e64cd9112b8801d764f574955", func := "loop.example/g00594/laws.FnCenters", spec := "fnCenters", inPlace := ["slices.overlaps[loop.example/g00594/impl.Fact]", "slices.overlaps[loop.example/g00594/impl.Revoked]"], unfollowed := true, recurses := true, apart := false, narrowed := true }
def FnCentersUptoSaid : Prop := fnCentersUptoRow.holds Tryz.pinned (OpenSpec.upto fnCentersSpec)

end Rows
end Go.Proofs.YtmgfklmhelabcaaGreat
