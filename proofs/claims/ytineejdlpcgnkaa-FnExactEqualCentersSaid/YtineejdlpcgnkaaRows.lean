/-
  NARROWER THAN 'FOR EVERY INPUT', by the rows' own cells (each row's printed sentence says how): FnExactIsCurrent: loops · FnExactOldestSync: loops · FnExactEqualPoints: loops · FnExactEqualCenters: loops · FnExactIsBehind: loops · FnExactExposure: loops.
  DERIVED. THE GIVEN ROWS OF THIS SEAT. 8 by the template 'for every input the law returns true; each argument reads behind the call as it read before'; 0 by the template 'total and deterministic' (their statements: YtineejdlpcgnkaaTotals.lean).
  GIVEN WITH THE SEED: the statements are not yours to turn. If you find one false, say at which input.
  Laid BY PROGRAM, IN A SANDBOX (cutbox-rows.mjs): the forced cells as the released guide's own fill.sh prints them over the translation 1834e0067d2f6ae3… (all of the seat's roots in one cut). By AI agents, Wed Nov 11 2026. No macro, syntax, notation, axiom, sorry.
-/
import Derived.Test.YtineejdlpcgnkaaChecked
import GoSem.Claim
import GoSem.ClaimJoined
import GoSem.ClaimMapViews
import Derived.JoinedTies
import Derived.KernelRfl
namespace Go.Proofs.Ytineejdlpcgnkaa
/- THE CELL 'sum', in the pinned program and in every row, IS THE sha256 OF THE DUMP (.gsa) THAT YtineejdlpcgnkaaProg.lean LOADS. Nothing in Lean hashes anything: it is a label: what it is worth is what the hold of that sum in a sandbox is worth. -/
noncomputable def Try.pinned : Pinned := { name := "ytineejdlpcgnkaa", sum := "1834e0067d2f6ae385f6acc07d25c0b94c587f8ff4f0224690c60ea10b555df7", checked := Try.checked }
namespace Rows
def none {H : Type} : Left H := { results := [], args := [] }

/-- 'laws.FnExactIsCurrent': WHATEVER THE INPUT: true; the input reads as it did. -/
def fnExactIsCurrentSpec : ChangeSpec := { name := "fnExactIsCurrent", fn := fun _ => fun
  | [d1, d2] => { results := [.lit (.bool true)], args := [d1, d2] }
  | _ => none }
def fnExactIsCurrentRow : OpenClaim := { program := "ytineejdlpcgnkaa", sum := "1834e0067d2f6ae385f6acc07d25c0b94c587f8ff4f0224690c60ea10b555df7", func := "loop.example/g00594/laws.FnExactIsCurrent", spec := "fnExactIsCurrent", recurses := true, loops := true, apart := false }
def FnExactIsCurrentSaid : Prop := fnExactIsCurrentRow.holds Try.pinned (OpenSpec.ofChange fnExactIsCurrentSpec)

/-- ITS FALSE NEIGHBOUR: 'it returns false'. Refute it at one input. -/
def fnExactIsCurrentWrong : ChangeSpec := { name := "fnExactIsCurrent", fn := fun _ => fun
  | [d1, d2] => { results := [.lit (.bool false)], args := [d1, d2] }
  | _ => none }
def FnExactIsCurrentWrongFalsely : Prop := fnExactIsCurrentRow.holds Try.pinned (OpenSpec.ofChange fnExactIsCurrentWrong)

/-- 'laws.FnExactOldestSync': WHATEVER THE INPUT: true; the input reads as it did. -/
def fnExactOldestSyncSpec : ChangeSpec := { name := "fnExactOldestSync", fn := fun _ => fun
  | [d] => { results := [.lit (.bool true)], args := [d] }
  | _ => none }
def fnExactOldestSyncRow : OpenClaim := { program := "ytineejdlpcgnkaa", sum := "1834e0067d2f6ae385f6acc07d25c0b94c587f8ff4f0224690c60ea10b555df7", func := "loop.example/g00594/laws.FnExactOldestSync", spec := "fnExactOldestSync", recurses := true, loops := true, apart := false }
def FnExactOldestSyncSaid : Prop := fnExactOldestSyncRow.holds Try.pinned (OpenSpec.ofChange fnExactOldestSyncSpec)

/-- ITS FALSE NEIGHBOUR: 'it returns false'. Refute it at one input. -/
def fnExactOldestSyncWrong : ChangeSpec := { name := "fnExactOldestSync", fn := fun _ => fun
  | [d] => { results := [.lit (.bool false)], args := [d] }
  | _ => none }
def FnExactOldestSyncWrongFalsely : Prop := fnExactOldestSyncRow.holds Try.pinned (OpenSpec.ofChange fnExactOldestSyncWrong)

/-- 'laws.FnExactNewPoint': WHATEVER THE INPUT: true; the input reads as it did. -/
def fnExactNewPointSpec : ChangeSpec := { name := "fnExactNewPoint", fn := fun _ => fun
  | [d] => { results := [.lit (.bool true)], args := [d] }
  | _ => none }
def fnExactNewPointRow : OpenClaim := { program := "ytineejdlpcgnkaa", sum := "1834e0067d2f6ae385f6acc07d25c0b94c587f8ff4f0224690c60ea10b555df7", func := "loop.example/g00594/laws.FnExactNewPoint", spec := "fnExactNewPoint", recurses := true, apart := false }
def FnExactNewPointSaid : Prop := fnExactNewPointRow.holds Try.pinned (OpenSpec.ofChange fnExactNewPointSpec)

/-- ITS FALSE NEIGHBOUR: 'it returns false'. Refute it at one input. -/
def fnExactNewPointWrong : ChangeSpec := { name := "fnExactNewPoint", fn := fun _ => fun
  | [d] => { results := [.lit (.bool false)], args := [d] }
  | _ => none }
def FnExactNewPointWrongFalsely : Prop := fnExactNewPointRow.holds Try.pinned (OpenSpec.ofChange fnExactNewPointWrong)

/-- 'laws.FnExactEqualPoints': WHATEVER THE INPUT: true; the input reads as it did. -/
def fnExactEqualPointsSpec : ChangeSpec := { name := "fnExactEqualPoints", fn := fun _ => fun
  | [d1, d2] => { results := [.lit (.bool true)], args := [d1, d2] }
  | _ => none }
def fnExactEqualPointsRow : OpenClaim := { program := "ytineejdlpcgnkaa", sum := "1834e0067d2f6ae385f6acc07d25c0b94c587f8ff4f0224690c60ea10b555df7", func := "loop.example/g00594/laws.FnExactEqualPoints", spec := "fnExactEqualPoints", unfollowed := true, recurses := true, loops := true, apart := false }
def FnExactEqualPointsSaid : Prop := fnExactEqualPointsRow.holds Try.pinned (OpenSpec.ofChange fnExactEqualPointsSpec)

/-- ITS FALSE NEIGHBOUR: 'it returns false'. Refute it at one input. -/
def fnExactEqualPointsWrong : ChangeSpec := { name := "fnExactEqualPoints", fn := fun _ => fun
  | [d1, d2] => { results := [.lit (.bool false)], args := [d1, d2] }
  | _ => none }
def FnExactEqualPointsWrongFalsely : Prop := fnExactEqualPointsRow.holds Try.pinned (OpenSpec.ofChange fnExactEqualPointsWrong)

/-- 'laws.FnExactNewCenter': WHATEVER THE INPUT: true; the input reads as it did. -/
def fnExactNewCenterSpec : ChangeSpec := { name := "fnExactNewCenter", fn := fun _ => fun
  | [] => { results := [.lit (.bool true)], args := [] }
  | _ => none }
def fnExactNewCenterRow : OpenClaim := { program := "ytineejdlpcgnkaa", sum := "1834e0067d2f6ae385f6acc07d25c0b94c587f8ff4f0224690c60ea10b555df7", func := "loop.example/g00594/laws.FnExactNewCenter", spec := "fnExactNewCenter", recurses := true, apart := false }
def FnExactNewCenterSaid : Prop := fnExactNewCenterRow.holds Try.pinned (OpenSpec.ofChange fnExactNewCenterSpec)

/-- ITS FALSE NEIGHBOUR: 'it returns false'. Refute it at one input. -/
def fnExactNewCenterWrong : ChangeSpec := { name := "fnExactNewCenter", fn := fun _ => fun
  | [] => { results := [.lit (.bool false)], args := [] }
  | _ => none }
def FnExactNewCenterWrongFalsely : Prop := fnExactNewCenterRow.holds Try.pinned (OpenSpec.ofChange fnExactNewCenterWrong)

/-- 'laws.FnExactEqualCenters': WHATEVER THE INPUT: true; the input reads as it did. -/
def fnExactEqualCentersSpec : ChangeSpec := { name := "fnExactEqualCenters", fn := fun _ => fun
  | [d1, d2] => { results := [.lit (.bool true)], args := [d1, d2] }
  | _ => none }
def fnExactEqualCentersRow : OpenClaim := { program := "ytineejdlpcgnkaa", sum := "1834e0067d2f6ae385f6acc07d25c0b94c587f8ff4f0224690c60ea10b555df7", func := "loop.example/g00594/laws.FnExactEqualCenters", spec := "fnExactEqualCenters", unfollowed := true, recurses := true, loops := true, apart := false }
def FnExactEqualCentersSaid : Prop := fnExactEqualCentersRow.holds Try.pinned (OpenSpec.ofChange fnExactEqualCentersSpec)

/-- ITS FALSE NEIGHBOUR: 'it returns false'. Refute it at one input. -/
def fnExactEqualCentersWrong : ChangeSpec := { name := "fnExactEqualCenters", fn := fun _ => fun
  | [d1, d2] => { results := [.lit (.bool false)], args := [d1, d2] }
  | _ => none }
def FnExactEqualCentersWrongFalsely : Prop := fnExactEqualCentersRow.holds Try.pinned (OpenSpec.ofChange fnExactEqualCentersWrong)

/-- 'laws.FnExactIsBehind': WHATEVER THE INPUT: true; the input reads as it did. -/
def fnExactIsBehindSpec : ChangeSpec := { name := "fnExactIsBehind", fn := fun _ => fun
  | [d1, d2, d3] => { results := [.lit (.bool true)], args := [d1, d2, d3] }
  | _ => none }
def fnExactIsBehindRow : OpenClaim := { program := "ytineejdlpcgnkaa", sum := "1834e0067d2f6ae385f6acc07d25c0b94c587f8ff4f0224690c60ea10b555df7", func := "loop.example/g00594/laws.FnExactIsBehind", spec := "fnExactIsBehind", unfollowed := true, recurses := true, loops := true, apart := false }
def FnExactIsBehindSaid : Prop := fnExactIsBehindRow.holds Try.pinned (OpenSpec.ofChange fnExactIsBehindSpec)

/-- ITS FALSE NEIGHBOUR: 'it returns false'. Refute it at one input. -/
def fnExactIsBehindWrong : ChangeSpec := { name := "fnExactIsBehind", fn := fun _ => fun
  | [d1, d2, d3] => { results := [.lit (.bool false)], args := [d1, d2, d3] }
  | _ => none }
def FnExactIsBehindWrongFalsely : Prop := fnExactIsBehindRow.holds Try.pinned (OpenSpec.ofChange fnExactIsBehindWrong)

/-- 'laws.FnExactExposure': WHATEVER THE INPUT: true; the input reads as it did. -/
def fnExactExposureSpec : ChangeSpec := { name := "fnExactExposure", fn := fun _ => fun
  | [d1, d2, d3, d4] => { results := [.lit (.bool true)], args := [d1, d2, d3, d4] }
  | _ => none }
def fnExactExposureRow : OpenClaim := { program := "ytineejdlpcgnkaa", sum := "1834e0067d2f6ae385f6acc07d25c0b94c587f8ff4f0224690c60ea10b555df7", func := "loop.example/g00594/laws.FnExactExposure", spec := "fnExactExposure", unfollowed := true, recurses := true, loops := true, apart := false }
def FnExactExposureSaid : Prop := fnExactExposureRow.holds Try.pinned (OpenSpec.ofChange fnExactExposureSpec)

/-- ITS FALSE NEIGHBOUR: 'it returns false'. Refute it at one input. -/
def fnExactExposureWrong : ChangeSpec := { name := "fnExactExposure", fn := fun _ => fun
  | [d1, d2, d3, d4] => { results := [.lit (.bool false)], args := [d1, d2, d3, d4] }
  | _ => none }
def FnExactExposureWrongFalsely : Prop := fnExactExposureRow.holds Try.pinned (OpenSpec.ofChange fnExactExposureWrong)

/- THE SECOND FORM. 'bulk': how many values and letters a reading holds, each counted each time it is reached (what is shared counts as often as it is met; a slice's spare places count too). A statement '..UptoSaid' is the law's where the arguments, and the package variables that the reading takes, are together of bulk at most 1048576: NARROWER than '..Said'. Prove '..Said' where nothing that the law and all that it calls make is longer than what came in: it says more and counts as full. Else prove '..UptoSaid'. A law counts once. -/
mutual
def uptoBulk {H : Type} : DataW H → Nat
  | .lit (.string bytes) => bytes.length + 1
  | .lit _ => 1
  | .nil => 1
  | .ptr d => uptoBulk d + 1
  | .slice elems spare => uptoBulkAll elems + uptoBulkAll spare + 1
  | .agg parts => uptoBulkAll parts + 1
  | .iface _ d => uptoBulk d + 1
  | .map entries => uptoBulkEntries entries + 1
  | .held _ => 1
def uptoBulkAll {H : Type} : List (DataW H) → Nat
  | [] => 0
  | d :: r => uptoBulk d + uptoBulkAll r
def uptoBulkEntries {H : Type} : List (Lit × DataW H) → Nat
  | [] => 0
  | x :: r => uptoBulkEntry x + uptoBulkEntries r
def uptoBulkEntry {H : Type} : Lit × DataW H → Nat
  | (.string bytes, d) => bytes.length + uptoBulk d + 1
  | (_, d) => uptoBulk d + 1
 end
def uptoSmall : (H : Type) → List (DataW H) → Bool := fun _ ds => decide (uptoBulkAll ds ≤ 1048576)
def OpenSpec.upto (s : _root_.Go.ChangeSpec) : _root_.Go.OpenSpec := { _root_.Go.OpenSpec.ofChange s with cond := some uptoSmall }

/-- 'laws.FnExactIsCurrent', WHERE WHAT IT READS IS OF BULK AT MOST 1048576: true; the input reads as it did. -/
def fnExactIsCurrentUptoRow : OpenClaim := { program := "ytineejdlpcgnkaa", sum := "1834e0067d2f6ae385f6acc07d25c0b94c587f8ff4f0224690c60ea10b555df7", func := "loop.example/g00594/laws.FnExactIsCurrent", spec := "fnExactIsCurrent", recurses := true, loops := true, apart := false, narrowed := true }
def FnExactIsCurrentUptoSaid : Prop := fnExactIsCurrentUptoRow.holds Try.pinned (OpenSpec.upto fnExactIsCurrentSpec)

/-- 'laws.FnExactOldestSync', WHERE WHAT IT READS IS OF BULK AT MOST 1048576: true; the input reads as it did. -/
def fnExactOldestSyncUptoRow : OpenClaim := { program := "ytineejdlpcgnkaa", sum := "1834e0067d2f6ae385f6acc07d25c0b94c587f8ff4f0224690c60ea10b555df7", func := "loop.example/g00594/laws.FnExactOldestSync", spec := "fnExactOldestSync", recurses := true, loops := true, apart := false, narrowed := true }
def FnExactOldestSyncUptoSaid : Prop := fnExactOldestSyncUptoRow.holds Try.pinned (OpenSpec.upto fnExactOldestSyncSpec)

/-- 'laws.FnExactNewPoint', WHERE WHAT IT READS IS OF BULK AT MOST 1048576: true; the input reads as it did. -/
def fnExactNewPointUptoRow : OpenClaim := { program := "ytineejdlpcgnkaa", sum := "1834e0067d2f6ae385f6acc07d25c0b94c587f8ff4f0224690c60ea10b555df7", func := "loop.example/g00594/laws.FnExactNewPoint", spec := "fnExactNewPoint", recurses := true, apart := false, narrowed := true }
def FnExactNewPointUptoSaid : Prop := fnExactNewPointUptoRow.holds Try.pinned (OpenSpec.upto fnExactNewPointSpec)

/-- 'laws.FnExactEqualPoints', WHERE WHAT IT READS IS OF BULK AT MOST 1048576: true; the input reads as it did. -/
def fnExactEqualPointsUptoRow : OpenClaim := { program := "ytineejdlpcgnkaa", sum := "1834e0067d2f6ae385f6acc07d25c0b94c587f8ff4f0224690c60ea10b555df7", func := "loop.example/g00594/laws.FnExactEqualPoints", spec := "fnExactEqualPoints", unfollowed := true, recurses := true, loops := true, apart := false, narrowed := true }
def FnExactEqualPointsUptoSaid : Prop := fnExactEqualPointsUptoRow.holds Try.pinned (OpenSpec.upto fnExactEqualPointsSpec)

/-- 'laws.FnExactNewCenter', WHERE WHAT IT READS IS OF BULK AT MOST 1048576: true; the input reads as it did. -/
def fnExactNewCenterUptoRow : OpenClaim := { program := "ytineejdlpcgnkaa", sum := "1834e0067d2f6ae385f6acc07d25c0b94c587f8ff4f0224690c60ea10b555df7", func := "loop.example/g00594/laws.FnExactNewCenter", spec := "fnExactNewCenter", recurses := true, apart := false, narrowed := true }
def FnExactNewCenterUptoSaid : Prop := fnExactNewCenterUptoRow.holds Try.pinned (OpenSpec.upto fnExactNewCenterSpec)

/-- 'laws.FnExactEqualCenters', WHERE WHAT IT READS IS OF BULK AT MOST 1048576: true; the input reads as it did. -/
def fnExactEqualCentersUptoRow : OpenClaim := { program := "ytineejdlpcgnkaa", sum := "1834e0067d2f6ae385f6acc07d25c0b94c587f8ff4f0224690c60ea10b555df7", func := "loop.example/g00594/laws.FnExactEqualCenters", spec := "fnExactEqualCenters", unfollowed := true, recurses := true, loops := true, apart := false, narrowed := true }
def FnExactEqualCentersUptoSaid : Prop := fnExactEqualCentersUptoRow.holds Try.pinned (OpenSpec.upto fnExactEqualCentersSpec)

/-- 'laws.FnExactIsBehind', WHERE WHAT IT READS IS OF BULK AT MOST 1048576: true; the input reads as it did. -/
def fnExactIsBehindUptoRow : OpenClaim := { program := "ytineejdlpcgnkaa", sum := "1834e0067d2f6ae385f6acc07d25c0b94c587f8ff4f0224690c60ea10b555df7", func := "loop.example/g00594/laws.FnExactIsBehind", spec := "fnExactIsBehind", unfollowed := true, recurses := true, loops := true, apart := false, narrowed := true }
def FnExactIsBehindUptoSaid : Prop := fnExactIsBehindUptoRow.holds Try.pinned (OpenSpec.upto fnExactIsBehindSpec)

/-- 'laws.FnExactExposure', WHERE WHAT IT READS IS OF BULK AT MOST 1048576: true; the input reads as it did. -/
def fnExactExposureUptoRow : OpenClaim := { program := "ytineejdlpcgnkaa", sum := "1834e0067d2f6ae385f6acc07d25c0b94c587f8ff4f0224690c60ea10b555df7", func := "loop.example/g00594/laws.FnExactExposure", spec := "fnExactExposure", unfollowed := true, recurses := true, loops := true, apart := false, narrowed := true }
def FnExactExposureUptoSaid : Prop := fnExactExposureUptoRow.holds Try.pinned (OpenSpec.upto fnExactExposureSpec)

end Rows
end Go.Proofs.Ytineejdlpcgnkaa
