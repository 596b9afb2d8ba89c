/-
  NARROWER THAN 'FOR EVERY INPUT', by the rows' own cells (each row's printed sentence says how): FnExactIsCenter: loops · FnExactCenterIssue: loops · FnExactCenterRevoke: loops · FnExactCenterTake: loops.
  DERIVED. THE GIVEN ROWS OF THIS SEAT. 4 by the template 'for every input the law returns true; each argument reads behind the call as it read before'; 0 by the template 'total and deterministic' (their statements: YtineejdlpcgnkaaGreatTotals.lean).
  GIVEN WITH THE SEED: the statements are not yours to turn. If you find one false, say at which input.
  Laid BY PROGRAM, IN A SANDBOX (cutbox-rows.mjs): the forced cells as the released guide's own fill.sh prints them over the translation 70e0084e22a585c8… (all of the seat's roots in one cut). By AI agents, Wed Nov 11 2026. No macro, syntax, notation, axiom, sorry.
-/
import Derived.Test.YtineejdlpcgnkaaGreatChecked
import GoSem.Claim
import GoSem.ClaimJoined
import GoSem.ClaimMapViews
import Derived.JoinedTies
import Derived.KernelRfl
namespace Go.Proofs.YtineejdlpcgnkaaGreat
/- THE CELL 'sum', in the pinned program and in every row, IS THE sha256 OF THE DUMP (.gsa) THAT YtineejdlpcgnkaaGreatProg.lean LOADS. Nothing in Lean hashes anything: it is a label: what it is worth is what the hold of that sum in a sandbox is worth. -/
noncomputable def Tryz.pinned : Pinned := { name := "ytineejdlpcgnkaagreat", sum := "70e0084e22a585c8b08faa5ff792669148f962f37a1bd458f22dae7bb3a12ed6", checked := Tryz.checked }
namespace Rows
def none {H : Type} : Left H := { results := [], args := [] }

/-- 'laws.FnExactIsCenter': WHATEVER THE INPUT: true; the input reads as it did. -/
def fnExactIsCenterSpec : ChangeSpec := { name := "fnExactIsCenter", fn := fun _ => fun
  | [d] => { results := [.lit (.bool true)], args := [d] }
  | _ => none }
def fnExactIsCenterRow : OpenClaim := { program := "ytineejdlpcgnkaagreat", sum := "70e0084e22a585c8b08faa5ff792669148f962f37a1bd458f22dae7bb3a12ed6", func := "loop.example/g00594/laws.FnExactIsCenter", spec := "fnExactIsCenter", unfollowed := true, recurses := true, loops := true, apart := false }
def FnExactIsCenterSaid : Prop := fnExactIsCenterRow.holds Tryz.pinned (OpenSpec.ofChange fnExactIsCenterSpec)

/-- ITS FALSE NEIGHBOUR: 'it returns false'. Refute it at one input. -/
def fnExactIsCenterWrong : ChangeSpec := { name := "fnExactIsCenter", fn := fun _ => fun
  | [d] => { results := [.lit (.bool false)], args := [d] }
  | _ => none }
def FnExactIsCenterWrongFalsely : Prop := fnExactIsCenterRow.holds Tryz.pinned (OpenSpec.ofChange fnExactIsCenterWrong)

/-- 'laws.FnExactCenterIssue': WHATEVER THE INPUT: true; the input reads as it did. -/
def fnExactCenterIssueSpec : ChangeSpec := { name := "fnExactCenterIssue", fn := fun _ => fun
  | [d1, d2, d3, d4, d5] => { results := [.lit (.bool true)], args := [d1, d2, d3, d4, d5] }
  | _ => none }
def fnExactCenterIssueRow : OpenClaim := { program := "ytineejdlpcgnkaagreat", sum := "70e0084e22a585c8b08faa5ff792669148f962f37a1bd458f22dae7bb3a12ed6", func := "loop.example/g00594/laws.FnExactCenterIssue", spec := "fnExactCenterIssue", recurses := true, loops := true, apart := false }
def FnExactCenterIssueSaid : Prop := fnExactCenterIssueRow.holds Tryz.pinned (OpenSpec.ofChange fnExactCenterIssueSpec)

/-- ITS FALSE NEIGHBOUR: 'it returns false'. Refute it at one input. -/
def fnExactCenterIssueWrong : ChangeSpec := { name := "fnExactCenterIssue", fn := fun _ => fun
  | [d1, d2, d3, d4, d5] => { results := [.lit (.bool false)], args := [d1, d2, d3, d4, d5] }
  | _ => none }
def FnExactCenterIssueWrongFalsely : Prop := fnExactCenterIssueRow.holds Tryz.pinned (OpenSpec.ofChange fnExactCenterIssueWrong)

/-- 'laws.FnExactCenterRevoke': WHATEVER THE INPUT: true; the input reads as it did. -/
def fnExactCenterRevokeSpec : ChangeSpec := { name := "fnExactCenterRevoke", fn := fun _ => fun
  | [d1, d2, d3] => { results := [.lit (.bool true)], args := [d1, d2, d3] }
  | _ => none }
def fnExactCenterRevokeRow : OpenClaim := { program := "ytineejdlpcgnkaagreat", sum := "70e0084e22a585c8b08faa5ff792669148f962f37a1bd458f22dae7bb3a12ed6", func := "loop.example/g00594/laws.FnExactCenterRevoke", spec := "fnExactCenterRevoke", inPlace := ["slices.overlaps[loop.example/g00594/impl.Revoked]"], recurses := true, loops := true, apart := false }
def FnExactCenterRevokeSaid : Prop := fnExactCenterRevokeRow.holds Tryz.pinned (OpenSpec.ofChange fnExactCenterRevokeSpec)

/-- ITS FALSE NEIGHBOUR: 'it returns false'. Refute it at one input. -/
def fnExactCenterRevokeWrong : ChangeSpec := { name := "fnExactCenterRevoke", fn := fun _ => fun
  | [d1, d2, d3] => { results := [.lit (.bool false)], args := [d1, d2, d3] }
  | _ => none }
def FnExactCenterRevokeWrongFalsely : Prop := fnExactCenterRevokeRow.holds Tryz.pinned (OpenSpec.ofChange fnExactCenterRevokeWrong)

/-- 'laws.FnExactCenterTake': WHATEVER THE INPUT: true; the input reads as it did. -/
def fnExactCenterTakeSpec : ChangeSpec := { name := "fnExactCenterTake", fn := fun _ => fun
  | [d1, d2] => { results := [.lit (.bool true)], args := [d1, d2] }
  | _ => none }
def fnExactCenterTakeRow : OpenClaim := { program := "ytineejdlpcgnkaagreat", sum := "70e0084e22a585c8b08faa5ff792669148f962f37a1bd458f22dae7bb3a12ed6", func := "loop.example/g00594/laws.FnExactCenterTake", spec := "fnExactCenterTake", inPlace := ["slices.overlaps[loop.example/g00594/impl.Fact]"], unfollowed := true, recurses := true, loops := true, apart := false }
def FnExactCenterTakeSaid : Prop := fnExactCenterTakeRow.holds Tryz.pinned (OpenSpec.ofChange fnExactCenterTakeSpec)

/-- ITS FALSE NEIGHBOUR: 'it returns false'. Refute it at one input. -/
def fnExactCenterTakeWrong : ChangeSpec := { name := "fnExactCenterTake", fn := fun _ => fun
  | [d1, d2] => { results := [.lit (.bool false)], args := [d1, d2] }
  | _ => none }
def FnExactCenterTakeWrongFalsely : Prop := fnExactCenterTakeRow.holds Tryz.pinned (OpenSpec.ofChange fnExactCenterTakeWrong)

/- THE SECOND FORM. 'bulk': how many values and letters a reading holds, each counted each time it is reached (what is shared counts as often as it is met; a slice's spare places count too). A statement '..UptoSaid' is the law's where the arguments, and the package variables that the reading takes, are together of bulk at most 1048576: NARROWER than '..Said'. Prove '..Said' where nothing that the law and all that it calls make is longer than what came in: it says more and counts as full. Else prove '..UptoSaid'. A law counts once. -/
mutual
def uptoBulk {H : Type} : DataW H → Nat
  | .lit (.string bytes) => bytes.length + 1
  | .lit _ => 1
  | .nil => 1
  | .ptr d => uptoBulk d + 1
  | .slice elems spare => uptoBulkAll elems + uptoBulkAll spare + 1
  | .agg parts => uptoBulkAll parts + 1
  | .iface _ d => uptoBulk d + 1
  | .map entries => uptoBulkEntries entries + 1
  | .held _ => 1
def uptoBulkAll {H : Type} : List (DataW H) → Nat
  | [] => 0
  | d :: r => uptoBulk d + uptoBulkAll r
def uptoBulkEntries {H : Type} : List (Lit × DataW H) → Nat
  | [] => 0
  | x :: r => uptoBulkEntry x + uptoBulkEntries r
def uptoBulkEntry {H : Type} : Lit × DataW H → Nat
  | (.string bytes, d) => bytes.length + uptoBulk d + 1
  | (_, d) => uptoBulk d + 1
 end
def uptoSmall : (H : Type) → List (DataW H) → Bool := fun _ ds => decide (uptoBulkAll ds ≤ 1048576)
def OpenSpec.upto (s : _root_.Go.ChangeSpec) : _root_.Go.OpenSpec := { _root_.Go.OpenSpec.ofChange s with cond := some uptoSmall }

/-- 'laws.FnExactIsCenter', WHERE WHAT IT READS IS OF BULK AT MOST 1048576: true; the input reads as it did. -/
def fnExactIsCenterUptoRow : OpenClaim := { program := "ytineejdlpcgnkaagreat", sum := "70e0084e22a585c8b08faa5ff792669148f962f37a1bd458f22dae7bb3a12ed6", func := "loop.example/g00594/laws.FnExactIsCenter", spec := "fnExactIsCenter", unfollowed := true, recurses := true, loops := true, apart := false, narrowed := true }
def FnExactIsCenterUptoSaid : Prop := fnExactIsCenterUptoRow.holds Tryz.pinned (OpenSpec.upto fnExactIsCenterSpec)

/-- 'laws.FnExactCenterIssue', WHERE WHAT IT READS IS OF BULK AT MOST 1048576: true; the input reads as it did. -/
def fnExactCenterIssueUptoRow : OpenClaim := { program := "ytineejdlpcgnkaagreat", sum := "70e0084e22a585c8b08faa5ff792669148f962f37a1bd458f22dae7bb3a12ed6", func := "loop.example/g00594/laws.FnExactCenterIssue", spec := "fnExactCenterIssue", recurses := true, loops := true, apart := false, narrowed := true }
def FnExactCenterIssueUptoSaid : Prop := fnExactCenterIssueUptoRow.holds Tryz.pinned (OpenSpec.upto fnExactCenterIssueSpec)

/-- 'laws.FnExactCenterRevoke', WHERE WHAT IT READS IS OF BULK AT MOST 1048576: true; the input reads as it did. -/
def fnExactCenterRevokeUptoRow : OpenClaim := { program := "ytineejdlpcgnkaagreat", sum := "70e0084e22a585c8b08faa5ff792669148f962f37a1bd458f22dae7bb3a12ed6", func := "loop.example/g00594/laws.FnExactCenterRevoke", spec := "fnExactCenterRevoke", inPlace := ["slices.overlaps[loop.example/g00594/impl.Revoked]"], recurses := true, loops := true, apart := false, narrowed := true }
def FnExactCenterRevokeUptoSaid : Prop := fnExactCenterRevokeUptoRow.holds Tryz.pinned (OpenSpec.upto fnExactCenterRevokeSpec)

/-- 'laws.FnExactCenterTake', WHERE WHAT IT READS IS OF BULK AT MOST 1048576: true; the input reads as it did. -/
def fnExactCenterTakeUptoRow : OpenClaim := { program := "ytineejdlpcgnkaagreat", sum := "70e0084e22a585c8b08faa5ff792669148f962f37a1bd458f22dae7bb3a12ed6", func := "loop.example/g00594/laws.FnExactCenterTake", spec := "fnExactCenterTake", inPlace := ["slices.overlaps[loop.example/g00594/impl.Fact]"], unfollowed := true, recurses := true, loops := true, apart := false, narrowed := true }
def FnExactCenterTakeUptoSaid : Prop := fnExactCenterTakeUptoRow.holds Tryz.pinned (OpenSpec.upto fnExactCenterTakeSpec)

end Rows
end Go.Proofs.YtineejdlpcgnkaaGreat
