/-
  NARROWER THAN 'FOR EVERY INPUT', by the rows' own cells (each row's printed sentence says how): FnExactMayStillUse: loops · FnExactRenewLease: loops.
  DERIVED. THE GIVEN ROWS OF THIS SEAT. 12 by the template 'for every input the law returns true; each argument reads behind the call as it read before'; 0 by the template 'total and deterministic' (their statements: YtplfbjbbnjlnkaaTotals.lean).
  GIVEN WITH THE SEED: the statements are not yours to turn. If you find one false, say at which input.
  Laid BY PROGRAM, IN A SANDBOX (cutbox-rows.mjs): the forced cells as the released guide's own fill.sh prints them over the translation 82c895253275da08… (all of the seat's roots in one cut). By AI agents, Wed Nov 11 2026. No macro, syntax, notation, axiom, sorry.
-/
import Derived.Test.YtplfbjbbnjlnkaaChecked
import GoSem.Claim
import GoSem.ClaimJoined
import GoSem.ClaimMapViews
import Derived.JoinedTies
import Derived.KernelRfl
namespace Go.Proofs.Ytplfbjbbnjlnkaa
/- THE CELL 'sum', in the pinned program and in every row, IS THE sha256 OF THE DUMP (.gsa) THAT YtplfbjbbnjlnkaaProg.lean LOADS. Nothing in Lean hashes anything: it is a label: what it is worth is what the hold of that sum in a sandbox is worth. -/
noncomputable def Try.pinned : Pinned := { name := "ytplfbjbbnjlnkaa", sum := "82c895253275da08b6d912c14e04b616bbd0c8e88aaf34589bb2f891128cb7e9", checked := Try.checked }
namespace Rows
def none {H : Type} : Left H := { results := [], args := [] }

/-- 'laws.FnExactMergeUses': WHATEVER THE INPUT: true; the input reads as it did. -/
def fnExactMergeUsesSpec : ChangeSpec := { name := "fnExactMergeUses", fn := fun _ => fun
  | [d1, d2, d3] => { results := [.lit (.bool true)], args := [d1, d2, d3] }
  | _ => none }
def fnExactMergeUsesRow : OpenClaim := { program := "ytplfbjbbnjlnkaa", sum := "82c895253275da08b6d912c14e04b616bbd0c8e88aaf34589bb2f891128cb7e9", func := "loop.example/g00594/laws.FnExactMergeUses", spec := "fnExactMergeUses", unfollowed := true, recurses := true, apart := false }
def FnExactMergeUsesSaid : Prop := fnExactMergeUsesRow.holds Try.pinned (OpenSpec.ofChange fnExactMergeUsesSpec)

/-- ITS FALSE NEIGHBOUR: 'it returns false'. Refute it at one input. -/
def fnExactMergeUsesWrong : ChangeSpec := { name := "fnExactMergeUses", fn := fun _ => fun
  | [d1, d2, d3] => { results := [.lit (.bool false)], args := [d1, d2, d3] }
  | _ => none }
def FnExactMergeUsesWrongFalsely : Prop := fnExactMergeUsesRow.holds Try.pinned (OpenSpec.ofChange fnExactMergeUsesWrong)

/-- 'laws.FnExactTakeBack': WHATEVER THE INPUT: true; the input reads as it did. -/
def fnExactTakeBackSpec : ChangeSpec := { name := "fnExactTakeBack", fn := fun _ => fun
  | [d1, d2] => { results := [.lit (.bool true)], args := [d1, d2] }
  | _ => none }
def fnExactTakeBackRow : OpenClaim := { program := "ytplfbjbbnjlnkaa", sum := "82c895253275da08b6d912c14e04b616bbd0c8e88aaf34589bb2f891128cb7e9", func := "loop.example/g00594/laws.FnExactTakeBack", spec := "fnExactTakeBack", apart := false }
def FnExactTakeBackSaid : Prop := fnExactTakeBackRow.holds Try.pinned (OpenSpec.ofChange fnExactTakeBackSpec)

/-- ITS FALSE NEIGHBOUR: 'it returns false'. Refute it at one input. -/
def fnExactTakeBackWrong : ChangeSpec := { name := "fnExactTakeBack", fn := fun _ => fun
  | [d1, d2] => { results := [.lit (.bool false)], args := [d1, d2] }
  | _ => none }
def FnExactTakeBackWrongFalsely : Prop := fnExactTakeBackRow.holds Try.pinned (OpenSpec.ofChange fnExactTakeBackWrong)

/-- 'laws.FnExactAddGrant': WHATEVER THE INPUT: true; the input reads as it did. -/
def fnExactAddGrantSpec : ChangeSpec := { name := "fnExactAddGrant", fn := fun _ => fun
  | [d1, d2] => { results := [.lit (.bool true)], args := [d1, d2] }
  | _ => none }
def fnExactAddGrantRow : OpenClaim := { program := "ytplfbjbbnjlnkaa", sum := "82c895253275da08b6d912c14e04b616bbd0c8e88aaf34589bb2f891128cb7e9", func := "loop.example/g00594/laws.FnExactAddGrant", spec := "fnExactAddGrant", apart := false }
def FnExactAddGrantSaid : Prop := fnExactAddGrantRow.holds Try.pinned (OpenSpec.ofChange fnExactAddGrantSpec)

/-- ITS FALSE NEIGHBOUR: 'it returns false'. Refute it at one input. -/
def fnExactAddGrantWrong : ChangeSpec := { name := "fnExactAddGrant", fn := fun _ => fun
  | [d1, d2] => { results := [.lit (.bool false)], args := [d1, d2] }
  | _ => none }
def FnExactAddGrantWrongFalsely : Prop := fnExactAddGrantRow.holds Try.pinned (OpenSpec.ofChange fnExactAddGrantWrong)

/-- 'laws.FnExactAreEmergencies': WHATEVER THE INPUT: true; the input reads as it did. -/
def fnExactAreEmergenciesSpec : ChangeSpec := { name := "fnExactAreEmergencies", fn := fun _ => fun
  | [d1, d2] => { results := [.lit (.bool true)], args := [d1, d2] }
  | _ => none }
def fnExactAreEmergenciesRow : OpenClaim := { program := "ytplfbjbbnjlnkaa", sum := "82c895253275da08b6d912c14e04b616bbd0c8e88aaf34589bb2f891128cb7e9", func := "loop.example/g00594/laws.FnExactAreEmergencies", spec := "fnExactAreEmergencies", unfollowed := true, recurses := true, apart := false }
def FnExactAreEmergenciesSaid : Prop := fnExactAreEmergenciesRow.holds Try.pinned (OpenSpec.ofChange fnExactAreEmergenciesSpec)

/-- ITS FALSE NEIGHBOUR: 'it returns false'. Refute it at one input. -/
def fnExactAreEmergenciesWrong : ChangeSpec := { name := "fnExactAreEmergencies", fn := fun _ => fun
  | [d1, d2] => { results := [.lit (.bool false)], args := [d1, d2] }
  | _ => none }
def FnExactAreEmergenciesWrongFalsely : Prop := fnExactAreEmergenciesRow.holds Try.pinned (OpenSpec.ofChange fnExactAreEmergenciesWrong)

/-- 'laws.FnExactMayActFor': WHATEVER THE INPUT: true; the input reads as it did. -/
def fnExactMayActForSpec : ChangeSpec := { name := "fnExactMayActFor", fn := fun _ => fun
  | [d1, d2, d3, d4, d5] => { results := [.lit (.bool true)], args := [d1, d2, d3, d4, d5] }
  | _ => none }
def fnExactMayActForRow : OpenClaim := { program := "ytplfbjbbnjlnkaa", sum := "82c895253275da08b6d912c14e04b616bbd0c8e88aaf34589bb2f891128cb7e9", func := "loop.example/g00594/laws.FnExactMayActFor", spec := "fnExactMayActFor", unfollowed := true, recurses := true, apart := false }
def FnExactMayActForSaid : Prop := fnExactMayActForRow.holds Try.pinned (OpenSpec.ofChange fnExactMayActForSpec)

/-- ITS FALSE NEIGHBOUR: 'it returns false'. Refute it at one input. -/
def fnExactMayActForWrong : ChangeSpec := { name := "fnExactMayActFor", fn := fun _ => fun
  | [d1, d2, d3, d4, d5] => { results := [.lit (.bool false)], args := [d1, d2, d3, d4, d5] }
  | _ => none }
def FnExactMayActForWrongFalsely : Prop := fnExactMayActForRow.holds Try.pinned (OpenSpec.ofChange fnExactMayActForWrong)

/-- 'laws.FnDelegated': WHATEVER THE INPUT: true; the input reads as it did. -/
def fnDelegatedSpec : ChangeSpec := { name := "fnDelegated", fn := fun _ => fun
  | [d] => { results := [.lit (.bool true)], args := [d] }
  | _ => none }
def fnDelegatedRow : OpenClaim := { program := "ytplfbjbbnjlnkaa", sum := "82c895253275da08b6d912c14e04b616bbd0c8e88aaf34589bb2f891128cb7e9", func := "loop.example/g00594/laws.FnDelegated", spec := "fnDelegated", unfollowed := true, recurses := true, apart := false }
def FnDelegatedSaid : Prop := fnDelegatedRow.holds Try.pinned (OpenSpec.ofChange fnDelegatedSpec)

/-- ITS FALSE NEIGHBOUR: 'it returns false'. Refute it at one input. -/
def fnDelegatedWrong : ChangeSpec := { name := "fnDelegated", fn := fun _ => fun
  | [d] => { results := [.lit (.bool false)], args := [d] }
  | _ => none }
def FnDelegatedWrongFalsely : Prop := fnDelegatedRow.holds Try.pinned (OpenSpec.ofChange fnDelegatedWrong)

/-- 'laws.FnExactMayStillUse': WHATEVER THE INPUT: true; the input reads as it did. -/
def fnExactMayStillUseSpec : ChangeSpec := { name := "fnExactMayStillUse", fn := fun _ => fun
  | [d1, d2, d3] => { results := [.lit (.bool true)], args := [d1, d2, d3] }
  | _ => none }
def fnExactMayStillUseRow : OpenClaim := { program := "ytplfbjbbnjlnkaa", sum := "82c895253275da08b6d912c14e04b616bbd0c8e88aaf34589bb2f891128cb7e9", func := "loop.example/g00594/laws.FnExactMayStillUse", spec := "fnExactMayStillUse", unfollowed := true, recurses := true, loops := true, apart := false }
def FnExactMayStillUseSaid : Prop := fnExactMayStillUseRow.holds Try.pinned (OpenSpec.ofChange fnExactMayStillUseSpec)

/-- ITS FALSE NEIGHBOUR: 'it returns false'. Refute it at one input. -/
def fnExactMayStillUseWrong : ChangeSpec := { name := "fnExactMayStillUse", fn := fun _ => fun
  | [d1, d2, d3] => { results := [.lit (.bool false)], args := [d1, d2, d3] }
  | _ => none }
def FnExactMayStillUseWrongFalsely : Prop := fnExactMayStillUseRow.holds Try.pinned (OpenSpec.ofChange fnExactMayStillUseWrong)

/-- 'laws.FnExactRenewLease': WHATEVER THE INPUT: true; the input reads as it did. -/
def fnExactRenewLeaseSpec : ChangeSpec := { name := "fnExactRenewLease", fn := fun _ => fun
  | [d1, d2, d3, d4] => { results := [.lit (.bool true)], args := [d1, d2, d3, d4] }
  | _ => none }
def fnExactRenewLeaseRow : OpenClaim := { program := "ytplfbjbbnjlnkaa", sum := "82c895253275da08b6d912c14e04b616bbd0c8e88aaf34589bb2f891128cb7e9", func := "loop.example/g00594/laws.FnExactRenewLease", spec := "fnExactRenewLease", recurses := true, loops := true, apart := false }
def FnExactRenewLeaseSaid : Prop := fnExactRenewLeaseRow.holds Try.pinned (OpenSpec.ofChange fnExactRenewLeaseSpec)

/-- ITS FALSE NEIGHBOUR: 'it returns false'. Refute it at one input. -/
def fnExactRenewLeaseWrong : ChangeSpec := { name := "fnExactRenewLease", fn := fun _ => fun
  | [d1, d2, d3, d4] => { results := [.lit (.bool false)], args := [d1, d2, d3, d4] }
  | _ => none }
def FnExactRenewLeaseWrongFalsely : Prop := fnExactRenewLeaseRow.holds Try.pinned (OpenSpec.ofChange fnExactRenewLeaseWrong)

/-- 'laws.FnExactDeclareEmergency': WHATEVER THE INPUT: true; the input reads as it did. -/
def fnExactDeclareEmergencySpec : ChangeSpec := { name := "fnExactDeclareEmergency", fn := fun _ => fun
  | [d1, d2, d3, d4] => { results := [.lit (.bool true)], args := [d1, d2, d3, d4] }
  | _ => none }
def fnExactDeclareEmergencyRow : OpenClaim := { program := "ytplfbjbbnjlnkaa", sum := "82c895253275da08b6d912c14e04b616bbd0c8e88aaf34589bb2f891128cb7e9", func := "loop.example/g00594/laws.FnExactDeclareEmergency", spec := "fnExactDeclareEmergency", unfollowed := true, recurses := true, apart := false }
def FnExactDeclareEmergencySaid : Prop := fnExactDeclareEmergencyRow.holds Try.pinned (OpenSpec.ofChange fnExactDeclareEmergencySpec)

/-- ITS FALSE NEIGHBOUR: 'it returns false'. Refute it at one input. -/
def fnExactDeclareEmergencyWrong : ChangeSpec := { name := "fnExactDeclareEmergency", fn := fun _ => fun
  | [d1, d2, d3, d4] => { results := [.lit (.bool false)], args := [d1, d2, d3, d4] }
  | _ => none }
def FnExactDeclareEmergencyWrongFalsely : Prop := fnExactDeclareEmergencyRow.holds Try.pinned (OpenSpec.ofChange fnExactDeclareEmergencyWrong)

/-- 'laws.FnLeases': WHATEVER THE INPUT: true; the input reads as it did. -/
def fnLeasesSpec : ChangeSpec := { name := "fnLeases", fn := fun _ => fun
  | [d] => { results := [.lit (.bool true)], args := [d] }
  | _ => none }
def fnLeasesRow : OpenClaim := { program := "ytplfbjbbnjlnkaa", sum := "82c895253275da08b6d912c14e04b616bbd0c8e88aaf34589bb2f891128cb7e9", func := "loop.example/g00594/laws.FnLeases", spec := "fnLeases", unfollowed := true, recurses := true, apart := false }
def FnLeasesSaid : Prop := fnLeasesRow.holds Try.pinned (OpenSpec.ofChange fnLeasesSpec)

/-- ITS FALSE NEIGHBOUR: 'it returns false'. Refute it at one input. -/
def fnLeasesWrong : ChangeSpec := { name := "fnLeases", fn := fun _ => fun
  | [d] => { results := [.lit (.bool false)], args := [d] }
  | _ => none }
def FnLeasesWrongFalsely : Prop := fnLeasesRow.holds Try.pinned (OpenSpec.ofChange fnLeasesWrong)

/-- 'laws.FnExactUsersOf': WHATEVER THE INPUT: true; the input reads as it did. -/
def fnExactUsersOfSpec : ChangeSpec := { name := "fnExactUsersOf", fn := fun _ => fun
  | [d1, d2, d3] => { results := [.lit (.bool true)], args := [d1, d2, d3] }
  | _ => none }
def fnExactUsersOfRow : OpenClaim := { program := "ytplfbjbbnjlnkaa", sum := "82c895253275da08b6d912c14e04b616bbd0c8e88aaf34589bb2f891128cb7e9", func := "loop.example/g00594/laws.FnExactUsersOf", spec := "fnExactUsersOf", recurses := true, apart := false }
def FnExactUsersOfSaid : Prop := fnExactUsersOfRow.holds Try.pinned (OpenSpec.ofChange fnExactUsersOfSpec)

/-- ITS FALSE NEIGHBOUR: 'it returns false'. Refute it at one input. -/
def fnExactUsersOfWrong : ChangeSpec := { name := "fnExactUsersOf", fn := fun _ => fun
  | [d1, d2, d3] => { results := [.lit (.bool false)], args := [d1, d2, d3] }
  | _ => none }
def FnExactUsersOfWrongFalsely : Prop := fnExactUsersOfRow.holds Try.pinned (OpenSpec.ofChange fnExactUsersOfWrong)

/-- 'laws.FnDuties': WHATEVER THE INPUT: true; the input reads as it did. -/
def fnDutiesSpec : ChangeSpec := { name := "fnDuties", fn := fun _ => fun
  | [d] => { results := [.lit (.bool true)], args := [d] }
  | _ => none }
def fnDutiesRow : OpenClaim := { program := "ytplfbjbbnjlnkaa", sum := "82c895253275da08b6d912c14e04b616bbd0c8e88aaf34589bb2f891128cb7e9", func := "loop.example/g00594/laws.FnDuties", spec := "fnDuties", unfollowed := true, recurses := true, apart := false }
def FnDutiesSaid : Prop := fnDutiesRow.holds Try.pinned (OpenSpec.ofChange fnDutiesSpec)

/-- ITS FALSE NEIGHBOUR: 'it returns false'. Refute it at one input. -/
def fnDutiesWrong : ChangeSpec := { name := "fnDuties", fn := fun _ => fun
  | [d] => { results := [.lit (.bool false)], args := [d] }
  | _ => none }
def FnDutiesWrongFalsely : Prop := fnDutiesRow.holds Try.pinned (OpenSpec.ofChange fnDutiesWrong)

/- THE SECOND FORM. 'bulk': how many values and letters a reading holds, each counted each time it is reached (what is shared counts as often as it is met; a slice's spare places count too). A statement '..UptoSaid' is the law's where the arguments, and the package variables that the reading takes, are together of bulk at most 1048576: NARROWER than '..Said'. Prove '..Said' where nothing that the law and all that it calls make is longer than what came in: it says more and counts as full. Else prove '..UptoSaid'. A law counts once. -/
mutual
def uptoBulk {H : Type} : DataW H → Nat
  | .lit (.string bytes) => bytes.length + 1
  | .lit _ => 1
  | .nil => 1
  | .ptr d => uptoBulk d + 1
  | .slice elems spare => uptoBulkAll elems + uptoBulkAll spare + 1
  | .agg parts => uptoBulkAll parts + 1
  | .iface _ d => uptoBulk d + 1
  | .map entries => uptoBulkEntries entries + 1
  | .held _ => 1
def uptoBulkAll {H : Type} : List (DataW H) → Nat
  | [] => 0
  | d :: r => uptoBulk d + uptoBulkAll r
def uptoBulkEntries {H : Type} : List (Lit × DataW H) → Nat
  | [] => 0
  | x :: r => uptoBulkEntry x + uptoBulkEntries r
def uptoBulkEntry {H : Type} : Lit × DataW H → Nat
  | (.string bytes, d) => bytes.length + uptoBulk d + 1
  | (_, d) => uptoBulk d + 1
 end
def uptoSmall : (H : Type) → List (DataW H) → Bool := fun _ ds => decide (uptoBulkAll ds ≤ 1048576)
def OpenSpec.upto (s : _root_.Go.ChangeSpec) : _root_.Go.OpenSpec := { _root_.Go.OpenSpec.ofChange s with cond := some uptoSmall }

/-- 'laws.FnExactMergeUses', WHERE WHAT IT READS IS OF BULK AT MOST 1048576: true; the input reads as it did. -/
def fnExactMergeUsesUptoRow : OpenClaim := { program := "ytplfbjbbnjlnkaa", sum := "82c895253275da08b6d912c14e04b616bbd0c8e88aaf34589bb2f891128cb7e9", func := "loop.example/g00594/laws.FnExactMergeUses", spec := "fnExactMergeUses", unfollowed := true, recurses := true, apart := false, narrowed := true }
def FnExactMergeUsesUptoSaid : Prop := fnExactMergeUsesUptoRow.holds Try.pinned (OpenSpec.upto fnExactMergeUsesSpec)

/-- 'laws.FnExactTakeBack', WHERE WHAT IT READS IS OF BULK AT MOST 1048576: true; the input reads as it did. -/
def fnExactTakeBackUptoRow : OpenClaim := { program := "ytplfbjbbnjlnkaa", sum := "82c895253275da08b6d912c14e04b616bbd0c8e88aaf34589bb2f891128cb7e9", func := "loop.example/g00594/laws.FnExactTakeBack", spec := "fnExactTakeBack", apart := false, narrowed := true }
def FnExactTakeBackUptoSaid : Prop := fnExactTakeBackUptoRow.holds Try.pinned (OpenSpec.upto fnExactTakeBackSpec)

/-- 'laws.FnExactAddGrant', WHERE WHAT IT READS IS OF BULK AT MOST 1048576: true; the input reads as it did. -/
def fnExactAddGrantUptoRow : OpenClaim := { program := "ytplfbjbbnjlnkaa", sum := "82c895253275da08b6d912c14e04b616bbd0c8e88aaf34589bb2f891128cb7e9", func := "loop.example/g00594/laws.FnExactAddGrant", spec := "fnExactAddGrant", apart := false, narrowed := true }
def FnExactAddGrantUptoSaid : Prop := fnExactAddGrantUptoRow.holds Try.pinned (OpenSpec.upto fnExactAddGrantSpec)

/-- 'laws.FnExactAreEmergencies', WHERE WHAT IT READS IS OF BULK AT MOST 1048576: true; the input reads as it did. -/
def fnExactAreEmergenciesUptoRow : OpenClaim := { program := "ytplfbjbbnjlnkaa", sum := "82c895253275da08b6d912c14e04b616bbd0c8e88aaf34589bb2f891128cb7e9", func := "loop.example/g00594/laws.FnExactAreEmergencies", spec := "fnExactAreEmergencies", unfollowed := true, recurses := true, apart := false, narrowed := true }
def FnExactAreEmergenciesUptoSaid : Prop := fnExactAreEmergenciesUptoRow.holds Try.pinned (OpenSpec.upto fnExactAreEmergenciesSpec)

/-- 'laws.FnExactMayActFor', WHERE WHAT IT READS IS OF BULK AT MOST 1048576: true; the input reads as it did. -/
def fnExactMayActForUptoRow : OpenClaim := { program := "ytplfbjbbnjlnkaa", sum := "82c895253275da08b6d912c14e04b616bbd0c8e88aaf34589bb2f891128cb7e9", func := "loop.example/g00594/laws.FnExactMayActFor", spec := "fnExactMayActFor", unfollowed := true, recurses := true, apart := false, narrowed := true }
def FnExactMayActForUptoSaid : Prop := fnExactMayActForUptoRow.holds Try.pinned (OpenSpec.upto fnExactMayActForSpec)

/-- 'laws.FnDelegated', WHERE WHAT IT READS IS OF BULK AT MOST 1048576: true; the input reads as it did. -/
def fnDelegatedUptoRow : OpenClaim := { program := "ytplfbjbbnjlnkaa", sum := "82c895253275da08b6d912c14e04b616bbd0c8e88aaf34589bb2f891128cb7e9", func := "loop.example/g00594/laws.FnDelegated", spec := "fnDelegated", unfollowed := true, recurses := true, apart := false, narrowed := true }
def FnDelegatedUptoSaid : Prop := fnDelegatedUptoRow.holds Try.pinned (OpenSpec.upto fnDelegatedSpec)

/-- 'laws.FnExactMayStillUse', WHERE WHAT IT READS IS OF BULK AT MOST 1048576: true; the input reads as it did. -/
def fnExactMayStillUseUptoRow : OpenClaim := { program := "ytplfbjbbnjlnkaa", sum := "82c895253275da08b6d912c14e04b616bbd0c8e88aaf34589bb2f891128cb7e9", func := "loop.example/g00594/laws.FnExactMayStillUse", spec := "fnExactMayStillUse", unfollowed := true, recurses := true, loops := true, apart := false, narrowed := true }
def FnExactMayStillUseUptoSaid : Prop := fnExactMayStillUseUptoRow.holds Try.pinned (OpenSpec.upto fnExactMayStillUseSpec)

/-- 'laws.FnExactRenewLease', WHERE WHAT IT READS IS OF BULK AT MOST 1048576: true; the input reads as it did. -/
def fnExactRenewLeaseUptoRow : OpenClaim := { program := "ytplfbjbbnjlnkaa", sum := "82c895253275da08b6d912c14e04b616bbd0c8e88aaf34589bb2f891128cb7e9", func := "loop.example/g00594/laws.FnExactRenewLease", spec := "fnExactRenewLease", recurses := true, loops := true, apart := false, narrowed := true }
def FnExactRenewLeaseUptoSaid : Prop := fnExactRenewLeaseUptoRow.holds Try.pinned (OpenSpec.upto fnExactRenewLeaseSpec)

/-- 'laws.FnExactDeclareEmergency', WHERE WHAT IT READS IS OF BULK AT MOST 1048576: true; the input reads as it did. -/
def fnExactDeclareEmergencyUptoRow : OpenClaim := { program := "ytplfbjbbnjlnkaa", sum := "82c895253275da08b6d912c14e04b616bbd0c8e88aaf34589bb2f891128cb7e9", func := "loop.example/g00594/laws.FnExactDeclareEmergency", spec := "fnExactDeclareEmergency", unfollowed := true, recurses := true, apart := false, narrowed := true }
def FnExactDeclareEmergencyUptoSaid : Prop := fnExactDeclareEmergencyUptoRow.holds Try.pinned (OpenSpec.upto fnExactDeclareEmergencySpec)

/-- 'laws.FnLeases', WHERE WHAT IT READS IS OF BULK AT MOST 1048576: true; the input reads as it did. -/
def fnLeasesUptoRow : OpenClaim := { program := "ytplfbjbbnjlnkaa", sum := "82c895253275da08b6d912c14e04b616bbd0c8e88aaf34589bb2f891128cb7e9", func := "loop.example/g00594/laws.FnLeases", spec := "fnLeases", unfollowed := true, recurses := true, apart := false, narrowed := true }
def FnLeasesUptoSaid : Prop := fnLeasesUptoRow.holds Try.pinned (OpenSpec.upto fnLeasesSpec)

/-- 'laws.FnExactUsersOf', WHERE WHAT IT READS IS OF BULK AT MOST 1048576: true; the input reads as it did. -/
def fnExactUsersOfUptoRow : OpenClaim := { program := "ytplfbjbbnjlnkaa", sum := "82c895253275da08b6d912c14e04b616bbd0c8e88aaf34589bb2f891128cb7e9", func := "loop.example/g00594/laws.FnExactUsersOf", spec := "fnExactUsersOf", recurses := true, apart := false, narrowed := true }
def FnExactUsersOfUptoSaid : Prop := fnExactUsersOfUptoRow.holds Try.pinned (OpenSpec.upto fnExactUsersOfSpec)

/-- 'laws.FnDuties', WHERE WHAT IT READS IS OF BULK AT MOST 1048576: true; the input reads as it did. -/
def fnDutiesUptoRow : OpenClaim := { program := "ytplfbjbbnjlnkaa", sum := "82c895253275da08b6d912c14e04b616bbd0c8e88aaf34589bb2f891128cb7e9", func := "loop.example/g00594/laws.FnDuties", spec := "fnDuties", unfollowed := true, recurses := true, apart := false, narrowed := true }
def FnDutiesUptoSaid : Prop := fnDutiesUptoRow.holds Try.pinned (OpenSpec.upto fnDutiesSpec)

end Rows
end Go.Proofs.Ytplfbjbbnjlnkaa
