/-
  No cell of these rows narrows 'for every input' (looked for: loops, veiled, ifaces, maps, wideKeys, modest, calm, conditions, laid).
  DERIVED. THE GIVEN ROWS OF THIS SEAT. 12 by the template 'for every input the law returns true; each argument reads behind the call as it read before'; 0 by the template 'total and deterministic' (their statements: YtoncnbcgpflhiaaTotals.lean).
  GIVEN WITH THE SEED: the statements are not yours to turn. If you find one false, say at which input.
  Laid BY PROGRAM, IN A SANDBOX (cutbox-rows.mjs): the forced cells as the released guide's own fill.sh prints them over the translation 1e98d0f23e4902ac… (all of the seat's roots in one cut). By AI agents, Wed Nov 11 2026. No macro, syntax, notation, axiom, sorry.
-/
import Derived.Test.YtoncnbcgpflhiaaChecked
import GoSem.Claim
import GoSem.ClaimJoined
import GoSem.ClaimMapViews
import Derived.JoinedTies
import Derived.KernelRfl
namespace Go.Proofs.Ytoncnbcgpflhiaa
/- THE CELL 'sum', in the pinned program and in every row, IS THE sha256 OF THE DUMP (.gsa) THAT YtoncnbcgpflhiaaProg.lean LOADS. Nothing in Lean hashes anything: it is a label: what it is worth is what the hold of that sum in a sandbox is worth. -/
noncomputable def Try.pinned : Pinned := { name := "ytoncnbcgpflhiaa", sum := "1e98d0f23e4902ac13c840018353a318a6e589b66b63a1a3d9264d255dd28380", checked := Try.checked }
namespace Rows
def none {H : Type} : Left H := { results := [], args := [] }

/-- 'laws.FnExactAreGrants': WHATEVER THE INPUT: true; the input reads as it did. -/
def fnExactAreGrantsSpec : ChangeSpec := { name := "fnExactAreGrants", fn := fun _ => fun
  | [d] => { results := [.lit (.bool true)], args := [d] }
  | _ => none }
def fnExactAreGrantsRow : OpenClaim := { program := "ytoncnbcgpflhiaa", sum := "1e98d0f23e4902ac13c840018353a318a6e589b66b63a1a3d9264d255dd28380", func := "loop.example/g00594/laws.FnExactAreGrants", spec := "fnExactAreGrants", apart := false }
def FnExactAreGrantsSaid : Prop := fnExactAreGrantsRow.holds Try.pinned (OpenSpec.ofChange fnExactAreGrantsSpec)

/-- ITS FALSE NEIGHBOUR: 'it returns false'. Refute it at one input. -/
def fnExactAreGrantsWrong : ChangeSpec := { name := "fnExactAreGrants", fn := fun _ => fun
  | [d] => { results := [.lit (.bool false)], args := [d] }
  | _ => none }
def FnExactAreGrantsWrongFalsely : Prop := fnExactAreGrantsRow.holds Try.pinned (OpenSpec.ofChange fnExactAreGrantsWrong)

/-- 'laws.FnExactEqualEmergencies': WHATEVER THE INPUT: true; the input reads as it did. -/
def fnExactEqualEmergenciesSpec : ChangeSpec := { name := "fnExactEqualEmergencies", fn := fun _ => fun
  | [d1, d2] => { results := [.lit (.bool true)], args := [d1, d2] }
  | _ => none }
def fnExactEqualEmergenciesRow : OpenClaim := { program := "ytoncnbcgpflhiaa", sum := "1e98d0f23e4902ac13c840018353a318a6e589b66b63a1a3d9264d255dd28380", func := "loop.example/g00594/laws.FnExactEqualEmergencies", spec := "fnExactEqualEmergencies", unfollowed := true, recurses := true, apart := false }
def FnExactEqualEmergenciesSaid : Prop := fnExactEqualEmergenciesRow.holds Try.pinned (OpenSpec.ofChange fnExactEqualEmergenciesSpec)

/-- ITS FALSE NEIGHBOUR: 'it returns false'. Refute it at one input. -/
def fnExactEqualEmergenciesWrong : ChangeSpec := { name := "fnExactEqualEmergencies", fn := fun _ => fun
  | [d1, d2] => { results := [.lit (.bool false)], args := [d1, d2] }
  | _ => none }
def FnExactEqualEmergenciesWrongFalsely : Prop := fnExactEqualEmergenciesRow.holds Try.pinned (OpenSpec.ofChange fnExactEqualEmergenciesWrong)

/-- 'laws.FnExactEqualGrants': WHATEVER THE INPUT: true; the input reads as it did. -/
def fnExactEqualGrantsSpec : ChangeSpec := { name := "fnExactEqualGrants", fn := fun _ => fun
  | [d1, d2] => { results := [.lit (.bool true)], args := [d1, d2] }
  | _ => none }
def fnExactEqualGrantsRow : OpenClaim := { program := "ytoncnbcgpflhiaa", sum := "1e98d0f23e4902ac13c840018353a318a6e589b66b63a1a3d9264d255dd28380", func := "loop.example/g00594/laws.FnExactEqualGrants", spec := "fnExactEqualGrants", unfollowed := true, recurses := true, apart := false }
def FnExactEqualGrantsSaid : Prop := fnExactEqualGrantsRow.holds Try.pinned (OpenSpec.ofChange fnExactEqualGrantsSpec)

/-- ITS FALSE NEIGHBOUR: 'it returns false'. Refute it at one input. -/
def fnExactEqualGrantsWrong : ChangeSpec := { name := "fnExactEqualGrants", fn := fun _ => fun
  | [d1, d2] => { results := [.lit (.bool false)], args := [d1, d2] }
  | _ => none }
def FnExactEqualGrantsWrongFalsely : Prop := fnExactEqualGrantsRow.holds Try.pinned (OpenSpec.ofChange fnExactEqualGrantsWrong)

/-- 'laws.FnExactIsSeparate': WHATEVER THE INPUT: true; the input reads as it did. -/
def fnExactIsSeparateSpec : ChangeSpec := { name := "fnExactIsSeparate", fn := fun _ => fun
  | [d1, d2] => { results := [.lit (.bool true)], args := [d1, d2] }
  | _ => none }
def fnExactIsSeparateRow : OpenClaim := { program := "ytoncnbcgpflhiaa", sum := "1e98d0f23e4902ac13c840018353a318a6e589b66b63a1a3d9264d255dd28380", func := "loop.example/g00594/laws.FnExactIsSeparate", spec := "fnExactIsSeparate", unfollowed := true, recurses := true, apart := false }
def FnExactIsSeparateSaid : Prop := fnExactIsSeparateRow.holds Try.pinned (OpenSpec.ofChange fnExactIsSeparateSpec)

/-- ITS FALSE NEIGHBOUR: 'it returns false'. Refute it at one input. -/
def fnExactIsSeparateWrong : ChangeSpec := { name := "fnExactIsSeparate", fn := fun _ => fun
  | [d1, d2] => { results := [.lit (.bool false)], args := [d1, d2] }
  | _ => none }
def FnExactIsSeparateWrongFalsely : Prop := fnExactIsSeparateRow.holds Try.pinned (OpenSpec.ofChange fnExactIsSeparateWrong)

/-- 'laws.FnExactDropSaved': WHATEVER THE INPUT: true; the input reads as it did. -/
def fnExactDropSavedSpec : ChangeSpec := { name := "fnExactDropSaved", fn := fun _ => fun
  | [d1, d2] => { results := [.lit (.bool true)], args := [d1, d2] }
  | _ => none }
def fnExactDropSavedRow : OpenClaim := { program := "ytoncnbcgpflhiaa", sum := "1e98d0f23e4902ac13c840018353a318a6e589b66b63a1a3d9264d255dd28380", func := "loop.example/g00594/laws.FnExactDropSaved", spec := "fnExactDropSaved", apart := false }
def FnExactDropSavedSaid : Prop := fnExactDropSavedRow.holds Try.pinned (OpenSpec.ofChange fnExactDropSavedSpec)

/-- ITS FALSE NEIGHBOUR: 'it returns false'. Refute it at one input. -/
def fnExactDropSavedWrong : ChangeSpec := { name := "fnExactDropSaved", fn := fun _ => fun
  | [d1, d2] => { results := [.lit (.bool false)], args := [d1, d2] }
  | _ => none }
def FnExactDropSavedWrongFalsely : Prop := fnExactDropSavedRow.holds Try.pinned (OpenSpec.ofChange fnExactDropSavedWrong)

/-- 'laws.FnExactMoveShare': WHATEVER THE INPUT: true; the input reads as it did. -/
def fnExactMoveShareSpec : ChangeSpec := { name := "fnExactMoveShare", fn := fun _ => fun
  | [d1, d2, d3, d4] => { results := [.lit (.bool true)], args := [d1, d2, d3, d4] }
  | _ => none }
def fnExactMoveShareRow : OpenClaim := { program := "ytoncnbcgpflhiaa", sum := "1e98d0f23e4902ac13c840018353a318a6e589b66b63a1a3d9264d255dd28380", func := "loop.example/g00594/laws.FnExactMoveShare", spec := "fnExactMoveShare", unfollowed := true, recurses := true, apart := false }
def FnExactMoveShareSaid : Prop := fnExactMoveShareRow.holds Try.pinned (OpenSpec.ofChange fnExactMoveShareSpec)

/-- ITS FALSE NEIGHBOUR: 'it returns false'. Refute it at one input. -/
def fnExactMoveShareWrong : ChangeSpec := { name := "fnExactMoveShare", fn := fun _ => fun
  | [d1, d2, d3, d4] => { results := [.lit (.bool false)], args := [d1, d2, d3, d4] }
  | _ => none }
def FnExactMoveShareWrongFalsely : Prop := fnExactMoveShareRow.holds Try.pinned (OpenSpec.ofChange fnExactMoveShareWrong)

/-- 'laws.FnExactPutSaved': WHATEVER THE INPUT: true; the input reads as it did. -/
def fnExactPutSavedSpec : ChangeSpec := { name := "fnExactPutSaved", fn := fun _ => fun
  | [d1, d2] => { results := [.lit (.bool true)], args := [d1, d2] }
  | _ => none }
def fnExactPutSavedRow : OpenClaim := { program := "ytoncnbcgpflhiaa", sum := "1e98d0f23e4902ac13c840018353a318a6e589b66b63a1a3d9264d255dd28380", func := "loop.example/g00594/laws.FnExactPutSaved", spec := "fnExactPutSaved", apart := false }
def FnExactPutSavedSaid : Prop := fnExactPutSavedRow.holds Try.pinned (OpenSpec.ofChange fnExactPutSavedSpec)

/-- ITS FALSE NEIGHBOUR: 'it returns false'. Refute it at one input. -/
def fnExactPutSavedWrong : ChangeSpec := { name := "fnExactPutSaved", fn := fun _ => fun
  | [d1, d2] => { results := [.lit (.bool false)], args := [d1, d2] }
  | _ => none }
def FnExactPutSavedWrongFalsely : Prop := fnExactPutSavedRow.holds Try.pinned (OpenSpec.ofChange fnExactPutSavedWrong)

/-- 'laws.FnQuotas': WHATEVER THE INPUT: true; the input reads as it did. -/
def fnQuotasSpec : ChangeSpec := { name := "fnQuotas", fn := fun _ => fun
  | [d] => { results := [.lit (.bool true)], args := [d] }
  | _ => none }
def fnQuotasRow : OpenClaim := { program := "ytoncnbcgpflhiaa", sum := "1e98d0f23e4902ac13c840018353a318a6e589b66b63a1a3d9264d255dd28380", func := "loop.example/g00594/laws.FnQuotas", spec := "fnQuotas", unfollowed := true, recurses := true, apart := false }
def FnQuotasSaid : Prop := fnQuotasRow.holds Try.pinned (OpenSpec.ofChange fnQuotasSpec)

/-- ITS FALSE NEIGHBOUR: 'it returns false'. Refute it at one input. -/
def fnQuotasWrong : ChangeSpec := { name := "fnQuotas", fn := fun _ => fun
  | [d] => { results := [.lit (.bool false)], args := [d] }
  | _ => none }
def FnQuotasWrongFalsely : Prop := fnQuotasRow.holds Try.pinned (OpenSpec.ofChange fnQuotasWrong)

/-- 'laws.FnExactRootOf': WHATEVER THE INPUT: true; the input reads as it did. -/
def fnExactRootOfSpec : ChangeSpec := { name := "fnExactRootOf", fn := fun _ => fun
  | [d1, d2] => { results := [.lit (.bool true)], args := [d1, d2] }
  | _ => none }
def fnExactRootOfRow : OpenClaim := { program := "ytoncnbcgpflhiaa", sum := "1e98d0f23e4902ac13c840018353a318a6e589b66b63a1a3d9264d255dd28380", func := "loop.example/g00594/laws.FnExactRootOf", spec := "fnExactRootOf", apart := false }
def FnExactRootOfSaid : Prop := fnExactRootOfRow.holds Try.pinned (OpenSpec.ofChange fnExactRootOfSpec)

/-- ITS FALSE NEIGHBOUR: 'it returns false'. Refute it at one input. -/
def fnExactRootOfWrong : ChangeSpec := { name := "fnExactRootOf", fn := fun _ => fun
  | [d1, d2] => { results := [.lit (.bool false)], args := [d1, d2] }
  | _ => none }
def FnExactRootOfWrongFalsely : Prop := fnExactRootOfRow.holds Try.pinned (OpenSpec.ofChange fnExactRootOfWrong)

/-- 'laws.FnExactChainOf': WHATEVER THE INPUT: true; the input reads as it did. -/
def fnExactChainOfSpec : ChangeSpec := { name := "fnExactChainOf", fn := fun _ => fun
  | [d1, d2] => { results := [.lit (.bool true)], args := [d1, d2] }
  | _ => none }
def fnExactChainOfRow : OpenClaim := { program := "ytoncnbcgpflhiaa", sum := "1e98d0f23e4902ac13c840018353a318a6e589b66b63a1a3d9264d255dd28380", func := "loop.example/g00594/laws.FnExactChainOf", spec := "fnExactChainOf", apart := false }
def FnExactChainOfSaid : Prop := fnExactChainOfRow.holds Try.pinned (OpenSpec.ofChange fnExactChainOfSpec)

/-- ITS FALSE NEIGHBOUR: 'it returns false'. Refute it at one input. -/
def fnExactChainOfWrong : ChangeSpec := { name := "fnExactChainOf", fn := fun _ => fun
  | [d1, d2] => { results := [.lit (.bool false)], args := [d1, d2] }
  | _ => none }
def FnExactChainOfWrongFalsely : Prop := fnExactChainOfRow.holds Try.pinned (OpenSpec.ofChange fnExactChainOfWrong)

/-- 'laws.FnExactIsGrantGood': WHATEVER THE INPUT: true; the input reads as it did. -/
def fnExactIsGrantGoodSpec : ChangeSpec := { name := "fnExactIsGrantGood", fn := fun _ => fun
  | [d1, d2, d3] => { results := [.lit (.bool true)], args := [d1, d2, d3] }
  | _ => none }
def fnExactIsGrantGoodRow : OpenClaim := { program := "ytoncnbcgpflhiaa", sum := "1e98d0f23e4902ac13c840018353a318a6e589b66b63a1a3d9264d255dd28380", func := "loop.example/g00594/laws.FnExactIsGrantGood", spec := "fnExactIsGrantGood", unfollowed := true, recurses := true, apart := false }
def FnExactIsGrantGoodSaid : Prop := fnExactIsGrantGoodRow.holds Try.pinned (OpenSpec.ofChange fnExactIsGrantGoodSpec)

/-- ITS FALSE NEIGHBOUR: 'it returns false'. Refute it at one input. -/
def fnExactIsGrantGoodWrong : ChangeSpec := { name := "fnExactIsGrantGood", fn := fun _ => fun
  | [d1, d2, d3] => { results := [.lit (.bool false)], args := [d1, d2, d3] }
  | _ => none }
def FnExactIsGrantGoodWrongFalsely : Prop := fnExactIsGrantGoodRow.holds Try.pinned (OpenSpec.ofChange fnExactIsGrantGoodWrong)

/-- 'laws.FnExactAddUse': WHATEVER THE INPUT: true; the input reads as it did. -/
def fnExactAddUseSpec : ChangeSpec := { name := "fnExactAddUse", fn := fun _ => fun
  | [d1, d2, d3] => { results := [.lit (.bool true)], args := [d1, d2, d3] }
  | _ => none }
def fnExactAddUseRow : OpenClaim := { program := "ytoncnbcgpflhiaa", sum := "1e98d0f23e4902ac13c840018353a318a6e589b66b63a1a3d9264d255dd28380", func := "loop.example/g00594/laws.FnExactAddUse", spec := "fnExactAddUse", unfollowed := true, recurses := true, apart := false }
def FnExactAddUseSaid : Prop := fnExactAddUseRow.holds Try.pinned (OpenSpec.ofChange fnExactAddUseSpec)

/-- ITS FALSE NEIGHBOUR: 'it returns false'. Refute it at one input. -/
def fnExactAddUseWrong : ChangeSpec := { name := "fnExactAddUse", fn := fun _ => fun
  | [d1, d2, d3] => { results := [.lit (.bool false)], args := [d1, d2, d3] }
  | _ => none }
def FnExactAddUseWrongFalsely : Prop := fnExactAddUseRow.holds Try.pinned (OpenSpec.ofChange fnExactAddUseWrong)

/- THE SECOND FORM. 'bulk': how many values and letters a reading holds, each counted each time it is reached (what is shared counts as often as it is met; a slice's spare places count too). A statement '..UptoSaid' is the law's where the arguments, and the package variables that the reading takes, are together of bulk at most 1048576: NARROWER than '..Said'. Prove '..Said' where nothing that the law and all that it calls make is longer than what came in: it says more and counts as full. Else prove '..UptoSaid'. A law counts once. -/
mutual
def uptoBulk {H : Type} : DataW H → Nat
  | .lit (.string bytes) => bytes.length + 1
  | .lit _ => 1
  | .nil => 1
  | .ptr d => uptoBulk d + 1
  | .slice elems spare => uptoBulkAll elems + uptoBulkAll spare + 1
  | .agg parts => uptoBulkAll parts + 1
  | .iface _ d => uptoBulk d + 1
  | .map entries => uptoBulkEntries entries + 1
  | .held _ => 1
def uptoBulkAll {H : Type} : List (DataW H) → Nat
  | [] => 0
  | d :: r => uptoBulk d + uptoBulkAll r
def uptoBulkEntries {H : Type} : List (Lit × DataW H) → Nat
  | [] => 0
  | x :: r => uptoBulkEntry x + uptoBulkEntries r
def uptoBulkEntry {H : Type} : Lit × DataW H → Nat
  | (.string bytes, d) => bytes.length + uptoBulk d + 1
  | (_, d) => uptoBulk d + 1
 end
def uptoSmall : (H : Type) → List (DataW H) → Bool := fun _ ds => decide (uptoBulkAll ds ≤ 1048576)
def OpenSpec.upto (s : _root_.Go.ChangeSpec) : _root_.Go.OpenSpec := { _root_.Go.OpenSpec.ofChange s with cond := some uptoSmall }

/-- 'laws.FnExactAreGrants', WHERE WHAT IT READS IS OF BULK AT MOST 1048576: true; the input reads as it did. -/
def fnExactAreGrantsUptoRow : OpenClaim := { program := "ytoncnbcgpflhiaa", sum := "1e98d0f23e4902ac13c840018353a318a6e589b66b63a1a3d9264d255dd28380", func := "loop.example/g00594/laws.FnExactAreGrants", spec := "fnExactAreGrants", apart := false, narrowed := true }
def FnExactAreGrantsUptoSaid : Prop := fnExactAreGrantsUptoRow.holds Try.pinned (OpenSpec.upto fnExactAreGrantsSpec)

/-- 'laws.FnExactEqualEmergencies', WHERE WHAT IT READS IS OF BULK AT MOST 1048576: true; the input reads as it did. -/
def fnExactEqualEmergenciesUptoRow : OpenClaim := { program := "ytoncnbcgpflhiaa", sum := "1e98d0f23e4902ac13c840018353a318a6e589b66b63a1a3d9264d255dd28380", func := "loop.example/g00594/laws.FnExactEqualEmergencies", spec := "fnExactEqualEmergencies", unfollowed := true, recurses := true, apart := false, narrowed := true }
def FnExactEqualEmergenciesUptoSaid : Prop := fnExactEqualEmergenciesUptoRow.holds Try.pinned (OpenSpec.upto fnExactEqualEmergenciesSpec)

/-- 'laws.FnExactEqualGrants', WHERE WHAT IT READS IS OF BULK AT MOST 1048576: true; the input reads as it did. -/
def fnExactEqualGrantsUptoRow : OpenClaim := { program := "ytoncnbcgpflhiaa", sum := "1e98d0f23e4902ac13c840018353a318a6e589b66b63a1a3d9264d255dd28380", func := "loop.example/g00594/laws.FnExactEqualGrants", spec := "fnExactEqualGrants", unfollowed := true, recurses := true, apart := false, narrowed := true }
def FnExactEqualGrantsUptoSaid : Prop := fnExactEqualGrantsUptoRow.holds Try.pinned (OpenSpec.upto fnExactEqualGrantsSpec)

/-- 'laws.FnExactIsSeparate', WHERE WHAT IT READS IS OF BULK AT MOST 1048576: true; the input reads as it did. -/
def fnExactIsSeparateUptoRow : OpenClaim := { program := "ytoncnbcgpflhiaa", sum := "1e98d0f23e4902ac13c840018353a318a6e589b66b63a1a3d9264d255dd28380", func := "loop.example/g00594/laws.FnExactIsSeparate", spec := "fnExactIsSeparate", unfollowed := true, recurses := true, apart := false, narrowed := true }
def FnExactIsSeparateUptoSaid : Prop := fnExactIsSeparateUptoRow.holds Try.pinned (OpenSpec.upto fnExactIsSeparateSpec)

/-- 'laws.FnExactDropSaved', WHERE WHAT IT READS IS OF BULK AT MOST 1048576: true; the input reads as it did. -/
def fnExactDropSavedUptoRow : OpenClaim := { program := "ytoncnbcgpflhiaa", sum := "1e98d0f23e4902ac13c840018353a318a6e589b66b63a1a3d9264d255dd28380", func := "loop.example/g00594/laws.FnExactDropSaved", spec := "fnExactDropSaved", apart := false, narrowed := true }
def FnExactDropSavedUptoSaid : Prop := fnExactDropSavedUptoRow.holds Try.pinned (OpenSpec.upto fnExactDropSavedSpec)

/-- 'laws.FnExactMoveShare', WHERE WHAT IT READS IS OF BULK AT MOST 1048576: true; the input reads as it did. -/
def fnExactMoveShareUptoRow : OpenClaim := { program := "ytoncnbcgpflhiaa", sum := "1e98d0f23e4902ac13c840018353a318a6e589b66b63a1a3d9264d255dd28380", func := "loop.example/g00594/laws.FnExactMoveShare", spec := "fnExactMoveShare", unfollowed := true, recurses := true, apart := false, narrowed := true }
def FnExactMoveShareUptoSaid : Prop := fnExactMoveShareUptoRow.holds Try.pinned (OpenSpec.upto fnExactMoveShareSpec)

/-- 'laws.FnExactPutSaved', WHERE WHAT IT READS IS OF BULK AT MOST 1048576: true; the input reads as it did. -/
def fnExactPutSavedUptoRow : OpenClaim := { program := "ytoncnbcgpflhiaa", sum := "1e98d0f23e4902ac13c840018353a318a6e589b66b63a1a3d9264d255dd28380", func := "loop.example/g00594/laws.FnExactPutSaved", spec := "fnExactPutSaved", apart := false, narrowed := true }
def FnExactPutSavedUptoSaid : Prop := fnExactPutSavedUptoRow.holds Try.pinned (OpenSpec.upto fnExactPutSavedSpec)

/-- 'laws.FnQuotas', WHERE WHAT IT READS IS OF BULK AT MOST 1048576: true; the input reads as it did. -/
def fnQuotasUptoRow : OpenClaim := { program := "ytoncnbcgpflhiaa", sum := "1e98d0f23e4902ac13c840018353a318a6e589b66b63a1a3d9264d255dd28380", func := "loop.example/g00594/laws.FnQuotas", spec := "fnQuotas", unfollowed := true, recurses := true, apart := false, narrowed := true }
def FnQuotasUptoSaid : Prop := fnQuotasUptoRow.holds Try.pinned (OpenSpec.upto fnQuotasSpec)

/-- 'laws.FnExactRootOf', WHERE WHAT IT READS IS OF BULK AT MOST 1048576: true; the input reads as it did. -/
def fnExactRootOfUptoRow : OpenClaim := { program := "ytoncnbcgpflhiaa", sum := "1e98d0f23e4902ac13c840018353a318a6e589b66b63a1a3d9264d255dd28380", func := "loop.example/g00594/laws.FnExactRootOf", spec := "fnExactRootOf", apart := false, narrowed := true }
def FnExactRootOfUptoSaid : Prop := fnExactRootOfUptoRow.holds Try.pinned (OpenSpec.upto fnExactRootOfSpec)

/-- 'laws.FnExactChainOf', WHERE WHAT IT READS IS OF BULK AT MOST 1048576: true; the input reads as it did. -/
def fnExactChainOfUptoRow : OpenClaim := { program := "ytoncnbcgpflhiaa", sum := "1e98d0f23e4902ac13c840018353a318a6e589b66b63a1a3d9264d255dd28380", func := "loop.example/g00594/laws.FnExactChainOf", spec := "fnExactChainOf", apart := false, narrowed := true }
def FnExactChainOfUptoSaid : Prop := fnExactChainOfUptoRow.holds Try.pinned (OpenSpec.upto fnExactChainOfSpec)

/-- 'laws.FnExactIsGrantGood', WHERE WHAT IT READS IS OF BULK AT MOST 1048576: true; the input reads as it did. -/
def fnExactIsGrantGoodUptoRow : OpenClaim := { program := "ytoncnbcgpflhiaa", sum := "1e98d0f23e4902ac13c840018353a318a6e589b66b63a1a3d9264d255dd28380", func := "loop.example/g00594/laws.FnExactIsGrantGood", spec := "fnExactIsGrantGood", unfollowed := true, recurses := true, apart := false, narrowed := true }
def FnExactIsGrantGoodUptoSaid : Prop := fnExactIsGrantGoodUptoRow.holds Try.pinned (OpenSpec.upto fnExactIsGrantGoodSpec)

/-- 'laws.FnExactAddUse', WHERE WHAT IT READS IS OF BULK AT MOST 1048576: true; the input reads as it did. -/
def fnExactAddUseUptoRow : OpenClaim := { program := "ytoncnbcgpflhiaa", sum := "1e98d0f23e4902ac13c840018353a318a6e589b66b63a1a3d9264d255dd28380", func := "loop.example/g00594/laws.FnExactAddUse", spec := "fnExactAddUse", unfollowed := true, recurses := true, apart := false, narrowed := true }
def FnExactAddUseUptoSaid : Prop := fnExactAddUseUptoRow.holds Try.pinned (OpenSpec.upto fnExactAddUseSpec)

end Rows
end Go.Proofs.Ytoncnbcgpflhiaa
