/- The statement of FnAsked: for every input the law returns true, and each argument reads afterwards as it read before. No condition. -/
import Derived.Test.YtmodglnbidedhaaGreatRows
import Derived.Test.YtmodglnbidedhaaGreatQFnAskedx2
import Derived.Test.YtmodglnbidedhaaGreatPureFnAsked
import Derived.Test.YtmodglnbidedhaaGreatO
import Derived.WalkKit
import Derived.ProofKit
import Derived.OpenShut
import Derived.ShutString
import Derived.ChangeOld
import Derived.Below
import Derived.SizedLaws
namespace Go.Proofs.YtmodglnbidedhaaGreat.fnAsked
open Go.ChangeShapes Go.WideShapes Go.ChangeAt Go.RowKit Go.Proofs.YtmodglnbidedhaaGreat.QFnAsked Go.Proofs.YtmodglnbidedhaaGreatO Go.Proofs.YtmodglnbidedhaaGreatV
set_option linter.unusedVariables false
theorem own : ownKnob Tryz.prog.godebug = none := by kernel_rfl
theorem laidOut : laidOutB Tryz.prog = true := by kernel_rfl
set_option maxRecDepth 100000 in
theorem lifted (os : Os) (started : os.Started) (H : Type) (enc : TypeId × Value → H) :
    ReturnsInHanded {} Tryz.checked os 3 .any (Rows.fnAskedSpec.pre6 enc Tryz.prog Tryz.f3 Rows.fnAskedRow.domain false) (Rows.fnAskedSpec.post enc Tryz.prog Tryz.f3 false true false false) := by
  refine returnsInHanded_of_change_sized (C := Tryz.checked) own started (by kernel_rfl) Tryz.func3
    (ChangeSpec.witness6 (enc := enc) (C := Tryz.checked) false ⟨#[], #[.slice none 0 0], []⟩ 8 (by kernel_rfl) (by kernel_rfl) (by kernel_rfl) (by kernel_rfl)) ?_
  intro W base args ds gs before hval0 hW hcnd hsz0 _
  have hval : ∀ (j : Nat) t v, Tryz.f3.params[j]? = some t → args[j]? = some v → Value.okWide Tryz.prog W .any base t v := hval0
  have hW' := hW
  obtain ⟨p, q, hA0, hV, rfl, hfz, hnd⟩ := hW
  have hA : DataW.TrodAll enc Tryz.prog W 0 (fun _ => true) true Tryz.f3.params.toList args.toList ds p := hA0
  rw [Tryz.params3] at hA hval
  obtain ⟨v0, vs0, d0, ds0, p0, q0, hargs, rfl, rfl, h0, r0⟩ := trodAll_cons hA
  obtain ⟨rfl, rfl, rfl⟩ := trodAll_nil r0
  obtain rfl : args = #[v0] := by cases args; simp_all
  obtain ⟨rfl, rfl⟩ := trodVars_none hV
  obtain ⟨a0, len0, cap0, rfl⟩ := okWide_slice Tryz.underlying22 (hval 0 22 v0 rfl rfl)
  have k0 := h0
  have lt0 : ∀ x ∈ p0, x.block < W.heap.size := by obtain ⟨m, hm⟩ := k0; exact DataW.trod_lt m _ _ _ hm
  obtain ⟨n0, hn0⟩ := h0
  obtain ⟨l0, ⟨A0, c0, e0, hc0, hr0⟩, gl0, G0⟩ := (opens_slice Tryz.underlying22 (by kernel_rfl) fun m _ => (opens_int Tryz.underlying5 m)) _ _ _ _ _ _ _ _ hn0
  obtain ⟨rfl, rfl, rfl⟩ : a0 = A0 ∧ len0 = l0.length ∧ cap0 = c0 := by simpa [Value.cells] using e0
  clear hA0 hval0 hsz0
  obtain ⟨k, h⟩ := Pure.FnAsked l0 gl0 G0
  refine (laws_FnAsked.calls k _ _ l0 true W hr0 hc0 h).mono fun e W' ⟨he, bel0⟩ => ?_
  have bel : Below W.heap.size W W' := bel0
  subst he
  exact ⟨_, rfl, _, _, _, [], _, [], hW', trodAll_mk1 (shut_bool Tryz.underlying4 _), (trodAll_cons_mk (Below.trod laidOut (by kernel_rfl) (of_decide_eq_true (by kernel_rfl)) k0 bel lt0) trodAll_mk0), rfl, bel.frame _, fun h => by cases h⟩
def signs : List Char := ['h', 'a', 'r', 'n', 'e', 's', 's', ' ', 'c', '9', '5', 'c', '9', 'b', '2', 'b', 'b', '4', 'e', '3', '1', '4', 'd', '2', '6', '3', 'a', '6', '3', 'f', '6', '3', '4', '7', '9', '0', 'd', '2', '4', '4', '3', '9', 'f', '5', 'a', '9', 'c', '9', 'd', '2', 'c', '8', '6', 'a', 'd', '9', 'b', 'c', '8', '7', 'a', 'b', 'e', 'c', 'e', 'f', 'd', '0', 'd', '1', '5', '4', ' ', 'c', 'u', 't', ' ', 'a', 't', ' ', 'l', 'o', 'o', 'p', '.', 'e', 'x', 'a', 'm', 'p', 'l', 'e', '/', 'g', '0', '0', '5', '9', '4', '/', 'l', 'a', 'w', 's', '.', 'F', 'n', 'A', 's', 'k', 'e', 'd']
set_option maxRecDepth 100000 in
theorem signs_toList : Tryz.prog.initOrder.toList = signs := by
  have h : Tryz.prog.initOrder = String.ofList signs := by kernel_rfl
  rw [h, String.toList_ofList]
set_option maxRecDepth 100000 in
theorem may : Tryz.prog.mayEnter = true := by unfold Program.mayEnter; rw [signs_toList]; kernel_rfl
set_option maxRecDepth 100000 in
theorem lifts : (Rows.fnAskedRow.lifted == Tryz.prog.liftsFinal) = true := by unfold Program.liftsFinal Program.headLifts; rw [signs_toList]; kernel_rfl
set_option maxRecDepth 100000 in
theorem make : (Tryz.prog.make == some Rows.fnAskedRow.make) = true := by unfold Program.make Program.headLifts; rw [signs_toList]; kernel_rfl
set_option maxRecDepth 100000 in
theorem joined : joinedFacts Tryz.pinned.checked.prog 3 Tryz.f3 Rows.fnAskedSpec Rows.fnAskedRow = true := by
  change joinedFacts Tryz.prog 3 Tryz.f3 Rows.fnAskedSpec Rows.fnAskedRow = true
  unfold joinedFacts
  rw [may, lifts, make]
  kernel_rfl
theorem over : Rows.fnAskedRow.holds Tryz.pinned (OpenSpec.ofChange Rows.fnAskedSpec) :=
  OpenClaim.holds_of_wide 3 Tryz.f3 rfl rfl rfl rfl rfl rfl rfl ⟨rfl, rfl, rfl, rfl, rfl⟩ rfl rfl rfl rfl rfl (by kernel_rfl) Tryz.func3 joined
    (of_decide_eq_true (by kernel_rfl)) (by unfold Func.isWrapper; first | (rw [if_pos (by decide +kernel)]; kernel_rfl) | (rw [if_neg (by decide +kernel)]; exact ⟨rfl, rfl⟩))
    (fun os started H enc _ => lifted os started H enc)
theorem proved : Rows.FnAskedSaid := over
#print axioms proved
end Go.Proofs.YtmodglnbidedhaaGreat.fnAsked
namespace Go.Proofs.YtmodglnbidedhaaGreat
/-- The row, under a short name, for the claim. -/
theorem fnAsked_holds : Rows.FnAskedSaid := fnAsked.proved
end Go.Proofs.YtmodglnbidedhaaGreat
