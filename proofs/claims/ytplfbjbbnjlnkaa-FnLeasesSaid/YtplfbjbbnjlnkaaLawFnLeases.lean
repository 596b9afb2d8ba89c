/- The statement of FnLeases: for every input the law returns true, and each argument reads afterwards as it read before. No condition. -/
import Derived.Test.YtplfbjbbnjlnkaaRows
import Derived.Test.YtplfbjbbnjlnkaaQFnLeasesx2
import Derived.Test.YtplfbjbbnjlnkaaPureFnLeases
import Derived.Test.YtplfbjbbnjlnkaaO
import Derived.WalkKit
import Derived.ProofKit
import Derived.OpenShut
import Derived.ShutString
import Derived.ChangeOld
import Derived.Below
import Derived.SizedLaws
namespace Go.Proofs.Ytplfbjbbnjlnkaa.fnLeases
open Go.ChangeShapes Go.WideShapes Go.ChangeAt Go.RowKit Go.Proofs.Ytplfbjbbnjlnkaa.QFnLeases Go.Proofs.YtplfbjbbnjlnkaaO
set_option linter.unusedVariables false
theorem own : ownKnob Try.prog.godebug = none := by kernel_rfl
theorem laidOut : laidOutB Try.prog = true := by kernel_rfl
set_option maxRecDepth 100000 in
theorem lifted (os : Os) (started : os.Started) (H : Type) (enc : TypeId × Value → H) :
    ReturnsInHanded {} Try.checked os 12 .any (Rows.fnLeasesSpec.pre6 enc Try.prog Try.f12 Rows.fnLeasesRow.domain false) (Rows.fnLeasesSpec.post enc Try.prog Try.f12 false true false false) := by
  refine returnsInHanded_of_change_sized (C := Try.checked) own started (by kernel_rfl) Try.func12
    (ChangeSpec.witness6 (enc := enc) (C := Try.checked) false ⟨#[], #[.slice none 0 0], []⟩ 8 (by kernel_rfl) (by kernel_rfl) (by kernel_rfl) (by kernel_rfl)) ?_
  intro W base args ds gs before hval0 hW hcnd hsz0 _
  have hval : ∀ (j : Nat) t v, Try.f12.params[j]? = some t → args[j]? = some v → Value.okWide Try.prog W .any base t v := hval0
  have hW' := hW
  obtain ⟨p, q, hA0, hV, rfl, hfz, hnd⟩ := hW
  have hA : DataW.TrodAll enc Try.prog W 0 (fun _ => true) true Try.f12.params.toList args.toList ds p := hA0
  rw [Try.params12] at hA hval
  obtain ⟨v0, vs0, d0, ds0, p0, q0, hargs, rfl, rfl, h0, r0⟩ := trodAll_cons hA
  obtain ⟨rfl, rfl, rfl⟩ := trodAll_nil r0
  obtain rfl : args = #[v0] := by cases args; simp_all
  obtain ⟨rfl, rfl⟩ := trodVars_none hV
  obtain ⟨a0, len0, cap0, rfl⟩ := okWide_slice Try.underlying71 (hval 0 71 v0 rfl rfl)
  have k0 := h0
  have lt0 : ∀ x ∈ p0, x.block < W.heap.size := by obtain ⟨m, hm⟩ := k0; exact DataW.trod_lt m _ _ _ hm
  obtain ⟨n0, hn0⟩ := h0
  obtain ⟨l0, ⟨A0, c0, e0, hc0, hr0⟩, gl0, G0⟩ := (opens_slice Try.underlying71 (by kernel_rfl) fun m _ => (opens_int Try.underlying5 m)) _ _ _ _ _ _ _ _ hn0
  obtain ⟨rfl, rfl, rfl⟩ : a0 = A0 ∧ len0 = l0.length ∧ cap0 = c0 := by simpa [Value.cells] using e0
  clear hA0 hval0 hsz0
  obtain ⟨k, h⟩ := Pure.FnLeases l0 gl0 G0
  refine (laws_FnLeases.calls k _ _ l0 true W hr0 hc0 h).mono fun e W' ⟨he, bel0⟩ => ?_
  have bel : Below W.heap.size W W' := bel0
  subst he
  exact ⟨_, rfl, _, _, _, [], _, [], hW', trodAll_mk1 (shut_bool Try.underlying4 _), (trodAll_cons_mk (Below.trod laidOut (by kernel_rfl) (of_decide_eq_true (by kernel_rfl)) k0 bel lt0) trodAll_mk0), rfl, bel.frame _, fun h => by cases h⟩
def signs : List Char := ['h', 'a', 'r', 'n', 'e', 's', 's', ' ', '4', '8', 'e', 'd', 'f', 'f', '4', 'e', 'f', 'b', 'e', '5', '7', '9', '4', 'd', '6', 'b', '6', '1', '4', 'f', '8', 'c', '0', '1', '6', '4', 'c', '1', 'e', '2', '8', 'a', '5', '4', 'f', 'd', '8', '3', '9', '4', 'a', '6', 'b', '8', 'f', '2', '3', '3', '4', 'd', 'c', '8', 'd', '8', '4', '9', '0', '3', '5', '8', '0', 'c', ' ', 'c', 'u', 't', ' ', 'a', 't', ' ', 'l', 'o', 'o', 'p', '.', 'e', 'x', 'a', 'm', 'p', 'l', 'e', '/', 'g', '0', '0', '5', '9', '4', '/', 'l', 'a', 'w', 's', '.', 'F', 'n', 'E', 'x', 'a', 'c', 't', 'M', 'e', 'r', 'g', 'e', 'U', 's', 'e', 's', ' ', 'l', 'o', 'o', 'p', '.', 'e', 'x', 'a', 'm', 'p', 'l', 'e', '/', 'g', '0', '0', '5', '9', '4', '/', 'l', 'a', 'w', 's', '.', 'F', 'n', 'E', 'x', 'a', 'c', 't', 'T', 'a', 'k', 'e', 'B', 'a', 'c', 'k', ' ', 'l', 'o', 'o', 'p', '.', 'e', 'x', 'a', 'm', 'p', 'l', 'e', '/', 'g', '0', '0', '5', '9', '4', '/', 'l', 'a', 'w', 's', '.', 'F', 'n', 'E', 'x', 'a', 'c', 't', 'A', 'd', 'd', 'G', 'r', 'a', 'n', 't', ' ', 'l', 'o', 'o', 'p', '.', 'e', 'x', 'a', 'm', 'p', 'l', 'e', '/', 'g', '0', '0', '5', '9', '4', '/', 'l', 'a', 'w', 's', '.', 'F', 'n', 'E', 'x', 'a', 'c', 't', 'A', 'r', 'e', 'E', 'm', 'e', 'r', 'g', 'e', 'n', 'c', 'i', 'e', 's', ' ', 'l', 'o', 'o', 'p', '.', 'e', 'x', 'a', 'm', 'p', 'l', 'e', '/', 'g', '0', '0', '5', '9', '4', '/', 'l', 'a', 'w', 's', '.', 'F', 'n', 'E', 'x', 'a', 'c', 't', 'M', 'a', 'y', 'A', 'c', 't', 'F', 'o', 'r', ' ', 'l', 'o', 'o', 'p', '.', 'e', 'x', 'a', 'm', 'p', 'l', 'e', '/', 'g', '0', '0', '5', '9', '4', '/', 'l', 'a', 'w', 's', '.', 'F', 'n', 'D', 'e', 'l', 'e', 'g', 'a', 't', 'e', 'd', ' ', 'l', 'o', 'o', 'p', '.', 'e', 'x', 'a', 'm', 'p', 'l', 'e', '/', 'g', '0', '0', '5', '9', '4', '/', 'l', 'a', 'w', 's', '.', 'F', 'n', 'E', 'x', 'a', 'c', 't', 'M', 'a', 'y', 'S', 't', 'i', 'l', 'l', 'U', 's', 'e', ' ', 'l', 'o', 'o', 'p', '.', 'e', 'x', 'a', 'm', 'p', 'l', 'e', '/', 'g', '0', '0', '5', '9', '4', '/', 'l', 'a', 'w', 's', '.', 'F', 'n', 'E', 'x', 'a', 'c', 't', 'R', 'e', 'n', 'e', 'w', 'L', 'e', 'a', 's', 'e', ' ', 'l', 'o', 'o', 'p', '.', 'e', 'x', 'a', 'm', 'p', 'l', 'e', '/', 'g', '0', '0', '5', '9', '4', '/', 'l', 'a', 'w', 's', '.', 'F', 'n', 'E', 'x', 'a', 'c', 't', 'D', 'e', 'c', 'l', 'a', 'r', 'e', 'E', 'm', 'e', 'r', 'g', 'e', 'n', 'c', 'y', ' ', 'l', 'o', 'o', 'p', '.', 'e', 'x', 'a', 'm', 'p', 'l', 'e', '/', 'g', '0', '0', '5', '9', '4', '/', 'l', 'a', 'w', 's', '.', 'F', 'n', 'L', 'e', 'a', 's', 'e', 's', ' ', 'l', 'o', 'o', 'p', '.', 'e', 'x', 'a', 'm', 'p', 'l', 'e', '/', 'g', '0', '0', '5', '9', '4', '/', 'l', 'a', 'w', 's', '.', 'F', 'n', 'E', 'x', 'a', 'c', 't', 'U', 's', 'e', 'r', 's', 'O', 'f', ' ', 'l', 'o', 'o', 'p', '.', 'e', 'x', 'a', 'm', 'p', 'l', 'e', '/', 'g', '0', '0', '5', '9', '4', '/', 'l', 'a', 'w', 's', '.', 'F', 'n', 'D', 'u', 't', 'i', 'e', 's']
set_option maxRecDepth 100000 in
theorem signs_toList : Try.prog.initOrder.toList = signs := by
  have h : Try.prog.initOrder = String.ofList signs := by kernel_rfl
  rw [h, String.toList_ofList]
set_option maxRecDepth 100000 in
theorem may : Try.prog.mayEnter = true := by unfold Program.mayEnter; rw [signs_toList]; kernel_rfl
set_option maxRecDepth 100000 in
theorem lifts : (Rows.fnLeasesRow.lifted == Try.prog.liftsFinal) = true := by unfold Program.liftsFinal Program.headLifts; rw [signs_toList]; kernel_rfl
set_option maxRecDepth 100000 in
theorem make : (Try.prog.make == some Rows.fnLeasesRow.make) = true := by unfold Program.make Program.headLifts; rw [signs_toList]; kernel_rfl
set_option maxRecDepth 100000 in
theorem joined : joinedFacts Try.pinned.checked.prog 12 Try.f12 Rows.fnLeasesSpec Rows.fnLeasesRow = true := by
  change joinedFacts Try.prog 12 Try.f12 Rows.fnLeasesSpec Rows.fnLeasesRow = true
  unfold joinedFacts
  rw [may, lifts, make]
  kernel_rfl
theorem over : Rows.fnLeasesRow.holds Try.pinned (OpenSpec.ofChange Rows.fnLeasesSpec) :=
  OpenClaim.holds_of_wide 12 Try.f12 rfl rfl rfl rfl rfl rfl rfl ⟨rfl, rfl, rfl, rfl, rfl⟩ rfl rfl rfl rfl rfl (by kernel_rfl) Try.func12 joined
    (of_decide_eq_true (by kernel_rfl)) (by unfold Func.isWrapper; first | (rw [if_pos (by decide +kernel)]; kernel_rfl) | (rw [if_neg (by decide +kernel)]; exact ⟨rfl, rfl⟩))
    (fun os started H enc _ => lifted os started H enc)
theorem proved : Rows.FnLeasesSaid := over
#print axioms proved
end Go.Proofs.Ytplfbjbbnjlnkaa.fnLeases
namespace Go.Proofs.Ytplfbjbbnjlnkaa
/-- The row, under a short name, for the claim. -/
theorem fnLeases_holds : Rows.FnLeasesSaid := fnLeases.proved
end Go.Proofs.Ytplfbjbbnjlnkaa
