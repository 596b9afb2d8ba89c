/- The statement of FnSavedAnswers: for every input the law returns true, and each argument reads afterwards as it read before. No condition. -/
import Derived.Test.YtomgfohmjpcocaaGreatRows
import Derived.Test.YtomgfohmjpcocaaGreatQFnSavedAnswersx2
import Derived.Test.YtomgfohmjpcocaaGreatPureFnSavedAnswers
import Derived.Test.YtomgfohmjpcocaaGreatO
import Derived.WalkKit
import Derived.ProofKit
import Derived.OpenShut
import Derived.ShutString
import Derived.ChangeOld
import Derived.Below
import Derived.SizedLaws
namespace Go.Proofs.YtomgfohmjpcocaaGreat.fnSavedAnswers
open Go.ChangeShapes Go.WideShapes Go.ChangeAt Go.RowKit Go.Proofs.YtomgfohmjpcocaaGreat.QFnSavedAnswers Go.Proofs.YtomgfohmjpcocaaGreatO Go.Proofs.YtomgfohmjpcocaaGreatV
set_option linter.unusedVariables false
theorem own : ownKnob Tryz.prog.godebug = none := by kernel_rfl
theorem laidOut : laidOutB Tryz.prog = true := by kernel_rfl
set_option maxRecDepth 100000 in
theorem lifted (os : Os) (started : os.Started) (H : Type) (enc : TypeId × Value → H) :
    ReturnsInHanded {} Tryz.checked os 3 .any (Rows.fnSavedAnswersSpec.pre6 enc Tryz.prog Tryz.f3 Rows.fnSavedAnswersRow.domain false) (Rows.fnSavedAnswersSpec.post enc Tryz.prog Tryz.f3 false true false false) := by
  refine returnsInHanded_of_change_sized (C := Tryz.checked) own started (by kernel_rfl) Tryz.func3
    (ChangeSpec.witness6 (enc := enc) (C := Tryz.checked) false ⟨#[], #[.slice none 0 0], []⟩ 8 (by kernel_rfl) (by kernel_rfl) (by kernel_rfl) (by kernel_rfl)) ?_
  intro W base args ds gs before hval0 hW hcnd hsz0 _
  have hval : ∀ (j : Nat) t v, Tryz.f3.params[j]? = some t → args[j]? = some v → Value.okWide Tryz.prog W .any base t v := hval0
  have hW' := hW
  obtain ⟨p, q, hA0, hV, rfl, hfz, hnd⟩ := hW
  have hA : DataW.TrodAll enc Tryz.prog W 0 (fun _ => true) true Tryz.f3.params.toList args.toList ds p := hA0
  rw [Tryz.params3] at hA hval
  obtain ⟨v0, vs0, d0, ds0, p0, q0, hargs, rfl, rfl, h0, r0⟩ := trodAll_cons hA
  obtain ⟨rfl, rfl, rfl⟩ := trodAll_nil r0
  obtain rfl : args = #[v0] := by cases args; simp_all
  obtain ⟨rfl, rfl⟩ := trodVars_none hV
  obtain ⟨a0, len0, cap0, rfl⟩ := okWide_slice Tryz.underlying22 (hval 0 22 v0 rfl rfl)
  have k0 := h0
  have lt0 : ∀ x ∈ p0, x.block < W.heap.size := by obtain ⟨m, hm⟩ := k0; exact DataW.trod_lt m _ _ _ hm
  obtain ⟨n0, hn0⟩ := h0
  obtain ⟨l0, ⟨A0, c0, e0, hc0, hr0⟩, gl0, G0⟩ := (opens_slice Tryz.underlying22 (by kernel_rfl) fun m _ => (opens_int Tryz.underlying5 m)) _ _ _ _ _ _ _ _ hn0
  obtain ⟨rfl, rfl, rfl⟩ : a0 = A0 ∧ len0 = l0.length ∧ cap0 = c0 := by simpa [Value.cells] using e0
  clear hA0 hval0 hsz0
  obtain ⟨k, h⟩ := Pure.FnSavedAnswers l0 gl0 G0
  refine (laws_FnSavedAnswers.calls k _ _ l0 true W hr0 hc0 h).mono fun e W' ⟨he, bel0⟩ => ?_
  have bel : Below W.heap.size W W' := bel0
  subst he
  exact ⟨_, rfl, _, _, _, [], _, [], hW', trodAll_mk1 (shut_bool Tryz.underlying4 _), (trodAll_cons_mk (Below.trod laidOut (by kernel_rfl) (of_decide_eq_true (by kernel_rfl)) k0 bel lt0) trodAll_mk0), rfl, bel.frame _, fun h => by cases h⟩
def signs : List Char := ['h', 'a', 'r', 'n', 'e', 's', 's', ' ', 'c', 'd', '2', '5', '0', '0', '9', '0', '7', '3', '3', 'f', '2', 'a', '4', '8', '8', '0', '5', '3', '5', 'a', '7', 'd', '9', '9', '1', 'd', 'c', '1', 'c', '2', 'd', '3', 'b', 'd', 'c', 'b', '8', '8', '8', '5', '1', 'c', 'c', '3', 'a', '3', '6', '1', '0', 'a', 'b', 'a', '8', 'e', '7', '8', '2', 'a', '5', 'c', '4', '6', ' ', 'c', 'u', 't', ' ', 'a', 't', ' ', 'l', 'o', 'o', 'p', '.', 'e', 'x', 'a', 'm', 'p', 'l', 'e', '/', 'g', '0', '0', '5', '9', '4', '/', 'l', 'a', 'w', 's', '.', 'F', 'n', 'S', 'a', 'v', 'e', 'd', 'A', 'n', 's', 'w', 'e', 'r', 's']
set_option maxRecDepth 100000 in
theorem signs_toList : Tryz.prog.initOrder.toList = signs := by
  have h : Tryz.prog.initOrder = String.ofList signs := by kernel_rfl
  rw [h, String.toList_ofList]
set_option maxRecDepth 100000 in
theorem may : Tryz.prog.mayEnter = true := by unfold Program.mayEnter; rw [signs_toList]; kernel_rfl
set_option maxRecDepth 100000 in
theorem lifts : (Rows.fnSavedAnswersRow.lifted == Tryz.prog.liftsFinal) = true := by unfold Program.liftsFinal Program.headLifts; rw [signs_toList]; kernel_rfl
set_option maxRecDepth 100000 in
theorem make : (Tryz.prog.make == some Rows.fnSavedAnswersRow.make) = true := by unfold Program.make Program.headLifts; rw [signs_toList]; kernel_rfl
set_option maxRecDepth 100000 in
theorem joined : joinedFacts Tryz.pinned.checked.prog 3 Tryz.f3 Rows.fnSavedAnswersSpec Rows.fnSavedAnswersRow = true := by
  change joinedFacts Tryz.prog 3 Tryz.f3 Rows.fnSavedAnswersSpec Rows.fnSavedAnswersRow = true
  unfold joinedFacts
  rw [may, lifts, make]
  kernel_rfl
theorem over : Rows.fnSavedAnswersRow.holds Tryz.pinned (OpenSpec.ofChange Rows.fnSavedAnswersSpec) :=
  OpenClaim.holds_of_wide 3 Tryz.f3 rfl rfl rfl rfl rfl rfl rfl ⟨rfl, rfl, rfl, rfl, rfl⟩ rfl rfl rfl rfl rfl (by kernel_rfl) Tryz.func3 joined
    (of_decide_eq_true (by kernel_rfl)) (by unfold Func.isWrapper; first | (rw [if_pos (by decide +kernel)]; kernel_rfl) | (rw [if_neg (by decide +kernel)]; exact ⟨rfl, rfl⟩))
    (fun os started H enc _ => lifted os started H enc)
theorem proved : Rows.FnSavedAnswersSaid := over
#print axioms proved
end Go.Proofs.YtomgfohmjpcocaaGreat.fnSavedAnswers
namespace Go.Proofs.YtomgfohmjpcocaaGreat
/-- The row, under a short name, for the claim. -/
theorem fnSavedAnswers_holds : Rows.FnSavedAnswersSaid := fnSavedAnswers.proved
end Go.Proofs.YtomgfohmjpcocaaGreat
