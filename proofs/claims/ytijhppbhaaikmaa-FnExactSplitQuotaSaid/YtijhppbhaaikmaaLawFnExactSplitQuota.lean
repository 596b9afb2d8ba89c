/- The statement of FnExactSplitQuota: for every input the law returns true, and each argument reads afterwards as it read before. No condition. -/
import Derived.Test.YtijhppbhaaikmaaRows
import Derived.Test.YtijhppbhaaikmaaQFnExactSplitQuotax4
import Derived.Test.YtijhppbhaaikmaaPureFnExactSplitQuota
import Derived.Test.YtijhppbhaaikmaaO
import Derived.WalkKit
import Derived.ProofKit
import Derived.OpenShut
import Derived.ShutString
import Derived.ChangeOld
import Derived.Below
import Derived.SizedLaws
namespace Go.Proofs.Ytijhppbhaaikmaa.fnExactSplitQuota
open Go.ChangeShapes Go.WideShapes Go.ChangeAt Go.RowKit Go.Proofs.Ytijhppbhaaikmaa.QFnExactSplitQuota Go.Proofs.YtijhppbhaaikmaaO
set_option linter.unusedVariables false
theorem own : ownKnob Try.prog.godebug = none := by kernel_rfl
theorem laidOut : laidOutB Try.prog = true := by kernel_rfl
set_option maxRecDepth 100000 in
theorem lifted (os : Os) (started : os.Started) (H : Type) (enc : TypeId × Value → H) :
    ReturnsInHanded {} Try.checked os 11 .any (Rows.fnExactSplitQuotaSpec.pre6 enc Try.prog Try.f11 Rows.fnExactSplitQuotaRow.domain false) (Rows.fnExactSplitQuotaSpec.post enc Try.prog Try.f11 false true false false) := by
  refine returnsInHanded_of_change_sized (C := Try.checked) own started (by kernel_rfl) Try.func11
    (ChangeSpec.witness6 (enc := enc) (C := Try.checked) false ⟨#[], #[.int .i64 0, .slice none 0 0], []⟩ 8 (by kernel_rfl) (by kernel_rfl) (by kernel_rfl) (by kernel_rfl)) ?_
  intro W base args ds gs before hval0 hW hcnd hsz0 _
  have hval : ∀ (j : Nat) t v, Try.f11.params[j]? = some t → args[j]? = some v → Value.okWide Try.prog W .any base t v := hval0
  have hW' := hW
  obtain ⟨p, q, hA0, hV, rfl, hfz, hnd⟩ := hW
  have hA : DataW.TrodAll enc Try.prog W 0 (fun _ => true) true Try.f11.params.toList args.toList ds p := hA0
  rw [Try.params11] at hA hval
  obtain ⟨v0, vs0, d0, ds0, p0, q0, hargs, rfl, rfl, h0, r0⟩ := trodAll_cons hA
  obtain ⟨v1, vs1, d1, ds1, p1, q1, rfl, rfl, rfl, h1, r1⟩ := trodAll_cons r0
  obtain ⟨rfl, rfl, rfl⟩ := trodAll_nil r1
  obtain rfl : args = #[v0, v1] := by cases args; simp_all
  obtain ⟨rfl, rfl⟩ := trodVars_none hV
  obtain ⟨a0, rfl, rfl, rfl, w0⟩ := open_int Try.underlying3 (hval 0 3 v0 rfl rfl) h0
  obtain ⟨a1, len1, cap1, rfl⟩ := okWide_slice Try.underlying47 (hval 1 47 v1 rfl rfl)
  have k1 := h1
  have lt1 : ∀ x ∈ p1, x.block < W.heap.size := by obtain ⟨m, hm⟩ := k1; exact DataW.trod_lt m _ _ _ hm
  obtain ⟨n1, hn1⟩ := h1
  obtain ⟨l1, ⟨A1, c1, e1, hc1, hr1⟩, gl1, G1⟩ := (opens_slice Try.underlying47 (by kernel_rfl) fun m _ => (opens_int Try.underlying3 m)) _ _ _ _ _ _ _ _ hn1
  obtain ⟨rfl, rfl, rfl⟩ : a1 = A1 ∧ len1 = l1.length ∧ cap1 = c1 := by simpa [Value.cells] using e1
  clear hA0 hval0 hsz0
  obtain ⟨k, h⟩ := Pure.FnExactSplitQuota a0 l1 w0 gl1 G1
  refine (laws_FnExactSplitQuota.calls k a0 _ _ l1 true W hr1 hc1 h).mono fun e W' ⟨he, bel0⟩ => ?_
  have bel : Below W.heap.size W W' := bel0
  subst he
  exact ⟨_, rfl, _, _, _, [], _, [], hW', trodAll_mk1 (shut_bool Try.underlying4 _), (trodAll_cons_mk (shut_int Try.underlying3 w0) (trodAll_cons_mk (Below.trod laidOut (by kernel_rfl) (of_decide_eq_true (by kernel_rfl)) k1 bel lt1) trodAll_mk0)), rfl, bel.frame _, fun h => by cases h⟩
def signs : List Char := ['h', 'a', 'r', 'n', 'e', 's', 's', ' ', '5', '6', 'f', '6', '6', '0', '4', '7', '7', '5', '4', 'e', '6', 'd', '9', 'a', '8', '4', '5', '3', 'b', 'a', '7', 'a', '0', '0', '4', '7', '1', '5', '7', '3', 'e', '2', '6', '8', 'b', '3', '8', '9', '6', '5', 'd', '9', '3', '6', 'a', '4', '9', '6', 'e', '5', '4', '8', 'd', '0', '8', 'c', 'c', '2', '0', '4', '7', '3', ' ', 'c', 'u', 't', ' ', 'a', 't', ' ', 'l', 'o', 'o', 'p', '.', 'e', 'x', 'a', 'm', 'p', 'l', 'e', '/', 'g', '0', '0', '5', '9', '4', '/', 'l', 'a', 'w', 's', '.', 'F', 'n', 'E', 'x', 'a', 'c', 't', 'A', 'n', 's', 'w', 'e', 'r', 'N', 'a', 'm', 'e', ' ', 'l', 'o', 'o', 'p', '.', 'e', 'x', 'a', 'm', 'p', 'l', 'e', '/', 'g', '0', '0', '5', '9', '4', '/', 'l', 'a', 'w', 's', '.', 'F', 'n', 'E', 'x', 'a', 'c', 't', 'I', 's', 'U', 's', 'e', ' ', 'l', 'o', 'o', 'p', '.', 'e', 'x', 'a', 'm', 'p', 'l', 'e', '/', 'g', '0', '0', '5', '9', '4', '/', 'l', 'a', 'w', 's', '.', 'F', 'n', 'E', 'x', 'a', 'c', 't', 'S', 'u', 'm', 'S', 'h', 'a', 'r', 'e', 's', ' ', 'l', 'o', 'o', 'p', '.', 'e', 'x', 'a', 'm', 'p', 'l', 'e', '/', 'g', '0', '0', '5', '9', '4', '/', 'l', 'a', 'w', 's', '.', 'F', 'n', 'E', 'x', 'a', 'c', 't', 'A', 'r', 'e', 'A', 'p', 'a', 'r', 't', ' ', 'l', 'o', 'o', 'p', '.', 'e', 'x', 'a', 'm', 'p', 'l', 'e', '/', 'g', '0', '0', '5', '9', '4', '/', 'l', 'a', 'w', 's', '.', 'F', 'n', 'E', 'x', 'a', 'c', 't', 'L', 'e', 'f', 't', 'A', 't', ' ', 'l', 'o', 'o', 'p', '.', 'e', 'x', 'a', 'm', 'p', 'l', 'e', '/', 'g', '0', '0', '5', '9', '4', '/', 'l', 'a', 'w', 's', '.', 'F', 'n', 'E', 'x', 'a', 'c', 't', 'A', 'r', 'e', 'S', 'h', 'a', 'r', 'e', 's', ' ', 'l', 'o', 'o', 'p', '.', 'e', 'x', 'a', 'm', 'p', 'l', 'e', '/', 'g', '0', '0', '5', '9', '4', '/', 'l', 'a', 'w', 's', '.', 'F', 'n', 'E', 'x', 'a', 'c', 't', 'I', 's', 'P', 'l', 'a', 'n', ' ', 'l', 'o', 'o', 'p', '.', 'e', 'x', 'a', 'm', 'p', 'l', 'e', '/', 'g', '0', '0', '5', '9', '4', '/', 'l', 'a', 'w', 's', '.', 'F', 'n', 'E', 'x', 'a', 'c', 't', 'F', 'i', 'n', 'd', 'S', 'a', 'v', 'e', 'd', ' ', 'l', 'o', 'o', 'p', '.', 'e', 'x', 'a', 'm', 'p', 'l', 'e', '/', 'g', '0', '0', '5', '9', '4', '/', 'l', 'a', 'w', 's', '.', 'F', 'n', 'E', 'x', 'a', 'c', 't', 'S', 'p', 'l', 'i', 't', 'Q', 'u', 'o', 't', 'a', ' ', 'l', 'o', 'o', 'p', '.', 'e', 'x', 'a', 'm', 'p', 'l', 'e', '/', 'g', '0', '0', '5', '9', '4', '/', 'l', 'a', 'w', 's', '.', 'F', 'n', 'E', 'x', 'a', 'c', 't', 'M', 'a', 'y', 'D', 'o', ' ', 'l', 'o', 'o', 'p', '.', 'e', 'x', 'a', 'm', 'p', 'l', 'e', '/', 'g', '0', '0', '5', '9', '4', '/', 'l', 'a', 'w', 's', '.', 'F', 'n', 'E', 'x', 'a', 'c', 't', 'T', 'a', 'k', 'e', 'S', 'h', 'a', 'r', 'e', ' ', 'l', 'o', 'o', 'p', '.', 'e', 'x', 'a', 'm', 'p', 'l', 'e', '/', 'g', '0', '0', '5', '9', '4', '/', 'l', 'a', 'w', 's', '.', 'F', 'n', 'E', 'x', 'a', 'c', 't', 'D', 'e', 'b', 't', 's', 'O', 'f']
set_option maxRecDepth 100000 in
theorem signs_toList : Try.prog.initOrder.toList = signs := by
  have h : Try.prog.initOrder = String.ofList signs := by kernel_rfl
  rw [h, String.toList_ofList]
set_option maxRecDepth 100000 in
theorem may : Try.prog.mayEnter = true := by unfold Program.mayEnter; rw [signs_toList]; kernel_rfl
set_option maxRecDepth 100000 in
theorem lifts : (Rows.fnExactSplitQuotaRow.lifted == Try.prog.liftsFinal) = true := by unfold Program.liftsFinal Program.headLifts; rw [signs_toList]; kernel_rfl
set_option maxRecDepth 100000 in
theorem make : (Try.prog.make == some Rows.fnExactSplitQuotaRow.make) = true := by unfold Program.make Program.headLifts; rw [signs_toList]; kernel_rfl
set_option maxRecDepth 100000 in
theorem joined : joinedFacts Try.pinned.checked.prog 11 Try.f11 Rows.fnExactSplitQuotaSpec Rows.fnExactSplitQuotaRow = true := by
  change joinedFacts Try.prog 11 Try.f11 Rows.fnExactSplitQuotaSpec Rows.fnExactSplitQuotaRow = true
  unfold joinedFacts
  rw [may, lifts, make]
  kernel_rfl
theorem over : Rows.fnExactSplitQuotaRow.holds Try.pinned (OpenSpec.ofChange Rows.fnExactSplitQuotaSpec) :=
  OpenClaim.holds_of_wide 11 Try.f11 rfl rfl rfl rfl rfl rfl rfl ⟨rfl, rfl, rfl, rfl, rfl⟩ rfl rfl rfl rfl rfl (by kernel_rfl) Try.func11 joined
    (of_decide_eq_true (by kernel_rfl)) (by unfold Func.isWrapper; first | (rw [if_pos (by decide +kernel)]; kernel_rfl) | (rw [if_neg (by decide +kernel)]; exact ⟨rfl, rfl⟩))
    (fun os started H enc _ => lifted os started H enc)
theorem proved : Rows.FnExactSplitQuotaSaid := over
#print axioms proved
end Go.Proofs.Ytijhppbhaaikmaa.fnExactSplitQuota
namespace Go.Proofs.Ytijhppbhaaikmaa
/-- The row, under a short name, for the claim. -/
theorem fnExactSplitQuota_holds : Rows.FnExactSplitQuotaSaid := fnExactSplitQuota.proved
end Go.Proofs.Ytijhppbhaaikmaa
