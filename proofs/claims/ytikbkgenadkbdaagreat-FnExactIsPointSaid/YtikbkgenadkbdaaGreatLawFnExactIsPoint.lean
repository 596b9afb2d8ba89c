/- The statement of FnExactIsPoint: for every input the law returns true, and each argument reads afterwards as it read before. No condition. -/
import Derived.Test.YtikbkgenadkbdaaGreatRows
import Derived.Test.YtikbkgenadkbdaaGreatQFnExactIsPointx2
import Derived.Test.YtikbkgenadkbdaaGreatPureFnExactIsPoint
import Derived.Test.YtikbkgenadkbdaaGreatO
import Derived.WalkKit
import Derived.ProofKit
import Derived.OpenShut
import Derived.ShutString
import Derived.ChangeOld
import Derived.Below
import Derived.SizedLaws
namespace Go.Proofs.YtikbkgenadkbdaaGreat.fnExactIsPoint
open Go.ChangeShapes Go.WideShapes Go.ChangeAt Go.RowKit Go.Proofs.YtikbkgenadkbdaaGreat.QFnExactIsPoint Go.Proofs.YtikbkgenadkbdaaGreatO Go.Proofs.YtikbkgenadkbdaaGreatV
set_option linter.unusedVariables false
theorem own : ownKnob Tryz.prog.godebug = none := by kernel_rfl
theorem laidOut : laidOutB Tryz.prog = true := by kernel_rfl
theorem okWide_agg {P : Program} {w : World} {r : Reach} {b : Nat} {t : TypeId} {v : Value} {fs : Array Field} (ht : P.underlying t = some (.struct fs)) (h : Value.okWide P w r b t v) : ∃ cs, v = .agg cs := by
  unfold Value.okWide at h
  rw [ht] at h
  obtain ⟨cs, hv, _⟩ := h
  exact ⟨cs, hv⟩
set_option maxRecDepth 100000 in
theorem lifted (os : Os) (started : os.Started) (H : Type) (enc : TypeId × Value → H) :
    ReturnsInHanded {} Tryz.checked os 3 .any (Rows.fnExactIsPointSpec.pre6 enc Tryz.prog Tryz.f3 Rows.fnExactIsPointRow.domain false) (Rows.fnExactIsPointSpec.post enc Tryz.prog Tryz.f3 false true false false) := by
  refine returnsInHanded_of_change_sized (C := Tryz.checked) own started (by kernel_rfl) Tryz.func3
    (ChangeSpec.witness6 (enc := enc) (C := Tryz.checked) false ⟨#[], #[.agg #[.int .i64 0, .int .i64 0, .int .i64 0, .slice none 0 0, .int .i64 0, .slice none 0 0, .slice none 0 0, .slice none 0 0, .int .i64 0, .slice none 0 0]], []⟩ 8 (by kernel_rfl) (by kernel_rfl) (by kernel_rfl) (by kernel_rfl)) ?_
  intro W base args ds gs before hval0 hW hcnd hsz0 _
  have hval : ∀ (j : Nat) t v, Tryz.f3.params[j]? = some t → args[j]? = some v → Value.okWide Tryz.prog W .any base t v := hval0
  have hW' := hW
  obtain ⟨p, q, hA0, hV, rfl, hfz, hnd⟩ := hW
  have hA : DataW.TrodAll enc Tryz.prog W 0 (fun _ => true) true Tryz.f3.params.toList args.toList ds p := hA0
  rw [Tryz.params3] at hA hval
  obtain ⟨v0, vs0, d0, ds0, p0, q0, hargs, rfl, rfl, h0, r0⟩ := trodAll_cons hA
  obtain ⟨rfl, rfl, rfl⟩ := trodAll_nil r0
  obtain rfl : args = #[v0] := by cases args; simp_all
  obtain ⟨rfl, rfl⟩ := trodVars_none hV
  obtain ⟨cs0, rfl⟩ := okWide_agg Tryz.underlying32 (hval 0 32 v0 rfl rfl)
  have k0 := h0
  have lt0 : ∀ x ∈ p0, x.block < W.heap.size := by obtain ⟨m, hm⟩ := k0; exact DataW.trod_lt m _ _ _ hm
  obtain ⟨n0, hn0⟩ := h0
  obtain ⟨x0, K0, G0⟩ := (opnT32 n0) _ _ _ _ _ _ _ _ hn0
  clear hA0 hval0 hsz0
  obtain ⟨k, h⟩ := Pure.FnExactIsPoint x0 G0
  refine (laws_FnExactIsPoint.calls k x0 true W _ K0 h).mono fun e W' ⟨he, bel0⟩ => ?_
  have bel : Below W.heap.size W W' := bel0
  subst he
  exact ⟨_, rfl, _, _, _, [], _, [], hW', trodAll_mk1 (shut_bool Tryz.underlying4 _), (trodAll_cons_mk (Below.trod laidOut (by kernel_rfl) (of_decide_eq_true (by kernel_rfl)) k0 bel lt0) trodAll_mk0), rfl, bel.frame _, fun h => by cases h⟩
def signs : List Char := ['h', 'a', 'r', 'n', 'e', 's', 's', ' ', 'c', 'b', '3', '1', '4', 'd', '6', '5', '1', '6', '2', '0', '1', '4', '9', '0', '0', '8', '1', '7', '4', '8', '4', '6', '2', 'd', '9', '8', '0', 'b', '2', '8', 'f', '5', 'f', 'e', '4', '1', '9', '0', '1', '1', '7', 'c', 'c', '8', '1', '3', '3', '6', '9', '1', 'a', '9', '6', '3', '4', '9', '4', '4', '4', '3', '6', '9', ' ', 'c', 'u', 't', ' ', 'a', 't', ' ', 'l', 'o', 'o', 'p', '.', 'e', 'x', 'a', 'm', 'p', 'l', 'e', '/', 'g', '0', '0', '5', '9', '4', '/', 'l', 'a', 'w', 's', '.', 'F', 'n', 'E', 'x', 'a', 'c', 't', 'I', 's', 'P', 'o', 'i', 'n', 't']
set_option maxRecDepth 100000 in
theorem signs_toList : Tryz.prog.initOrder.toList = signs := by
  have h : Tryz.prog.initOrder = String.ofList signs := by kernel_rfl
  rw [h, String.toList_ofList]
set_option maxRecDepth 100000 in
theorem may : Tryz.prog.mayEnter = true := by unfold Program.mayEnter; rw [signs_toList]; kernel_rfl
set_option maxRecDepth 100000 in
theorem lifts : (Rows.fnExactIsPointRow.lifted == Tryz.prog.liftsFinal) = true := by unfold Program.liftsFinal Program.headLifts; rw [signs_toList]; kernel_rfl
set_option maxRecDepth 100000 in
theorem make : (Tryz.prog.make == some Rows.fnExactIsPointRow.make) = true := by unfold Program.make Program.headLifts; rw [signs_toList]; kernel_rfl
set_option maxRecDepth 100000 in
theorem joined : joinedFacts Tryz.pinned.checked.prog 3 Tryz.f3 Rows.fnExactIsPointSpec Rows.fnExactIsPointRow = true := by
  change joinedFacts Tryz.prog 3 Tryz.f3 Rows.fnExactIsPointSpec Rows.fnExactIsPointRow = true
  unfold joinedFacts
  rw [may, lifts, make]
  kernel_rfl
theorem over : Rows.fnExactIsPointRow.holds Tryz.pinned (OpenSpec.ofChange Rows.fnExactIsPointSpec) :=
  OpenClaim.holds_of_wide 3 Tryz.f3 rfl rfl rfl rfl rfl rfl rfl ⟨rfl, rfl, rfl, rfl, rfl⟩ rfl rfl rfl rfl rfl (by kernel_rfl) Tryz.func3 joined
    (of_decide_eq_true (by kernel_rfl)) (by unfold Func.isWrapper; first | (rw [if_pos (by decide +kernel)]; kernel_rfl) | (rw [if_neg (by decide +kernel)]; exact ⟨rfl, rfl⟩))
    (fun os started H enc _ => lifted os started H enc)
theorem proved : Rows.FnExactIsPointSaid := over
#print axioms proved
end Go.Proofs.YtikbkgenadkbdaaGreat.fnExactIsPoint
namespace Go.Proofs.YtikbkgenadkbdaaGreat
/-- The row, under a short name, for the claim. -/
theorem fnExactIsPoint_holds : Rows.FnExactIsPointSaid := fnExactIsPoint.proved
end Go.Proofs.YtikbkgenadkbdaaGreat
