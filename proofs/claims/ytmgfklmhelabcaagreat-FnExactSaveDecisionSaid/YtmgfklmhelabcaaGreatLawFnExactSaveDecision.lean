/- The statement of FnExactSaveDecision: for every input the law returns true, and each argument reads afterwards as it read before. No condition. -/
import Derived.Test.YtmgfklmhelabcaaGreatRows
import Derived.Test.YtmgfklmhelabcaaGreatQFnExactSaveDecisionx17
import Derived.Test.YtmgfklmhelabcaaGreatPureFnExactSaveDecision
import Derived.Test.YtmgfklmhelabcaaGreatO
import Derived.WalkKit
import Derived.ProofKit
import Derived.OpenShut
import Derived.ShutString
import Derived.ChangeOld
import Derived.Below
import Derived.SizedLaws
namespace Go.Proofs.YtmgfklmhelabcaaGreat.fnExactSaveDecision
open Go.ChangeShapes Go.WideShapes Go.ChangeAt Go.RowKit Go.Proofs.YtmgfklmhelabcaaGreat.QFnExactSaveDecision Go.Proofs.YtmgfklmhelabcaaGreatO
set_option linter.unusedVariables false
theorem own : ownKnob Tryz.prog.godebug = none := by kernel_rfl
theorem laidOut : laidOutB Tryz.prog = true := by kernel_rfl
theorem okWide_agg {P : Program} {w : World} {r : Reach} {b : Nat} {t : TypeId} {v : Value} {fs : Array Field} (ht : P.underlying t = some (.struct fs)) (h : Value.okWide P w r b t v) : ∃ cs, v = .agg cs := by
  unfold Value.okWide at h
  rw [ht] at h
  obtain ⟨cs, hv, _⟩ := h
  exact ⟨cs, hv⟩
set_option maxRecDepth 100000 in
theorem lifted (os : Os) (started : os.Started) (H : Type) (enc : TypeId × Value → H) :
    ReturnsInHanded {} Tryz.checked os 4 .any (Rows.fnExactSaveDecisionSpec.pre6 enc Tryz.prog Tryz.f4 Rows.fnExactSaveDecisionRow.domain false) (Rows.fnExactSaveDecisionSpec.post enc Tryz.prog Tryz.f4 false true false false) := by
  refine returnsInHanded_of_change_sized (C := Tryz.checked) own started (by kernel_rfl) Tryz.func4
    (ChangeSpec.witness6 (enc := enc) (C := Tryz.checked) false ⟨#[], #[.slice none 0 0, .slice none 0 0, (.agg #[(.int .i64 0), (.slice none 0 0)]), (.agg #[(.int .i64 0), (.int .i64 0), (.int .i64 0), (.int .i64 0), (.int .i64 0), (.int .i64 0)]), .int .i64 0], []⟩ 8 (by kernel_rfl) (by kernel_rfl) (by kernel_rfl) (by kernel_rfl)) ?_
  intro W base args ds gs before hval0 hW hcnd hsz0 _
  have hval : ∀ (j : Nat) t v, Tryz.f4.params[j]? = some t → args[j]? = some v → Value.okWide Tryz.prog W .any base t v := hval0
  have hW' := hW
  obtain ⟨p, q, hA0, hV, rfl, hfz, hnd⟩ := hW
  have hA : DataW.TrodAll enc Tryz.prog W 0 (fun _ => true) true Tryz.f4.params.toList args.toList ds p := hA0
  rw [Tryz.params4] at hA hval
  obtain ⟨v0, vs0, d0, ds0, p0, q0, hargs, rfl, rfl, h0, r0⟩ := trodAll_cons hA
  obtain ⟨v1, vs1, d1, ds1, p1, q1, rfl, rfl, rfl, h1, r1⟩ := trodAll_cons r0
  obtain ⟨v2, vs2, d2, ds2, p2, q2, rfl, rfl, rfl, h2, r2⟩ := trodAll_cons r1
  obtain ⟨v3, vs3, d3, ds3, p3, q3, rfl, rfl, rfl, h3, r3⟩ := trodAll_cons r2
  obtain ⟨v4, vs4, d4, ds4, p4, q4, rfl, rfl, rfl, h4, r4⟩ := trodAll_cons r3
  obtain ⟨rfl, rfl, rfl⟩ := trodAll_nil r4
  obtain rfl : args = #[v0, v1, v2, v3, v4] := by cases args; simp_all
  obtain ⟨rfl, rfl⟩ := trodVars_none hV
  obtain ⟨a0, len0, cap0, rfl⟩ := okWide_slice Tryz.underlying22 (hval 0 22 v0 rfl rfl)
  have k0 := h0
  have lt0 : ∀ x ∈ p0, x.block < W.heap.size := by obtain ⟨m, hm⟩ := k0; exact DataW.trod_lt m _ _ _ hm
  obtain ⟨n0, hn0⟩ := h0
  obtain ⟨l0, ⟨A0, c0, e0, hc0, hr0⟩, gl0, G0⟩ := (opens_slice Tryz.underlying22 (by kernel_rfl) fun m _ => (opens156 m)) _ _ _ _ _ _ _ _ hn0
  obtain ⟨rfl, rfl, rfl⟩ : a0 = A0 ∧ len0 = l0.length ∧ cap0 = c0 := by simpa [Value.cells] using e0
  obtain ⟨a1, len1, cap1, rfl⟩ := okWide_slice Tryz.underlying23 (hval 1 23 v1 rfl rfl)
  have k1 := h1
  have lt1 : ∀ x ∈ p1, x.block < W.heap.size := by obtain ⟨m, hm⟩ := k1; exact DataW.trod_lt m _ _ _ hm
  obtain ⟨n1, hn1⟩ := h1
  obtain ⟨l1, ⟨A1, c1, e1, hc1, hr1⟩, gl1, G1⟩ := (opens_slice Tryz.underlying23 (by kernel_rfl) fun m _ => (opens158 m)) _ _ _ _ _ _ _ _ hn1
  obtain ⟨rfl, rfl, rfl⟩ : a1 = A1 ∧ len1 = l1.length ∧ cap1 = c1 := by simpa [Value.cells] using e1
  obtain ⟨cs2, rfl⟩ := okWide_agg Tryz.underlying26 (hval 2 26 v2 rfl rfl)
  have k2 := h2
  have lt2 : ∀ x ∈ p2, x.block < W.heap.size := by obtain ⟨m, hm⟩ := k2; exact DataW.trod_lt m _ _ _ hm
  obtain ⟨n2, hn2⟩ := h2
  obtain ⟨x2, hK2, G2⟩ := opens26 n2 _ _ _ _ _ _ _ _ hn2
  obtain ⟨A2_1, c2_1, e2, hc2_1, hr2_1⟩ := k26_open hK2
  obtain rfl : cs2 = #[.int .i64 x2.f0, .slice A2_1 x2.f1.length c2_1] := Array.ext' e2
  obtain ⟨cs3, rfl⟩ := okWide_agg Tryz.underlying28 (hval 3 28 v3 rfl rfl)
  have k3 := h3
  have lt3 : ∀ x ∈ p3, x.block < W.heap.size := by obtain ⟨m, hm⟩ := k3; exact DataW.trod_lt m _ _ _ hm
  obtain ⟨n3, hn3⟩ := h3
  obtain ⟨x3, hK3, G3⟩ := opens28 n3 _ _ _ _ _ _ _ _ hn3
  have e3 := k28_open hK3
  obtain rfl : cs3 = #[.int .i64 x3.f0, .int .i64 x3.f1, .int .i64 x3.f2, .int .i64 x3.f3, .int .i64 x3.f4, .int .i64 x3.f5] := Array.ext' e3
  obtain ⟨a4, rfl, rfl, rfl, w4⟩ := open_int Tryz.underlying3 (hval 4 3 v4 rfl rfl) h4
  clear hA0 hval0 hsz0
  obtain ⟨k, h⟩ := Pure.FnExactSaveDecision l0 l1 x2 x3 a4 gl0 G0 gl1 G1 G2 G3 w4
  refine (laws_FnExactSaveDecision.calls k _ _ l0 _ _ l1 x2.f0 _ _ x2.f1 x3.f0 x3.f1 x3.f2 x3.f3 x3.f4 x3.f5 a4 true W hr0 hc0 hr1 hc1 hr2_1 hc2_1 h).mono fun e W' ⟨he, bel0⟩ => ?_
  have bel : Below W.heap.size W W' := bel0
  subst he
  exact ⟨_, rfl, _, _, _, [], _, [], hW', trodAll_mk1 (shut_bool Tryz.underlying4 _), (trodAll_cons_mk (Below.trod laidOut (by kernel_rfl) (of_decide_eq_true (by kernel_rfl)) k0 bel lt0) (trodAll_cons_mk (Below.trod laidOut (by kernel_rfl) (of_decide_eq_true (by kernel_rfl)) k1 bel lt1) (trodAll_cons_mk (Below.trod laidOut (by kernel_rfl) (of_decide_eq_true (by kernel_rfl)) k2 bel lt2) (trodAll_cons_mk (Below.trod laidOut (by kernel_rfl) (of_decide_eq_true (by kernel_rfl)) k3 bel lt3) (trodAll_cons_mk (shut_int Tryz.underlying3 w4) trodAll_mk0))))), rfl, bel.frame _, fun h => by cases h⟩
def signs : List Char := ['h', 'a', 'r', 'n', 'e', 's', 's', ' ', '1', '1', '2', '1', '0', 'f', '8', 'f', 'f', '6', 'e', '6', '1', '1', 'b', '2', '4', 'd', 'f', '3', '8', 'd', '9', '7', '0', 'f', '8', '4', '9', '8', '9', '6', '3', '2', 'b', '8', 'd', 'f', '1', 'd', 'f', '8', '4', 'f', '2', '5', '2', 'b', '4', 'f', '6', '6', '3', '6', '4', '1', '1', '1', '9', 'd', 'f', 'a', '4', '9', ' ', 'c', 'u', 't', ' ', 'a', 't', ' ', 'l', 'o', 'o', 'p', '.', 'e', 'x', 'a', 'm', 'p', 'l', 'e', '/', 'g', '0', '0', '5', '9', '4', '/', 'l', 'a', 'w', 's', '.', 'F', 'n', 'E', 'x', 'a', 'c', 't', 'D', 'e', 'c', 'i', 's', 'i', 'o', 'n', 'U', 'n', 't', 'i', 'l', ' ', 'l', 'o', 'o', 'p', '.', 'e', 'x', 'a', 'm', 'p', 'l', 'e', '/', 'g', '0', '0', '5', '9', '4', '/', 'l', 'a', 'w', 's', '.', 'F', 'n', 'E', 'x', 'a', 'c', 't', 'S', 'a', 'v', 'e', 'D', 'e', 'c', 'i', 's', 'i', 'o', 'n', ' ', 'l', 'o', 'o', 'p', '.', 'e', 'x', 'a', 'm', 'p', 'l', 'e', '/', 'g', '0', '0', '5', '9', '4', '/', 'l', 'a', 'w', 's', '.', 'F', 'n', 'S', 'a', 'v', 'e', 'd', 'A', 'n', 's', 'w', 'e', 'r', 's', ' ', 'l', 'o', 'o', 'p', '.', 'e', 'x', 'a', 'm', 'p', 'l', 'e', '/', 'g', '0', '0', '5', '9', '4', '/', 'l', 'a', 'w', 's', '.', 'F', 'n', 'E', 'x', 'a', 'c', 't', 'C', 'e', 'n', 't', 'e', 'r', 'P', 'u', 'b', 'l', 'i', 's', 'h', ' ', 'l', 'o', 'o', 'p', '.', 'e', 'x', 'a', 'm', 'p', 'l', 'e', '/', 'g', '0', '0', '5', '9', '4', '/', 'l', 'a', 'w', 's', '.', 'F', 'n', 'E', 'x', 'a', 'c', 't', 'I', 's', 'P', 'o', 'i', 'n', 't', ' ', 'l', 'o', 'o', 'p', '.', 'e', 'x', 'a', 'm', 'p', 'l', 'e', '/', 'g', '0', '0', '5', '9', '4', '/', 'l', 'a', 'w', 's', '.', 'F', 'n', 'E', 'x', 'a', 'c', 't', 'A', 's', 'k', 'P', 'o', 'i', 'n', 't', ' ', 'l', 'o', 'o', 'p', '.', 'e', 'x', 'a', 'm', 'p', 'l', 'e', '/', 'g', '0', '0', '5', '9', '4', '/', 'l', 'a', 'w', 's', '.', 'F', 'n', 'A', 's', 'k', 'e', 'd', ' ', 'l', 'o', 'o', 'p', '.', 'e', 'x', 'a', 'm', 'p', 'l', 'e', '/', 'g', '0', '0', '5', '9', '4', '/', 'l', 'a', 'w', 's', '.', 'F', 'n', 'E', 'x', 'a', 'c', 't', 'S', 'y', 'n', 'c', 'P', 'o', 'i', 'n', 't', ' ', 'l', 'o', 'o', 'p', '.', 'e', 'x', 'a', 'm', 'p', 'l', 'e', '/', 'g', '0', '0', '5', '9', '4', '/', 'l', 'a', 'w', 's', '.', 'F', 'n', 'E', 'x', 'a', 'c', 't', 'S', 'y', 'n', 'c', 'A', 'l', 'l', ' ', 'l', 'o', 'o', 'p', '.', 'e', 'x', 'a', 'm', 'p', 'l', 'e', '/', 'g', '0', '0', '5', '9', '4', '/', 'l', 'a', 'w', 's', '.', 'F', 'n', 'S', 'y', 'n', 'c', 'e', 'd', ' ', 'l', 'o', 'o', 'p', '.', 'e', 'x', 'a', 'm', 'p', 'l', 'e', '/', 'g', '0', '0', '5', '9', '4', '/', 'l', 'a', 'w', 's', '.', 'F', 'n', 'C', 'e', 'n', 't', 'e', 'r', 's']
set_option maxRecDepth 100000 in
theorem signs_toList : Tryz.prog.initOrder.toList = signs := by
  have h : Tryz.prog.initOrder = String.ofList signs := by kernel_rfl
  rw [h, String.toList_ofList]
set_option maxRecDepth 100000 in
theorem may : Tryz.prog.mayEnter = true := by unfold Program.mayEnter; rw [signs_toList]; kernel_rfl
set_option maxRecDepth 100000 in
theorem lifts : (Rows.fnExactSaveDecisionRow.lifted == Tryz.prog.liftsFinal) = true := by unfold Program.liftsFinal Program.headLifts; rw [signs_toList]; kernel_rfl
set_option maxRecDepth 100000 in
theorem make : (Tryz.prog.make == some Rows.fnExactSaveDecisionRow.make) = true := by unfold Program.make Program.headLifts; rw [signs_toList]; kernel_rfl
set_option maxRecDepth 100000 in
theorem joined : joinedFacts Tryz.pinned.checked.prog 4 Tryz.f4 Rows.fnExactSaveDecisionSpec Rows.fnExactSaveDecisionRow = true := by
  change joinedFacts Tryz.prog 4 Tryz.f4 Rows.fnExactSaveDecisionSpec Rows.fnExactSaveDecisionRow = true
  unfold joinedFacts
  rw [may, lifts, make]
  kernel_rfl
theorem over : Rows.fnExactSaveDecisionRow.holds Tryz.pinned (OpenSpec.ofChange Rows.fnExactSaveDecisionSpec) :=
  OpenClaim.holds_of_wide 4 Tryz.f4 rfl rfl rfl rfl rfl rfl rfl ⟨rfl, rfl, rfl, rfl, rfl⟩ rfl rfl rfl rfl rfl (by kernel_rfl) Tryz.func4 joined
    (of_decide_eq_true (by kernel_rfl)) (by unfold Func.isWrapper; first | (rw [if_pos (by decide +kernel)]; kernel_rfl) | (rw [if_neg (by decide +kernel)]; exact ⟨rfl, rfl⟩))
    (fun os started H enc _ => lifted os started H enc)
theorem proved : Rows.FnExactSaveDecisionSaid := over
#print axioms proved
end Go.Proofs.YtmgfklmhelabcaaGreat.fnExactSaveDecision
namespace Go.Proofs.YtmgfklmhelabcaaGreat
/-- The row, under a short name, for the claim. -/
theorem fnExactSaveDecision_holds : Rows.FnExactSaveDecisionSaid := fnExactSaveDecision.proved
end Go.Proofs.YtmgfklmhelabcaaGreat
