/- The statement of FnExactCenterPublish: for every input the law returns true, and each argument reads afterwards as it read before. No condition. -/
import Derived.Test.YtlnimankbhcinaaGreatRows
import Derived.Test.YtlnimankbhcinaaGreatQFnExactCenterPublishx2
import Derived.Test.YtlnimankbhcinaaGreatPureFnExactCenterPublish
import Derived.Test.YtlnimankbhcinaaGreatO
import Derived.WalkKit
import Derived.ProofKit
import Derived.OpenShut
import Derived.ShutString
import Derived.ChangeOld
import Derived.Below
import Derived.SizedLaws
namespace Go.Proofs.YtlnimankbhcinaaGreat.fnExactCenterPublish
open Go.ChangeShapes Go.WideShapes Go.ChangeAt Go.RowKit Go.Proofs.YtlnimankbhcinaaGreat.QFnExactCenterPublish Go.Proofs.YtlnimankbhcinaaGreatO Go.Proofs.YtlnimankbhcinaaGreatV
set_option linter.unusedVariables false
theorem own : ownKnob Tryz.prog.godebug = none := by kernel_rfl
theorem laidOut : laidOutB Tryz.prog = true := by kernel_rfl
theorem okWide_agg {P : Program} {w : World} {r : Reach} {b : Nat} {t : TypeId} {v : Value} {fs : Array Field} (ht : P.underlying t = some (.struct fs)) (h : Value.okWide P w r b t v) : ∃ cs, v = .agg cs := by
  unfold Value.okWide at h
  rw [ht] at h
  obtain ⟨cs, hv, _⟩ := h
  exact ⟨cs, hv⟩
set_option maxRecDepth 100000 in
theorem lifted (os : Os) (started : os.Started) (H : Type) (enc : TypeId × Value → H) :
    ReturnsInHanded {} Tryz.checked os 3 .any (Rows.fnExactCenterPublishSpec.pre6 enc Tryz.prog Tryz.f3 Rows.fnExactCenterPublishRow.domain false) (Rows.fnExactCenterPublishSpec.post enc Tryz.prog Tryz.f3 false true false false) := by
  refine returnsInHanded_of_change_sized (C := Tryz.checked) own started (by kernel_rfl) Tryz.func3
    (ChangeSpec.witness6 (enc := enc) (C := Tryz.checked) false ⟨#[], #[.agg #[.slice none 0 0, .slice none 0 0, .slice none 0 0, .slice none 0 0, .int .i64 0, .slice none 0 0], .slice none 0 0, .slice none 0 0, .int .i64 0], []⟩ 8 (by kernel_rfl) (by kernel_rfl) (by kernel_rfl) (by kernel_rfl)) ?_
  intro W base args ds gs before hval0 hW hcnd hsz0 _
  have hval : ∀ (j : Nat) t v, Tryz.f3.params[j]? = some t → args[j]? = some v → Value.okWide Tryz.prog W .any base t v := hval0
  have hW' := hW
  obtain ⟨p, q, hA0, hV, rfl, hfz, hnd⟩ := hW
  have hA : DataW.TrodAll enc Tryz.prog W 0 (fun _ => true) true Tryz.f3.params.toList args.toList ds p := hA0
  rw [Tryz.params3] at hA hval
  obtain ⟨v0, vs0, d0, ds0, p0, q0, hargs, rfl, rfl, h0, r0⟩ := trodAll_cons hA
  obtain ⟨v1, vs1, d1, ds1, p1, q1, rfl, rfl, rfl, h1, r1⟩ := trodAll_cons r0
  obtain ⟨v2, vs2, d2, ds2, p2, q2, rfl, rfl, rfl, h2, r2⟩ := trodAll_cons r1
  obtain ⟨v3, vs3, d3, ds3, p3, q3, rfl, rfl, rfl, h3, r3⟩ := trodAll_cons r2
  obtain ⟨rfl, rfl, rfl⟩ := trodAll_nil r3
  obtain rfl : args = #[v0, v1, v2, v3] := by cases args; simp_all
  obtain ⟨rfl, rfl⟩ := trodVars_none hV
  obtain ⟨cs0, rfl⟩ := okWide_agg Tryz.underlying28 (hval 0 28 v0 rfl rfl)
  have k0 := h0
  have lt0 : ∀ x ∈ p0, x.block < W.heap.size := by obtain ⟨m, hm⟩ := k0; exact DataW.trod_lt m _ _ _ hm
  obtain ⟨n0, hn0⟩ := h0
  obtain ⟨x0, K0, G0⟩ := (opnT28 n0) _ _ _ _ _ _ _ _ hn0
  obtain ⟨a1, len1, cap1, rfl⟩ := okWide_slice Tryz.underlying29 (hval 1 29 v1 rfl rfl)
  have k1 := h1
  have lt1 : ∀ x ∈ p1, x.block < W.heap.size := by obtain ⟨m, hm⟩ := k1; exact DataW.trod_lt m _ _ _ hm
  obtain ⟨n1, hn1⟩ := h1
  obtain ⟨l1, K1, G1⟩ := (opn_row (d := (EL.iso (EL.pair (EL.int .i64) (EL.int .i64)) (fun x => (⟨x.1, x.2⟩ : S77)) (fun x : S77 => (x.f0, x.f1)) : EL U.D S77)) (fun _ => rfl) PL.toUlaw Tryz.underlying29 (by kernel_rfl) (by decide) fun qn1 hqn1 => (opnT77 qn1)) _ _ _ _ _ _ _ _ hn1
  obtain ⟨a2, len2, cap2, rfl⟩ := okWide_slice Tryz.underlying30 (hval 2 30 v2 rfl rfl)
  have k2 := h2
  have lt2 : ∀ x ∈ p2, x.block < W.heap.size := by obtain ⟨m, hm⟩ := k2; exact DataW.trod_lt m _ _ _ hm
  obtain ⟨n2, hn2⟩ := h2
  obtain ⟨l2, K2, G2⟩ := (opn_row (d := (EL.iso (EL.pair (EL.int .i64) (EL.pair (EL.int .i64) (EL.pair (EL.int .i64) (EL.iso (EL.pair (EL.int .i64) (EL.pair (EL.int .i64) (EL.pair (EL.int .i64) (EL.row 63)))) (fun x => (⟨x.1, x.2.1, x.2.2.1, x.2.2.2⟩ : S63)) (fun x : S63 => (x.f0, x.f1, x.f2, x.f3)))))) (fun x => (⟨x.1, x.2.1, x.2.2.1, x.2.2.2⟩ : S65)) (fun x : S65 => (x.f0, x.f1, x.f2, x.f3)) : EL U.D S65)) (fun _ => rfl) PL.toUlaw Tryz.underlying30 (by kernel_rfl) (by decide) fun qn2 hqn2 => (opnT65 qn2)) _ _ _ _ _ _ _ _ hn2
  obtain ⟨a3, rfl, rfl, rfl, w3⟩ := open_int Tryz.underlying3 (hval 3 3 v3 rfl rfl) h3
  clear hA0 hval0 hsz0
  obtain ⟨k, h⟩ := Pure.FnExactCenterPublish x0 l1 l2 a3 G0 G1.1 G1.2 G2.1 G2.2 w3
  refine (laws_FnExactCenterPublish.calls k x0 l1 l2 a3 true W _ _ _ _ K0 K1 K2 (.one (.int _ _)) h).mono fun e W' ⟨he, bel0⟩ => ?_
  have bel : Below W.heap.size W W' := bel0
  subst he
  exact ⟨_, rfl, _, _, _, [], _, [], hW', trodAll_mk1 (shut_bool Tryz.underlying4 _), (trodAll_cons_mk (Below.trod laidOut (by kernel_rfl) (of_decide_eq_true (by kernel_rfl)) k0 bel lt0) (trodAll_cons_mk (Below.trod laidOut (by kernel_rfl) (of_decide_eq_true (by kernel_rfl)) k1 bel lt1) (trodAll_cons_mk (Below.trod laidOut (by kernel_rfl) (of_decide_eq_true (by kernel_rfl)) k2 bel lt2) (trodAll_cons_mk (shut_int Tryz.underlying3 w3) trodAll_mk0)))), rfl, bel.frame _, fun h => by cases h⟩
def signs : List Char := ['h', 'a', 'r', 'n', 'e', 's', 's', ' ', '7', '9', '7', '4', 'f', '1', '1', '7', '1', '4', 'a', '2', '4', '7', '8', 'e', '9', '9', '7', '8', 'd', 'c', 'e', 'e', 'b', '0', '6', 'c', '0', '8', 'f', 'f', '5', '6', 'd', '9', 'e', '1', '9', 'f', '1', 'c', '1', 'f', 'e', '8', '2', '5', '9', '6', '1', '7', 'a', 'a', '3', '9', '7', '2', 'c', 'c', '4', '8', 'e', '0', ' ', 'c', 'u', 't', ' ', 'a', 't', ' ', 'l', 'o', 'o', 'p', '.', 'e', 'x', 'a', 'm', 'p', 'l', 'e', '/', 'g', '0', '0', '5', '9', '4', '/', 'l', 'a', 'w', 's', '.', 'F', 'n', 'E', 'x', 'a', 'c', 't', 'C', 'e', 'n', 't', 'e', 'r', 'P', 'u', 'b', 'l', 'i', 's', 'h']
set_option maxRecDepth 100000 in
theorem signs_toList : Tryz.prog.initOrder.toList = signs := by
  have h : Tryz.prog.initOrder = String.ofList signs := by kernel_rfl
  rw [h, String.toList_ofList]
set_option maxRecDepth 100000 in
theorem may : Tryz.prog.mayEnter = true := by unfold Program.mayEnter; rw [signs_toList]; kernel_rfl
set_option maxRecDepth 100000 in
theorem lifts : (Rows.fnExactCenterPublishRow.lifted == Tryz.prog.liftsFinal) = true := by unfold Program.liftsFinal Program.headLifts; rw [signs_toList]; kernel_rfl
set_option maxRecDepth 100000 in
theorem make : (Tryz.prog.make == some Rows.fnExactCenterPublishRow.make) = true := by unfold Program.make Program.headLifts; rw [signs_toList]; kernel_rfl
set_option maxRecDepth 100000 in
theorem joined : joinedFacts Tryz.pinned.checked.prog 3 Tryz.f3 Rows.fnExactCenterPublishSpec Rows.fnExactCenterPublishRow = true := by
  change joinedFacts Tryz.prog 3 Tryz.f3 Rows.fnExactCenterPublishSpec Rows.fnExactCenterPublishRow = true
  unfold joinedFacts
  rw [may, lifts, make]
  kernel_rfl
theorem over : Rows.fnExactCenterPublishRow.holds Tryz.pinned (OpenSpec.ofChange Rows.fnExactCenterPublishSpec) :=
  OpenClaim.holds_of_wide 3 Tryz.f3 rfl rfl rfl rfl rfl rfl rfl ⟨rfl, rfl, rfl, rfl, rfl⟩ rfl rfl rfl rfl rfl (by kernel_rfl) Tryz.func3 joined
    (of_decide_eq_true (by kernel_rfl)) (by unfold Func.isWrapper; first | (rw [if_pos (by decide +kernel)]; kernel_rfl) | (rw [if_neg (by decide +kernel)]; exact ⟨rfl, rfl⟩))
    (fun os started H enc _ => lifted os started H enc)
theorem proved : Rows.FnExactCenterPublishSaid := over
#print axioms proved
end Go.Proofs.YtlnimankbhcinaaGreat.fnExactCenterPublish
namespace Go.Proofs.YtlnimankbhcinaaGreat
/-- The row, under a short name, for the claim. -/
theorem fnExactCenterPublish_holds : Rows.FnExactCenterPublishSaid := fnExactCenterPublish.proved
end Go.Proofs.YtlnimankbhcinaaGreat
