/- The law FnExactDebtsOf answers true for all arguments, over numbers and lists alone: what each function computes, and that program and reference compute the same. No condition. -/
import Derived.Test.YtijhppbhaaikmaaQFnExactDebtsOfx4
import Derived.Test.YtijhppbhaaikmaaL
namespace Go.Proofs.Ytijhppbhaaikmaa.Pure
open Go.RowKit Go.Proofs.Ytijhppbhaaikmaa.QFnExactDebtsOf Go.Proofs.YtijhppbhaaikmaaL Go.Proofs.YtijhppbhaaikmaaW.PrintWords Go.Proofs.YtijhppbhaaikmaaW.PrintLast
set_option linter.unusedVariables false
set_option linter.unusedSimpArgs false

def cv121 (x : S121) : S122 := ⟨x.f0, x.f1, x.f2, x.f3, x.f4, x.f5⟩
def n121 (x : S121) : Nat := x.f4.length
def n122 (x : S122) : Nat := x.f4.length
theorem rd_at_T121 {l : List S121} {i : Nat} {x : S121} (h : l[i]? = some x) : rd_T121 l (i : Int) = x := getD_nat l _ i x h
theorem rd_at_T122 {l : List S122} {i : Nat} {x : S122} (h : l[i]? = some x) : rd_T122 l (i : Int) = x := getD_nat l _ i x h
theorem ncv121 (x : S121) : n122 (cv121 x) = n121 x := by
  simp only [cv121, n122, n121, List.length_map, List.map_map, Function.comp_def]

theorem laws_eqIntS_refl (l : List Int) (h : l.length ≤ 1048576) : Ev (fun k => laws_eqIntS.f k l l) true := by
  unfold laws_eqIntS.f
  refine Ev.pos rfl ?_
  refine ev_walk l (fun k i => laws_eqIntS.l0 k l l i) true ?_ ?_
  · refine Ev.succ ?_
    simp only [laws_eqIntS.l0, Int.lt_irrefl, if_false]
    exact Ev.now _
  · intro i x hx hr
    have hi := lt_of_get hx
    have h1 : ((i : Int) < (l.length : Int)) = True := eq_true (by omega)
    have h2 : (0 ≤ (i : Int)) = True := eq_true (by omega)
    refine Ev.succ ?_
    simp only [laws_eqIntS.l0, h1, h2, if_true, rd_nat l i x hx, wr1 hi (by omega)]
    exact hr

def mkI (x : Int) (n : Int) : Int × Int := (n, wrap64 (n + 1))
theorem mkI_up (x : Int) (n : Int) (h0 : 0 ≤ n) (h : n + (1 : Nat) ≤ 4611686018427387904) : (mkI x n).2 = n + (1 : Nat) := by
  have e0 : wrap64 (n + 1) = n + 1 := wr (by omega) (by omega)
  simp only [mkI, e0]
  omega
theorem laws_markIntS_ev (l : List Int) (h : l.length ≤ 9223372036854775807) (n : Int) : Ev (fun k => laws_markIntS.f k l n) ((acc mkI l n).2, (acc mkI l n).1) := by
  unfold laws_markIntS.f
  refine ev_mark mkI (fun k l n i => laws_markIntS.l0 k l n i) l.length ?_ ?_ l rfl n
  · intro l' n hl
    refine Ev.succ ?_
    simp only [laws_markIntS.l0, hl, Int.lt_irrefl, if_false]
    exact Ev.now _
  · intro l' i x n r hl hx hr
    have hi := lt_of_get hx
    have h1 : ((i : Int) < (l'.length : Int)) = True := eq_true (by omega)
    have h2 : (0 ≤ (i : Int)) = True := eq_true (by omega)
    refine Ev.succ ?_
    simp only [laws_markIntS.l0, h1, h2, if_true, wr1 hi (by omega), Int.toNat_natCast, Option.bind_some, List.set_set, rd, List.getD_eq_getElem?_getD, List.getElem?_set_self hi, Option.getD_some, hx]
    exact hr

theorem laws_szIntS_le (l : List Int) (hl : l.length ≤ maxLen) (a : Int) (h0 : 0 ≤ a) (ha : a ≤ 1048576) : ∃ r, laws_szIntS.f l a = some r ∧ r ≤ 1048576 ∧ (0 ≤ r → r + (l.length : Nat) ≤ a) := by
  unfold laws_szIntS.f
  unfold maxLen at hl
  rw [wr (by omega) (by omega)]
  split
  · exact ⟨_, rfl, by omega, by omega⟩
  · exact ⟨_, rfl, by omega, by omega⟩

theorem laws_szEmergency_le (x : S121) (hg : g121 x) (a : Int) (h0 : 0 ≤ a) (ha : a ≤ 1048576) : ∃ r, laws_szEmergency.f x.f0 x.f1 x.f2 x.f3 x.f4 x.f5 a = some r ∧ r ≤ 1048576 ∧ (0 ≤ r → r + (n121 x : Nat) ≤ a) := by
  unfold g121 at hg
  unfold n121 laws_szEmergency.f
  obtain ⟨r0, e0, b0, s0⟩ := laws_szIntS_le x.f4 (by have := hg; simp_all) a (by omega) (by omega)
  rw [e0]; simp only [Option.bind_some]
  by_cases c0 : r0 < 0
  · rw [if_pos c0]; exact ⟨_, rfl, by omega, by omega⟩
  rw [if_neg c0]
  have s0' := s0 (by omega)
  exact ⟨_, rfl, by omega, by omega⟩

theorem laws_szEmergencyS_le (l : List (S121)) (hl : l.length ≤ maxLen) (hg : ∀ y_ ∈ l, g121 y_) (a : Int) (h0 : 0 ≤ a) (ha : a ≤ 1048576) : ∃ r, Ev (fun k => laws_szEmergencyS.f k l a) r ∧ r ≤ 1048576 ∧ (0 ≤ r → r + (l.length + (l.map n121).sum : Nat) ≤ a) := by
  unfold laws_szEmergencyS.f
  unfold maxLen at hl
  rw [wr (by omega) (by omega)]
  by_cases c : a - (l.length : Int) < 0
  · simp only [if_pos c]; exact ⟨_, Ev.now _, by omega, by omega⟩
  simp only [if_neg c]
  have hend : ∀ a, Ev (fun k => laws_szEmergencyS.l0 k l a (l.length : Int)) a := by
    intro a
    refine Ev.succ ?_
    simp only [laws_szEmergencyS.l0, Int.lt_irrefl, if_false]
    exact Ev.now _
  have hstep : ∀ (i : Nat) (x : S121) (a : Int), l[i]? = some x → 0 ≤ a → a ≤ 1048576 → (∃ r, Ev (fun k => laws_szEmergencyS.l0 k l a (i : Int)) r ∧ r < 0) ∨ ∃ a', 0 ≤ a' ∧ a' + n121 x ≤ a ∧ ∀ r, Ev (fun k => laws_szEmergencyS.l0 k l a' ((i + 1 : Nat) : Int)) r → Ev (fun k => laws_szEmergencyS.l0 k l a (i : Int)) r := by
    intro i x a hx h0 ha
    have hi := lt_of_get hx
    have h1 : ((i : Int) < (l.length : Int)) = True := eq_true (by omega)
    have h2 : (0 ≤ (i : Int)) = True := eq_true (by omega)
    obtain ⟨r, e, b, s⟩ := laws_szEmergency_le x (hg x (List.mem_of_getElem? hx)) a h0 ha
    by_cases c2 : r < 0
    · left
      refine ⟨-1, Ev.succ ?_, by omega⟩
      simp only [laws_szEmergencyS.l0, h1, h2, if_true, rd_at_T121 hx, e, Option.bind_some, if_pos c2]
      exact Ev.now _
    · right
      have s' := s (by omega)
      refine ⟨r, by omega, by omega, fun r' hr => Ev.succ ?_⟩
      simp only [laws_szEmergencyS.l0, h1, h2, if_true, rd_at_T121 hx, e, Option.bind_some, if_neg c2, wr1 hi (by omega)]
      exact hr
  obtain ⟨r, h1, h2, h3⟩ := ev_sz n121 l (fun k a i => laws_szEmergencyS.l0 k l a i) 1048576 hend hstep (a - l.length) (by omega) (by omega)
  exact ⟨r, h1, h2, fun h => by have := h3 h; omega⟩

def debtStep (p : Int) (s : List Int) (x : S122) : List Int := if x.f1 = p then (if x.f5 = true then s else s ++ [x.f0]) else s
def debtV (l : List S122) (p : Int) : List Int := l.foldl (debtStep p) []
theorem debtStep_length (p : Int) (s : List Int) (x : S122) : (debtStep p s x).length ≤ s.length + 1 := by
  unfold debtStep
  split
  · split
    · omega
    · rw [List.length_append, List.length_singleton]; exact Nat.le_refl _
  · omega
theorem debtV_from (p : Int) : ∀ (l : List S122) (s : List Int), (l.foldl (debtStep p) s).length ≤ s.length + l.length
  | [], s => by simp
  | x :: l, s => by
    have h1 := debtV_from p l (debtStep p s x)
    have h2 := debtStep_length p s x
    simp only [List.foldl_cons, List.length_cons]
    omega
theorem debtV_length (l : List S122) (p : Int) : (debtV l p).length ≤ l.length := by
  have := debtV_from p l []
  rw [List.length_nil] at this
  unfold debtV
  omega
theorem spec_DebtsOf_ev (l : List S122) (p : Int) (h : l.length ≤ 1048576) : Ev (fun k => spec_DebtsOf.f k l p) (debtV l p) := by
  unfold spec_DebtsOf.f debtV
  refine ev_fold l (debtStep p) id (fun i s => s.length ≤ i) (fun k s i => spec_DebtsOf.l0 k l p s i) ?_ ?_ ?_ [] (by simp)
  · intro s _
    refine Ev.succ ?_
    simp only [spec_DebtsOf.l0, Int.lt_irrefl, if_false]
    exact Ev.now _
  · intro i x s hx hs
    have := debtStep_length p s x
    show (debtStep p s x).length ≤ i + 1
    omega
  · intro i x s r hx hs hr
    have hi := lt_of_get hx
    have hs' : s.length ≤ i := hs
    have h1 : ((i : Int) < (l.length : Int)) = True := eq_true (by omega)
    have h2 : (0 ≤ (i : Int)) = True := eq_true (by omega)
    have h3 : (s.length < 17592186044416) = True := eq_true (by omega)
    refine Ev.succ ?_
    simp only [spec_DebtsOf.l0, h1, h2, h3, if_true, rd_at_T122 hx, wr1 hi (by omega)]
    unfold debtStep at hr
    by_cases c : x.f1 = p
    · by_cases c2 : x.f5 = true
      · simp only [if_pos c, if_pos c2] at hr ⊢; exact hr
      · simp only [if_pos c, if_neg c2] at hr ⊢; exact hr
    · simp only [if_neg c] at hr ⊢; exact hr

theorem laws_toIntS_ev (l : List Int) (h : l.length ≤ 1048576) : Ev (fun k => laws_toIntS.f k l) l := by
  unfold laws_toIntS.f
  have e : l = l.map id := by simp
  conv => rhs; rw [e]
  refine Ev.pos (by omega) (Ev.pos (by omega) ?_)
  refine ev_fill l id (fun k out i => laws_toIntS.l0 k l out i) ?_ ?_ _ (by simp)
  · intro out ho
    refine Ev.succ ?_
    simp only [laws_toIntS.l0, Int.lt_irrefl, if_false]
    exact Ev.now _
  · intro i x out r hx ho hr
    have hi := lt_of_get hx
    have h1 : ((i : Int) < (l.length : Int)) = True := eq_true (by omega)
    have h2 : (0 ≤ (i : Int)) = True := eq_true (by omega)
    have h3 : ((i : Int) < (out.length : Int)) = True := eq_true (by omega)
    refine Ev.succ ?_
    simp only [laws_toIntS.l0, h1, h2, h3, if_true, rd_nat l i x hx, wr1 hi (by omega), Int.toNat_natCast]
    exact hr

theorem laws_toEmergency_ev (x : S121) (h : n121 x ≤ 1048576) : Ev (fun k => laws_toEmergency.f k x.f0 x.f1 x.f2 x.f3 x.f4 x.f5) ((cv121 x).f0, (cv121 x).f1, (cv121 x).f2, (cv121 x).f3, (cv121 x).f4, (cv121 x).f5) := by
  unfold n121 at h
  unfold laws_toEmergency.f
  repeat (first | exact Ev.now _ | (refine Ev.bind (laws_toIntS_ev _ (by omega)) ?_; try simp only []))

theorem laws_toEmergencyS_ev (l : List (S121)) (h : l.length + (l.map n121).sum ≤ 1048576) : Ev (fun k => laws_toEmergencyS.f k l) (l.map cv121) := by
  unfold laws_toEmergencyS.f
  refine Ev.pos (by omega) (Ev.pos (by omega) ?_)
  refine ev_fill l cv121 (fun k out i => laws_toEmergencyS.l0 k l out i) ?_ ?_ _ (by simp)
  · intro out ho
    refine Ev.succ ?_
    simp only [laws_toEmergencyS.l0, Int.lt_irrefl, if_false]
    exact Ev.now _
  · intro i x out r hx ho hr
    have hi := lt_of_get hx
    have h1 : ((i : Int) < (l.length : Int)) = True := eq_true (by omega)
    have h2 : (0 ≤ (i : Int)) = True := eq_true (by omega)
    have h3 : ((i : Int) < (out.length : Int)) = True := eq_true (by omega)
    refine Ev.succ ?_
    simp only [laws_toEmergencyS.l0, h1, h2, h3, if_true, rd_at_T121 hx, wr1 hi (by omega), Int.toNat_natCast]
    refine Ev.bind (laws_toEmergency_ev x (by have := le_sum n121 hx; omega)) ?_
    simp only [h3, if_true]
    exact hr

theorem impl_DebtsOf_ev (l : List S122) (p : Int) (h : l.length ≤ 1048576) : Ev (fun k => impl_DebtsOf.f k l p) (debtV l p) := by
  unfold impl_DebtsOf.f debtV
  refine ev_fold l (debtStep p) id (fun i s => s.length ≤ i) (fun k s i => impl_DebtsOf.l0 k p s l (l.length : Int) i) ?_ ?_ ?_ [] (by simp)
  · intro s _
    refine Ev.succ ?_
    simp only [impl_DebtsOf.l0, Int.lt_irrefl, if_false]
    exact Ev.now _
  · intro i x s hx hs
    have := debtStep_length p s x
    show (debtStep p s x).length ≤ i + 1
    omega
  · intro i x s r hx hs hr
    have hi := lt_of_get hx
    have hs' : s.length ≤ i := hs
    have h1 : ((i : Int) < (l.length : Int)) = True := eq_true (by omega)
    have h2 : (0 ≤ (i : Int)) = True := eq_true (by omega)
    have h3 : (s.length < 17592186044416) = True := eq_true (by omega)
    refine Ev.succ ?_
    simp only [impl_DebtsOf.l0, h1, h2, h3, if_true, rd_at_T122 hx, wr1 hi (by omega)]
    unfold debtStep at hr
    by_cases c : x.f1 = p
    · by_cases c2 : x.f5 = true
      · simp only [if_pos c, if_pos c2] at hr ⊢; exact hr
      · simp only [if_pos c, if_neg c2] at hr ⊢; exact hr
    · simp only [if_neg c] at hr ⊢; exact hr

theorem laws_eqEmergency_refl (x : S122) (h : n122 x ≤ 1048576) : Ev (fun k => laws_eqEmergency.f k x.f0 x.f1 x.f2 x.f3 x.f4 x.f5 x.f0 x.f1 x.f2 x.f3 x.f4 x.f5) true := by
  unfold n122 at h
  unfold laws_eqEmergency.f
  simp only [if_true, bne_self_eq_false, Bool.false_eq_true, if_false]
  repeat (first | exact Ev.now _ | (refine Ev.bind (laws_eqIntS_refl _ (by omega)) ?_; simp only [if_true, bne_self_eq_false, Bool.false_eq_true, if_false]))

theorem laws_eqEmergencyS_refl (l : List (S122)) (h : l.length + (l.map n122).sum ≤ 1048576) : Ev (fun k => laws_eqEmergencyS.f k l l) true := by
  unfold laws_eqEmergencyS.f
  refine Ev.pos rfl ?_
  refine ev_walk l (fun k i => laws_eqEmergencyS.l0 k l l i) true ?_ ?_
  · refine Ev.succ ?_
    simp only [laws_eqEmergencyS.l0, Int.lt_irrefl, if_false]
    exact Ev.now _
  · intro i x hx hr
    have hi := lt_of_get hx
    have h1 : ((i : Int) < (l.length : Int)) = True := eq_true (by omega)
    have h2 : (0 ≤ (i : Int)) = True := eq_true (by omega)
    refine Ev.succ ?_
    simp only [laws_eqEmergencyS.l0, h1, h2, if_true, rd_at_T122 hx, wr1 hi (by omega)]
    refine Ev.bind (laws_eqEmergency_refl x (by have := le_sum n122 hx; omega)) ?_
    simp only [if_true]
    exact hr

def mk122 (x : S122) (n : Int) : S122 × Int := ((⟨n, wrap64 (n + 1), wrap64 (wrap64 (n + 1) + 1), wrap64 (wrap64 (wrap64 (n + 1) + 1) + 1), (acc mkI x.f4 (wrap64 (wrap64 (wrap64 (wrap64 (n + 1) + 1) + 1) + 1))).1, Int.tmod ((acc mkI x.f4 (wrap64 (wrap64 (wrap64 (wrap64 (n + 1) + 1) + 1) + 1))).2) 3 == 0⟩ : S122), wrap64 ((acc mkI x.f4 (wrap64 (wrap64 (wrap64 (wrap64 (n + 1) + 1) + 1) + 1))).2 + 1))
theorem mk122_up (x : S122) (n : Int) (h0 : 0 ≤ n) (h : n + (5 + (x.f4.length) : Nat) ≤ 4611686018427387904) : (mk122 x n).2 = n + (5 + (x.f4.length) : Nat) := by
  have e0 : wrap64 (n + 1) = n + 1 := wr (by omega) (by omega)
  have e1 : wrap64 (n + 1 + 1) = n + 1 + 1 := wr (by omega) (by omega)
  have e2 : wrap64 (n + 1 + 1 + 1) = n + 1 + 1 + 1 := wr (by omega) (by omega)
  have e3 : wrap64 (n + 1 + 1 + 1 + 1) = n + 1 + 1 + 1 + 1 := wr (by omega) (by omega)
  have e4 : (acc mkI x.f4 (n + 1 + 1 + 1 + 1)).2 = (n + 1 + 1 + 1 + 1) + (x.f4.length : Nat) := by rw [acc_count mkI (fun _ => 1) 4611686018427387904 mkI_up _ _ (by omega) (by rw [sum_const]; omega), sum_const]; omega
  have e5 : wrap64 ((n + 1 + 1 + 1 + 1) + (x.f4.length : Nat) + 1) = (n + 1 + 1 + 1 + 1) + (x.f4.length : Nat) + 1 := wr (by omega) (by omega)
  simp only [mk122, e0, e1, e2, e3, e4, e5]
  omega
theorem laws_markEmergencyS_ev (l : List (S122)) (h : l.length + (l.map n122).sum ≤ 1048576) (n : Int) : Ev (fun k => laws_markEmergencyS.f k l n) ((acc mk122 l n).2, (acc mk122 l n).1) := by
  unfold laws_markEmergencyS.f
  refine ev_mark2 mk122 (fun k l n i => laws_markEmergencyS.l0 k l n i) l ?_ ?_ n
  · intro l' n hl
    refine Ev.succ ?_
    simp only [laws_markEmergencyS.l0, hl, Int.lt_irrefl, if_false]
    exact Ev.now _
  · intro l' i x n r hl hm hx hr
    have hi := lt_of_get hx
    have hn : n122 x ≤ 1048576 := by
      obtain ⟨j, hj⟩ := List.getElem?_of_mem hm
      have := le_sum n122 hj
      omega
    unfold n122 at hn
    have h1 : ((i : Int) < (l'.length : Int)) = True := eq_true (by omega)
    refine Ev.succ ?_
    simp only [laws_markEmergencyS.l0, h1, if_true, rd_at_T122 hx, wr1 hi (by omega), Int.toNat_natCast]
    refine Ev.bind (laws_markIntS_ev x.f4 (by omega) _) ?_
    exact hr

theorem laws_heldIntS_ev (l : List Int) (n : Int) (h0 : 0 ≤ n) (hB : n + ((l.map fun _ => 1).sum : Nat) ≤ 4611686018427387904) (h : l.length ≤ 9223372036854775807) : Ev (fun k => laws_heldIntS.f k (acc mkI l n).1 n) (acc mkI l n).2 := by
  unfold laws_heldIntS.f
  refine ev_held mkI (fun _ => 1) 4611686018427387904 mkI_up (fun k l n i => laws_heldIntS.l0 k l n i) l.length ?_ ?_ l rfl n h0 hB
  · intro l' n hl
    refine Ev.succ ?_
    simp only [laws_heldIntS.l0, hl, Int.lt_irrefl, if_false]
    exact Ev.now _
  · intro l' i x n r hl h0 hB hx hr
    have hi := lt_of_get hx
    have h1 : ((i : Int) < (l'.length : Int)) = True := eq_true (by omega)
    have h2 : (0 ≤ (i : Int)) = True := eq_true (by omega)
    refine Ev.succ ?_
    simp only [laws_heldIntS.l0, h1, h2, if_true, wr1 hi (by omega), rd_nat l' i _ hx]
    simp only [mkI, if_true]
    exact hr

theorem FnExactDebtsOf : laws_FnExactDebtsOf.Pure := by
  intro l p h1 h2 _
  refine Ev.rounds ?_
  unfold laws_FnExactDebtsOf.f
  obtain ⟨r, e, hr1, hr⟩ := laws_szEmergencyS_le l h1 h2 1048576 (by omega) (by omega)
  refine Ev.bind e ?_
  by_cases c : r < 0
  · simp only [if_pos c]; exact Ev.now _
  simp only [if_neg c]
  have hb := hr (by omega)
  have hs : ((l.map cv121).map n122).sum = (l.map n121).sum := by rw [List.map_map]; rfl
  have hm : (l.map cv121).length + ((l.map cv121).map n122).sum ≤ 1048576 := by rw [List.length_map, hs]; omega
  have hS := spec_DebtsOf_ev (l.map cv121) p (by omega)
  have hI := impl_DebtsOf_ev (l.map cv121) p (by omega)
  have hl := debtV_length (l.map cv121) p
  generalize debtV (l.map cv121) p = v at hS hI hl
  have hv : v.length ≤ 1048576 := by omega
  have hn1 : ((acc mk122 (l.map cv121) 1).2 < 0) = False := acc_nonneg _ _ _ mk122_up _ (by rw [sum_add]; unfold n122 at hm; omega)
  have hn2 : ((acc mkI v 1).2 < 0) = False := acc_nonneg _ _ _ mkI_up _ (by rw [sum_const]; omega)
  repeat (first
    | exact Ev.now _
    | ((first | refine Ev.bind (laws_toEmergencyS_ev l (by omega)) ?_ | refine Ev.bind (hS) ?_ | refine Ev.bind (hI) ?_ | refine Ev.bind (laws_eqEmergencyS_refl _ hm) ?_ | refine Ev.bind (laws_eqIntS_refl _ hv) ?_ | refine Ev.bind (laws_markEmergencyS_ev _ hm _) ?_ | refine Ev.bind (laws_markIntS_ev _ (by omega) _) ?_ | refine Ev.bind (laws_heldIntS_ev _ 1 (by omega) (by rw [sum_const]; omega) (by omega)) ?_); try simp only [if_true, if_false, bne_self_eq_false, Bool.false_eq_true, Bool.not_true, hn1, hn2])
    | simp only [if_true, if_false, bne_self_eq_false, Bool.false_eq_true, Bool.not_true, hn1, hn2])

end Go.Proofs.Ytijhppbhaaikmaa.Pure
