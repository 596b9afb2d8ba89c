/- The law FnExactDeclareEmergency answers true for all arguments, over numbers and lists alone: what each function computes, and that program and reference compute the same. No condition. -/
import Derived.Test.YtplfbjbbnjlnkaaQFnExactDeclareEmergencyx10
import Derived.Test.YtplfbjbbnjlnkaaL
namespace Go.Proofs.Ytplfbjbbnjlnkaa.Pure
open Go.RowKit Go.Proofs.Ytplfbjbbnjlnkaa.QFnExactDeclareEmergency Go.Proofs.YtplfbjbbnjlnkaaL Go.Proofs.YtplfbjbbnjlnkaaW.PrintWords Go.Proofs.YtplfbjbbnjlnkaaW.PrintLast
set_option linter.unusedVariables false
set_option linter.unusedSimpArgs false

def cv57 (x : S57) : S62 := ⟨x.f0, x.f1, x.f2⟩
def n57 (x : S57) : Nat := x.f0.length + x.f1.length
def cv143 (x : S143) : S144 := ⟨x.f0, x.f1, x.f2, x.f3, x.f4, x.f5⟩
def n143 (x : S143) : Nat := x.f4.length
def n62 (x : S62) : Nat := x.f0.length + x.f1.length
def n144 (x : S144) : Nat := x.f4.length
theorem rd_at_T143 {l : List S143} {i : Nat} {x : S143} (h : l[i]? = some x) : rd_T143 l (i : Int) = x := getD_nat l _ i x h
theorem rd_at_T144 {l : List S144} {i : Nat} {x : S144} (h : l[i]? = some x) : rd_T144 l (i : Int) = x := getD_nat l _ i x h
theorem rd_at_T62 {l : List S62} {i : Nat} {x : S62} (h : l[i]? = some x) : rd_T62 l (i : Int) = x := getD_nat l _ i x h
theorem rd_at_T57 {l : List S57} {i : Nat} {x : S57} (h : l[i]? = some x) : rd_T57 l (i : Int) = x := getD_nat l _ i x h
theorem ncv57 (x : S57) : n62 (cv57 x) = n57 x := by
  simp only [cv57, n62, n57, List.length_map, List.map_map, Function.comp_def]
theorem ncv143 (x : S143) : n144 (cv143 x) = n143 x := by
  simp only [cv143, n144, n143, List.length_map, List.map_map, Function.comp_def]

theorem laws_szIntS_le (l : List Int) (hl : l.length ≤ maxLen) (a : Int) (h0 : 0 ≤ a) (ha : a ≤ 2097152) : ∃ r, laws_szIntS.f l a = some r ∧ r ≤ 2097152 ∧ (0 ≤ r → r + (l.length : Nat) ≤ a) := by
  unfold laws_szIntS.f
  unfold maxLen at hl
  rw [wr (by omega) (by omega)]
  split
  · exact ⟨_, rfl, by omega, by omega⟩
  · exact ⟨_, rfl, by omega, by omega⟩

theorem laws_szPlan_le (x : S57) (hg : g57 x) (a : Int) (h0 : 0 ≤ a) (ha : a ≤ 2097152) : ∃ r, laws_szPlan.f x.f0 x.f1 x.f2 a = some r ∧ r ≤ 2097152 ∧ (0 ≤ r → r + (n57 x : Nat) ≤ a) := by
  unfold g57 at hg
  unfold n57 laws_szPlan.f
  obtain ⟨r0, e0, b0, s0⟩ := laws_szIntS_le x.f0 (by have := hg; simp_all) a (by omega) (by omega)
  rw [e0]; simp only [Option.bind_some]
  by_cases c0 : r0 < 0
  · rw [if_pos c0]; exact ⟨_, rfl, by omega, by omega⟩
  rw [if_neg c0]
  have s0' := s0 (by omega)
  obtain ⟨r1, e1, b1, s1⟩ := laws_szIntS_le x.f1 (by have := hg; simp_all) r0 (by omega) (by omega)
  rw [e1]; simp only [Option.bind_some]
  by_cases c1 : r1 < 0
  · rw [if_pos c1]; exact ⟨_, rfl, by omega, by omega⟩
  rw [if_neg c1]
  have s1' := s1 (by omega)
  exact ⟨_, rfl, by omega, by omega⟩

theorem laws_szEmergency_le (x : S143) (hg : g143 x) (a : Int) (h0 : 0 ≤ a) (ha : a ≤ 2097152) : ∃ r, laws_szEmergency.f x.f0 x.f1 x.f2 x.f3 x.f4 x.f5 a = some r ∧ r ≤ 2097152 ∧ (0 ≤ r → r + (n143 x : Nat) ≤ a) := by
  unfold g143 at hg
  unfold n143 laws_szEmergency.f
  obtain ⟨r0, e0, b0, s0⟩ := laws_szIntS_le x.f4 (by have := hg; simp_all) a (by omega) (by omega)
  rw [e0]; simp only [Option.bind_some]
  by_cases c0 : r0 < 0
  · rw [if_pos c0]; exact ⟨_, rfl, by omega, by omega⟩
  rw [if_neg c0]
  have s0' := s0 (by omega)
  exact ⟨_, rfl, by omega, by omega⟩

theorem laws_szEmergencyS_le (l : List (S143)) (hl : l.length ≤ maxLen) (hg : ∀ y_ ∈ l, g143 y_) (a : Int) (h0 : 0 ≤ a) (ha : a ≤ 2097152) : ∃ r, Ev (fun k => laws_szEmergencyS.f k l a) r ∧ r ≤ 2097152 ∧ (0 ≤ r → r + (l.length + (l.map n143).sum : Nat) ≤ a) := by
  unfold laws_szEmergencyS.f
  unfold maxLen at hl
  rw [wr (by omega) (by omega)]
  by_cases c : a - (l.length : Int) < 0
  · simp only [if_pos c]; exact ⟨_, Ev.now _, by omega, by omega⟩
  simp only [if_neg c]
  have hend : ∀ a, Ev (fun k => laws_szEmergencyS.l0 k l a (l.length : Int)) a := by
    intro a
    refine Ev.succ ?_
    simp only [laws_szEmergencyS.l0, Int.lt_irrefl, if_false]
    exact Ev.now _
  have hstep : ∀ (i : Nat) (x : S143) (a : Int), l[i]? = some x → 0 ≤ a → a ≤ 2097152 → (∃ r, Ev (fun k => laws_szEmergencyS.l0 k l a (i : Int)) r ∧ r < 0) ∨ ∃ a', 0 ≤ a' ∧ a' + n143 x ≤ a ∧ ∀ r, Ev (fun k => laws_szEmergencyS.l0 k l a' ((i + 1 : Nat) : Int)) r → Ev (fun k => laws_szEmergencyS.l0 k l a (i : Int)) r := by
    intro i x a hx h0 ha
    have hi := lt_of_get hx
    have h1 : ((i : Int) < (l.length : Int)) = True := eq_true (by omega)
    have h2 : (0 ≤ (i : Int)) = True := eq_true (by omega)
    obtain ⟨r, e, b, s⟩ := laws_szEmergency_le x (hg x (List.mem_of_getElem? hx)) a h0 ha
    by_cases c2 : r < 0
    · left
      refine ⟨-1, Ev.succ ?_, by omega⟩
      simp only [laws_szEmergencyS.l0, h1, h2, if_true, rd_at_T143 hx, e, Option.bind_some, if_pos c2]
      exact Ev.now _
    · right
      have s' := s (by omega)
      refine ⟨r, by omega, by omega, fun r' hr => Ev.succ ?_⟩
      simp only [laws_szEmergencyS.l0, h1, h2, if_true, rd_at_T143 hx, e, Option.bind_some, if_neg c2, wr1 hi (by omega)]
      exact hr
  obtain ⟨r, h1, h2, h3⟩ := ev_sz n143 l (fun k a i => laws_szEmergencyS.l0 k l a i) 2097152 hend hstep (a - l.length) (by omega) (by omega)
  exact ⟨r, h1, h2, fun h => by have := h3 h; omega⟩

theorem laws_toIntS_ev (l : List Int) (h : l.length ≤ 2097152) : Ev (fun k => laws_toIntS.f k l) l := by
  unfold laws_toIntS.f
  have e : l = l.map id := by simp
  conv => rhs; rw [e]
  refine Ev.pos (by omega) (Ev.pos (by omega) ?_)
  refine ev_fill l id (fun k out i => laws_toIntS.l0 k l out i) ?_ ?_ _ (by simp)
  · intro out ho
    refine Ev.succ ?_
    simp only [laws_toIntS.l0, Int.lt_irrefl, if_false]
    exact Ev.now _
  · intro i x out r hx ho hr
    have hi := lt_of_get hx
    have h1 : ((i : Int) < (l.length : Int)) = True := eq_true (by omega)
    have h2 : (0 ≤ (i : Int)) = True := eq_true (by omega)
    have h3 : ((i : Int) < (out.length : Int)) = True := eq_true (by omega)
    refine Ev.succ ?_
    simp only [laws_toIntS.l0, h1, h2, h3, if_true, rd_nat l i x hx, wr1 hi (by omega), Int.toNat_natCast]
    exact hr

theorem laws_toPlan_ev (x : S57) (h : n57 x ≤ 2097152) : Ev (fun k => laws_toPlan.f k x.f0 x.f1 x.f2) ((cv57 x).f0, (cv57 x).f1, (cv57 x).f2) := by
  unfold n57 at h
  unfold laws_toPlan.f
  repeat (first | exact Ev.now _ | (refine Ev.bind (laws_toIntS_ev _ (by omega)) ?_; try simp only []))

theorem laws_toEmergency_ev (x : S143) (h : n143 x ≤ 2097152) : Ev (fun k => laws_toEmergency.f k x.f0 x.f1 x.f2 x.f3 x.f4 x.f5) ((cv143 x).f0, (cv143 x).f1, (cv143 x).f2, (cv143 x).f3, (cv143 x).f4, (cv143 x).f5) := by
  unfold n143 at h
  unfold laws_toEmergency.f
  repeat (first | exact Ev.now _ | (refine Ev.bind (laws_toIntS_ev _ (by omega)) ?_; try simp only []))

theorem laws_toEmergencyS_ev (l : List (S143)) (h : l.length + (l.map n143).sum ≤ 2097152) : Ev (fun k => laws_toEmergencyS.f k l) (l.map cv143) := by
  unfold laws_toEmergencyS.f
  refine Ev.pos (by omega) (Ev.pos (by omega) ?_)
  refine ev_fill l cv143 (fun k out i => laws_toEmergencyS.l0 k l out i) ?_ ?_ _ (by simp)
  · intro out ho
    refine Ev.succ ?_
    simp only [laws_toEmergencyS.l0, Int.lt_irrefl, if_false]
    exact Ev.now _
  · intro i x out r hx ho hr
    have hi := lt_of_get hx
    have h1 : ((i : Int) < (l.length : Int)) = True := eq_true (by omega)
    have h2 : (0 ≤ (i : Int)) = True := eq_true (by omega)
    have h3 : ((i : Int) < (out.length : Int)) = True := eq_true (by omega)
    refine Ev.succ ?_
    simp only [laws_toEmergencyS.l0, h1, h2, h3, if_true, rd_at_T143 hx, wr1 hi (by omega), Int.toNat_natCast]
    refine Ev.bind (laws_toEmergency_ev x (by have := le_sum n143 hx; omega)) ?_
    simp only [h3, if_true]
    exact hr

theorem laws_eqIntS_refl (l : List Int) (h : l.length ≤ 2097152) : Ev (fun k => laws_eqIntS.f k l l) true := by
  unfold laws_eqIntS.f
  refine Ev.pos rfl ?_
  refine ev_walk l (fun k i => laws_eqIntS.l0 k l l i) true ?_ ?_
  · refine Ev.succ ?_
    simp only [laws_eqIntS.l0, Int.lt_irrefl, if_false]
    exact Ev.now _
  · intro i x hx hr
    have hi := lt_of_get hx
    have h1 : ((i : Int) < (l.length : Int)) = True := eq_true (by omega)
    have h2 : (0 ≤ (i : Int)) = True := eq_true (by omega)
    refine Ev.succ ?_
    simp only [laws_eqIntS.l0, h1, h2, if_true, rd_nat l i x hx, wr1 hi (by omega)]
    exact hr

theorem laws_eqPlan_refl (x : S62) (h : n62 x ≤ 2097152) : Ev (fun k => laws_eqPlan.f k x.f0 x.f1 x.f2 x.f0 x.f1 x.f2) true := by
  unfold n62 at h
  unfold laws_eqPlan.f
  simp only [if_true, bne_self_eq_false, Bool.false_eq_true, if_false]
  repeat (first | exact Ev.now _ | (refine Ev.bind (laws_eqIntS_refl _ (by omega)) ?_; simp only [if_true, bne_self_eq_false, Bool.false_eq_true, if_false]))

theorem laws_eqEmergency_refl (x : S144) (h : n144 x ≤ 2097152) : Ev (fun k => laws_eqEmergency.f k x.f0 x.f1 x.f2 x.f3 x.f4 x.f5 x.f0 x.f1 x.f2 x.f3 x.f4 x.f5) true := by
  unfold n144 at h
  unfold laws_eqEmergency.f
  simp only [if_true, bne_self_eq_false, Bool.false_eq_true, if_false]
  repeat (first | exact Ev.now _ | (refine Ev.bind (laws_eqIntS_refl _ (by omega)) ?_; simp only [if_true, bne_self_eq_false, Bool.false_eq_true, if_false]))

theorem laws_eqEmergencyS_refl (l : List (S144)) (h : l.length + (l.map n144).sum ≤ 2097152) : Ev (fun k => laws_eqEmergencyS.f k l l) true := by
  unfold laws_eqEmergencyS.f
  refine Ev.pos rfl ?_
  refine ev_walk l (fun k i => laws_eqEmergencyS.l0 k l l i) true ?_ ?_
  · refine Ev.succ ?_
    simp only [laws_eqEmergencyS.l0, Int.lt_irrefl, if_false]
    exact Ev.now _
  · intro i x hx hr
    have hi := lt_of_get hx
    have h1 : ((i : Int) < (l.length : Int)) = True := eq_true (by omega)
    have h2 : (0 ≤ (i : Int)) = True := eq_true (by omega)
    refine Ev.succ ?_
    simp only [laws_eqEmergencyS.l0, h1, h2, if_true, rd_at_T144 hx, wr1 hi (by omega)]
    refine Ev.bind (laws_eqEmergency_refl x (by have := le_sum n144 hx; omega)) ?_
    simp only [if_true]
    exact hr

def hasI (l : List Int) (a : Int) : Bool := l.any (fun x => decide (a = x))
def underB (a b : List Int) : Bool := !(a.any fun x => !hasI b x)
theorem spec_l13Has_ev (l : List Int) (a : Int) (h : l.length ≤ 2097152) : Ev (fun k => spec_l13Has.f k l a) (hasI l a) := by
  unfold spec_l13Has.f hasI
  rw [← idxV_any]
  refine ev_idx l (fun x => decide (a = x)) (fun r => decide (r ≥ 0)) (fun k i => spec_l13Has.l0 k l a i) ?_ ?_
  · refine Ev.succ ?_
    simp only [spec_l13Has.l0, Int.lt_irrefl, if_false]
    exact Ev.now _
  · intro i x hx
    have hi := lt_of_get hx
    have h1 : ((i : Int) < (l.length : Int)) = True := eq_true (by omega)
    have h2 : (0 ≤ (i : Int)) = True := eq_true (by omega)
    constructor
    · intro c r hr
      have c' : ¬ x = a := fun e => of_decide_eq_false c e.symm
      refine Ev.succ ?_
      simp only [spec_l13Has.l0, h1, h2, if_true, rd_nat l i x hx, wr1 hi (by omega), if_neg c']
      exact hr
    · intro c
      have c' : x = a := (of_decide_eq_true c).symm
      refine Ev.succ ?_
      simp only [spec_l13Has.l0, h1, h2, if_true, rd_nat l i x hx, if_pos c', show decide ((i : Int) ≥ 0) = true from decide_eq_true (by omega)]
      exact Ev.now _

theorem spec_l1In_eq (a b c : Int) : spec_l1In.f a b c = some (inB a b c) := by
  unfold spec_l1In.f
  rw [ite_dand]; rfl

theorem spec_IsTime_eq (a : Int) : spec_IsTime.f a = some (timeB a) := by
  unfold spec_IsTime.f
  rw [spec_l1In_eq]; rfl

theorem spec_Min_eq (a b : Int) : spec_Min.f a b = some (if b < a then b else a) := by
  unfold spec_Min.f; split <;> rfl

def endB (a b : Int) : Int := if timeB a = true ∧ timeB b = true then (if 10000 < a + b then 10000 else a + b) else 0
theorem timeB_iff {t : Int} : timeB t = true ↔ 0 ≤ t ∧ t ≤ 10000 := inB_iff
theorem spec_EndOf_eq (a b : Int) : spec_EndOf.f a b = some (endB a b) := by
  unfold spec_EndOf.f endB
  simp only [spec_IsTime_eq, spec_Min_eq, Option.bind_some]
  by_cases c : timeB a = true
  · by_cases c2 : timeB b = true
    · have h1 := timeB_iff.1 c
      have h2 := timeB_iff.1 (show timeB b = true from c2)
      simp only [if_pos c, if_pos c2, if_pos (show timeB a = true ∧ timeB b = true from ⟨c, c2⟩), wr (x := a + b) (by omega) (by omega)]
      by_cases c3 : a + b < 10000
      · rw [if_pos c3, if_neg (by omega)]
      · rw [if_neg c3]; by_cases c4 : 10000 < a + b
        · rw [if_pos c4]
        · rw [if_neg c4]; congr 1; omega
    · simp only [if_pos c, if_neg c2, if_neg (show ¬ (timeB a = true ∧ timeB b = true) from fun h => c2 h.2)]
  · simp only [if_neg c, if_neg (show ¬ (timeB a = true ∧ timeB b = true) from fun h => c h.1)]

theorem spec_l30Under_ev (a b : List Int) (h : a.length ≤ 2097152) (hb : b.length ≤ 2097152) : Ev (fun k => spec_l30Under.f k a b) (underB a b) := by
  unfold spec_l30Under.f underB
  rw [← idxV_any]
  refine ev_idx a (fun x => !hasI b x) (fun r => !decide (r ≥ 0)) (fun k i => spec_l30Under.l0 k a b i) ?_ ?_
  · refine Ev.succ ?_
    simp only [spec_l30Under.l0, Int.lt_irrefl, if_false]
    exact Ev.now _
  · intro i x hx
    have hi := lt_of_get hx
    have h1 : ((i : Int) < (a.length : Int)) = True := eq_true (by omega)
    have h2 : (0 ≤ (i : Int)) = True := eq_true (by omega)
    constructor
    · intro c r hr
      have c' : hasI b x = true := by simpa using c
      refine Ev.succ ?_
      simp only [spec_l30Under.l0, h1, h2, if_true, rd_nat a i x hx, wr1 hi (by omega)]
      refine Ev.bind (spec_l13Has_ev b x hb) ?_
      simp only [c', if_true]
      exact hr
    · intro c
      have c' : hasI b x = false := by simpa using c
      refine Ev.succ ?_
      simp only [spec_l30Under.l0, h1, h2, if_true, rd_nat a i x hx, show decide ((i : Int) ≥ 0) = true from decide_eq_true (by omega)]
      refine Ev.bind (spec_l13Has_ev b x hb) ?_
      simp only [c', Bool.false_eq_true, if_false]
      exact Ev.now _

def debtStep (p : Int) (s : List Int) (x : S144) : List Int := if x.f1 = p then (if x.f5 = true then s else s ++ [x.f0]) else s
def debtV (l : List S144) (p : Int) : List Int := l.foldl (debtStep p) []
theorem debtStep_length (p : Int) (s : List Int) (x : S144) : (debtStep p s x).length ≤ s.length + 1 := by
  unfold debtStep
  split
  · split
    · omega
    · rw [List.length_append, List.length_singleton]; exact Nat.le_refl _
  · omega
theorem debtV_from (p : Int) : ∀ (l : List S144) (s : List Int), (l.foldl (debtStep p) s).length ≤ s.length + l.length
  | [], s => by simp
  | x :: l, s => by
    have h1 := debtV_from p l (debtStep p s x)
    have h2 := debtStep_length p s x
    simp only [List.foldl_cons, List.length_cons]
    omega
theorem debtV_length (l : List S144) (p : Int) : (debtV l p).length ≤ l.length := by
  have := debtV_from p l []
  rw [List.length_nil] at this
  unfold debtV
  omega
theorem spec_DebtsOf_ev (l : List S144) (p : Int) (h : l.length ≤ 2097152) : Ev (fun k => spec_DebtsOf.f k l p) (debtV l p) := by
  unfold spec_DebtsOf.f debtV
  refine ev_fold l (debtStep p) id (fun i s => s.length ≤ i) (fun k s i => spec_DebtsOf.l0 k l p s i) ?_ ?_ ?_ [] (by simp)
  · intro s _
    refine Ev.succ ?_
    simp only [spec_DebtsOf.l0, Int.lt_irrefl, if_false]
    exact Ev.now _
  · intro i x s hx hs
    have := debtStep_length p s x
    show (debtStep p s x).length ≤ i + 1
    omega
  · intro i x s r hx hs hr
    have hi := lt_of_get hx
    have hs' : s.length ≤ i := hs
    have h1 : ((i : Int) < (l.length : Int)) = True := eq_true (by omega)
    have h2 : (0 ≤ (i : Int)) = True := eq_true (by omega)
    have h3 : (s.length < 17592186044416) = True := eq_true (by omega)
    refine Ev.succ ?_
    simp only [spec_DebtsOf.l0, h1, h2, h3, if_true, rd_at_T144 hx, wr1 hi (by omega)]
    unfold debtStep at hr
    by_cases c : x.f1 = p
    · by_cases c2 : x.f5 = true
      · simp only [if_pos c, if_pos c2] at hr ⊢; exact hr
      · simp only [if_pos c, if_neg c2] at hr ⊢; exact hr
    · simp only [if_neg c] at hr ⊢; exact hr

theorem spec_IsName_eq (a : Int) : spec_IsName.f a = some (nameB a) := by
  unfold spec_IsName.f
  rw [spec_l1In_eq]; rfl

theorem spec_HasKind_eq (a b : Int) : spec_HasKind.f a b = some (kindB a b) := by
  unfold spec_HasKind.f kindB
  rw [spec_IsName_eq, Option.bind_some]
  cases h : nameB a with
  | true => simp only [if_true, name_div h, Bool.true_and]
  | false => rfl

def namesP (l : List Int) (kd : Int) (i : Nat) : Bool := kindB (rd l (i : Int)) kd && (decide (i = 0) || decide (rd l ((i - 1 : Nat) : Int) < rd l (i : Int)))
theorem spec_l33Names_ev (l : List Int) (kd : Int) (h : l.length ≤ 9223372036854775807) : Ev (fun k => spec_l33Names.f k l kd) (allN l.length (namesP l kd) && true) := by
  unfold spec_l33Names.f
  refine ev_all l.length (namesP l kd) true (fun k i => spec_l33Names.l0 k l kd i) ?_ ?_
  · refine Ev.succ ?_
    simp only [spec_l33Names.l0, Int.lt_irrefl, if_false]
    exact Ev.now _
  · intro i hi
    have h1 : ((i : Int) < (l.length : Int)) = True := eq_true (by omega)
    have h2 : (0 ≤ (i : Int)) = True := eq_true (by omega)
    constructor
    · intro hp r hr
      simp only [namesP, Bool.and_eq_true, Bool.or_eq_true, decide_eq_true_eq] at hp
      refine Ev.succ ?_
      simp only [spec_l33Names.l0, h1, h2, if_true, spec_HasKind_eq, Option.bind_some, hp.1, wr1 hi h]
      by_cases c : i = 0
      · exact Ev.neg (by omega) hr
      · simp only [if_pos (show (i : Int) > 0 by omega), wrm (show 0 < i by omega) (by omega), if_pos (show 0 ≤ ((i - 1 : Nat) : Int) by omega), if_pos (show ((i - 1 : Nat) : Int) < (l.length : Int) by omega)]
        exact Ev.neg (by have := hp.2; omega) hr
    · intro hp
      refine Ev.succ ?_
      simp only [spec_l33Names.l0, h1, h2, if_true, spec_HasKind_eq, Option.bind_some, wr1 hi h]
      cases c0 : kindB (rd l (i : Int)) kd with
      | false => exact Ev.now _
      | true =>
        simp only [namesP, c0, Bool.true_and, Bool.or_eq_false_iff, decide_eq_false_iff_not] at hp
        simp only [if_true, if_pos (show (i : Int) > 0 by omega), wrm (show 0 < i by omega) (by omega), if_pos (show 0 ≤ ((i - 1 : Nat) : Int) by omega), if_pos (show ((i - 1 : Nat) : Int) < (l.length : Int) by omega)]
        exact Ev.pos (by omega) (Ev.now _)

theorem spec_IsPlan_ev (l m : List Int) (s : Int) (h : l.length ≤ 9223372036854775807) (h' : m.length ≤ 9223372036854775807) : Ev (fun k => spec_IsPlan.f k l m s) ((allN l.length (namesP l 1) && true) && ((allN m.length (namesP m 4) && true) && inB s 0 10)) := by
  unfold spec_IsPlan.f
  refine Ev.bind (spec_l33Names_ev l 1 h) ?_
  cases (allN l.length (namesP l 1) && true) with
  | false => exact Ev.now _
  | true =>
    simp only [if_true, Bool.true_and]
    refine Ev.bind (spec_l33Names_ev m 4 h') ?_
    cases (allN m.length (namesP m 4) && true) with
    | false => exact Ev.now _
    | true => simp only [if_true, spec_l1In_eq, Option.bind_some, Bool.true_and]; exact Ev.now _

theorem debtV_count (p : Int) : ∀ (l : List S144) (s : List Int), (l.foldl (debtStep p) s).length = s.length + (l.filter fun x => decide (x.f1 = p) && !x.f5).length
  | [], s => by simp
  | x :: l, s => by
    rw [List.foldl_cons, debtV_count p l, List.filter_cons]
    unfold debtStep
    by_cases c : x.f1 = p
    · cases h : x.f5 with
      | true => simp [c]
      | false => simp [c]; omega
    · simp [c]
def cntD (l : List S144) (p : Int) : Nat := (l.filter fun x => decide (x.f1 = p) && !x.f5).length
theorem debtV_len (l : List S144) (p : Int) : (debtV l p).length = cntD l p := by
  unfold debtV cntD
  rw [debtV_count]
  simp
def emP (P O : List Int) (sp : Int) (l : List S144) (i : Nat) (x : S144) (c : Bool) : Bool :=
  decide (x.f0 = (i : Int) + 1) && (hasI P x.f1 && (timeB x.f2 && ((decide (i = 0) || !decide ((l.getD (i - 1) z144).f2 > x.f2)) && (decide (x.f3 = endB x.f2 sp) && (underB x.f4 O && c)))))
def emS (P O : List Int) (sp : Int) (l : List S144) (i : Nat) : Bool := emP P O sp l i (l.getD i z144) (!decide (((debtV l (l.getD i z144).f1).length : Int) > 1))
def emI (P O : List Int) (sp : Int) (l : List S144) (i : Nat) : Bool := emP P O sp l i (l.getD i z144) ((l.getD i z144).f5 || (((debtV (l.take i) (l.getD i z144).f1).length : Int) == 0))
theorem emP_and (P O : List Int) (sp : Int) (l : List S144) (i : Nat) (x : S144) (c : Bool) : emP P O sp l i x c = (emP P O sp l i x true && c) := by
  unfold emP
  cases decide (x.f0 = (i : Int) + 1) <;> cases hasI P x.f1 <;> cases timeB x.f2 <;> cases (decide (i = 0) || !decide ((l.getD (i - 1) z144).f2 > x.f2)) <;> cases decide (x.f3 = endB x.f2 sp) <;> cases underB x.f4 O <;> rfl
theorem cntD_take (l : List S144) (p : Int) (i : Nat) (hi : i < l.length) : cntD (l.take (i + 1)) p = cntD (l.take i) p + (if (l.getD i z144).f1 = p ∧ (l.getD i z144).f5 = false then 1 else 0) := by
  unfold cntD
  rw [List.take_succ_eq_append_getElem hi, List.filter_append, List.length_append, List.getD_eq_getElem?_getD, List.getElem?_eq_getElem hi, Option.getD_some]
  congr 1
  by_cases c : l[i].f1 = p
  · cases h : l[i].f5 <;> simp [c, h]
  · simp [c]
theorem cntD_le (l : List S144) (p : Int) (i : Nat) : cntD (l.take i) p ≤ cntD l p := by
  unfold cntD
  exact List.Sublist.length_le (List.Sublist.filter _ (List.take_sublist i l))
theorem em_iff (l : List S144) : (∀ i, i < l.length → cntD l (l.getD i z144).f1 ≤ 1) ↔ (∀ i, i < l.length → (l.getD i z144).f5 = true ∨ cntD (l.take i) (l.getD i z144).f1 = 0) := by
  constructor
  · intro h i hi
    have h1 := h i hi
    have h2 := cntD_take l (l.getD i z144).f1 i hi
    have h3 := cntD_le l (l.getD i z144).f1 (i + 1)
    cases e : (l.getD i z144).f5 with
    | true => exact .inl rfl
    | false => rw [if_pos ⟨rfl, e⟩] at h2; exact .inr (by omega)
  · intro h i hi
    have key : ∀ n, n ≤ l.length → ∀ p, cntD (l.take n) p ≤ 1 := by
      intro n
      induction n with
      | zero => intro _ p; simp [cntD]
      | succ n ih =>
        intro hn p
        have h1 := ih (by omega) p
        rw [cntD_take l p n (by omega)]
        by_cases c : (l.getD n z144).f1 = p ∧ (l.getD n z144).f5 = false
        · rw [if_pos c]
          rcases h n (by omega) with h2 | h2
          · rw [c.2] at h2; cases h2
          · rw [c.1] at h2; omega
        · rw [if_neg c]; omega
    have := key l.length (Nat.le_refl _) (l.getD i z144).f1
    rwa [List.take_length] at this
theorem em_all (P O : List Int) (sp : Int) (l : List S144) : allN l.length (emS P O sp l) = allN l.length (emI P O sp l) := by
  have hs : ∀ i, emS P O sp l i = true ↔ emP P O sp l i (l.getD i z144) true = true ∧ cntD l (l.getD i z144).f1 ≤ 1 := by
    intro i
    unfold emS
    rw [emP_and, Bool.and_eq_true, debtV_len]
    simp only [Bool.not_eq_true', decide_eq_false_iff_not]
    constructor <;> rintro ⟨a, b⟩ <;> exact ⟨a, by omega⟩
  have hi : ∀ i, emI P O sp l i = true ↔ emP P O sp l i (l.getD i z144) true = true ∧ ((l.getD i z144).f5 = true ∨ cntD (l.take i) (l.getD i z144).f1 = 0) := by
    intro i
    unfold emI
    rw [emP_and, Bool.and_eq_true, debtV_len, Bool.or_eq_true, beq_iff_eq]
    constructor <;> rintro ⟨a, b⟩ <;> exact ⟨a, b.imp id (fun h => by omega)⟩
  rw [Bool.eq_iff_iff, allN_iff, allN_iff]
  have e := em_iff l
  constructor
  · intro h i hl
    exact (hi i).2 ⟨((hs i).1 (h i hl)).1, e.1 (fun j hj => ((hs j).1 (h j hj)).2) i hl⟩
  · intro h i hl
    exact (hs i).2 ⟨((hi i).1 (h i hl)).1, e.2 (fun j hj => ((hi j).1 (h j hj)).2) i hl⟩
def planB (P O : List Int) (sp : Int) : Bool := (allN P.length (namesP P 1) && true) && ((allN O.length (namesP O 4) && true) && inB sp 0 10)
theorem spec_AreEmergencies_ev (P O : List Int) (sp : Int) (l : List S144) (hP : P.length ≤ 2097152) (hO : O.length ≤ 2097152) (h : l.length + (l.map n144).sum ≤ 2097152) : Ev (fun k => spec_AreEmergencies.f k P O sp l) (allN l.length (emS P O sp l) && (planB P O sp && decide ((l.length : Int) ≤ 8))) := by
  unfold spec_AreEmergencies.f
  refine ev_allI l.length (emS P O sp l) (fun k i => spec_AreEmergencies.l0 k l i P O sp) _ ?_ ?_
  · refine Ev.succ ?_
    simp only [spec_AreEmergencies.l0, Int.lt_irrefl, if_false]
    refine Ev.band (spec_IsPlan_ev P O sp (by omega) (by omega)) fun _ => Ev.now _
  · intro i hi r hr
    obtain ⟨x, hx⟩ := getAt hi
    have hn := le_sum n144 hx
    have en : n144 x = x.f4.length := rfl
    have h1 : ((i : Int) < (l.length : Int)) = True := eq_true (by omega)
    have h2 : (0 ≤ (i : Int)) = True := eq_true (by omega)
    have g1 : l.getD i z144 = x := by rw [List.getD_eq_getElem?_getD, hx]; rfl
    have rest : Ev (fun k => if x.f3 = endB x.f2 sp then ((spec_l30Under.f k x.f4 O).bind fun t => (if t = true then ((spec_DebtsOf.f k l x.f1).bind fun t => (if (t.length : Int) > 1 then (some false) else (spec_AreEmergencies.l0 k l ((i + 1 : Nat) : Int) P O sp))) else (some false))) else (some false)) (decide (x.f3 = endB x.f2 sp) && (underB x.f4 O && (!decide (((debtV l x.f1).length : Int) > 1) && r))) :=
      Ev.dand fun _ => Ev.band (spec_l30Under_ev x.f4 O (by omega) hO) fun _ => Ev.bind (spec_DebtsOf_ev l x.f1 (by omega)) (Ev.dnot fun _ => hr)
    unfold emS emP
    rw [g1]
    simp only [Bool.and_assoc]
    refine Ev.succ ?_
    simp only [spec_AreEmergencies.l0, h1, h2, if_true, rd_at_T144 hx, wr1 hi (by omega), spec_IsTime_eq, spec_EndOf_eq, Option.bind_some]
    refine Ev.dand fun _ => Ev.band (spec_l13Has_ev P x.f1 hP) fun _ => Ev.bifT fun _ => ?_
    by_cases c : i = 0
    · subst c
      rw [decide_eq_true rfl, Bool.true_or, Bool.true_and]
      exact Ev.neg (by omega) rest
    · obtain ⟨y, hy⟩ := getAt (l := l) (i := i - 1) (by omega)
      have g2 : l.getD (i - 1) z144 = y := by rw [List.getD_eq_getElem?_getD, hy]; rfl
      rw [decide_eq_false c, Bool.false_or, g2]
      refine Ev.pos (by omega) ?_
      simp only [wrm (show 0 < i by omega) (show i ≤ 9223372036854775807 by omega), rd_at_T144 hy]
      exact Ev.pos (by omega) (Ev.pos (by omega) (Ev.dnot fun _ => rest))

theorem foldl_snoc {α : Type} : ∀ (l s : List α), l.foldl (fun s x => s ++ [x]) s = s ++ l
  | [], s => by simp
  | x :: l, s => by rw [List.foldl_cons, foldl_snoc l]; simp
theorem spec_l33Copy_ev (l : List S144) (h : l.length + (l.map n144).sum ≤ 2097152) : Ev (fun k => spec_l33Copy.f k l) l := by
  unfold spec_l33Copy.f
  have e : l = l.foldl (fun s x => s ++ [x]) [] := by rw [foldl_snoc]; rfl
  conv => rhs; rw [e]
  refine ev_fold l (fun s x => s ++ [x]) id (fun i s => s.length = i) (fun k s i => spec_l33Copy.l0 k l s i) ?_ ?_ ?_ [] rfl
  · intro s _
    refine Ev.succ ?_
    simp only [spec_l33Copy.l0, Int.lt_irrefl, if_false]
    exact Ev.now _
  · intro i x s hx hs
    simp [hs]
  · intro i x s r hx hs hr
    have hi := lt_of_get hx
    have hn := le_sum n144 hx
    unfold n144 at hn
    have hs' : s.length = i := hs
    have h1 : ((i : Int) < (l.length : Int)) = True := eq_true (by omega)
    have h2 : (0 ≤ (i : Int)) = True := eq_true (by omega)
    have h3 : (s.length < 2199023255552) = True := eq_true (by omega)
    have h4 : (([] : List Int).length + x.f4.length < 17592186044416) = True := eq_true (by rw [List.length_nil]; unfold n144 at h; omega)
    refine Ev.succ ?_
    simp only [spec_l33Copy.l0, h1, h2, h3, h4, if_true, rd_at_T144 hx, wr1 hi (by omega), Option.bind_some, List.nil_append]
    exact hr

def declE (l : List S144) (p now sp : Int) : List S144 := l ++ [⟨(l.length : Int) + 1, p, now, endB now sp, [], false⟩]
def areB (P O : List Int) (sp : Int) (l : List S144) : Bool := allN l.length (emS P O sp l) && (planB P O sp && decide ((l.length : Int) ≤ 8))
def declV (P O : List Int) (sp : Int) (l : List S144) (p now : Int) : List S144 × Bool := if areB P O sp l = true ∧ areB P O sp (declE l p now sp) = true then (declE l p now sp, true) else (l, false)
theorem declE_size (l : List S144) (p now sp : Int) : (declE l p now sp).length + ((declE l p now sp).map n144).sum = l.length + (l.map n144).sum + 1 := by
  unfold declE
  rw [List.length_append, List.length_singleton, List.map_append, List.sum_append, List.map_cons, List.map_nil, List.sum_cons, List.sum_nil]
  unfold n144
  simp only [List.length_nil]
  omega
theorem declV_size (P O : List Int) (sp : Int) (l : List S144) (p now : Int) : (declV P O sp l p now).1.length + ((declV P O sp l p now).1.map n144).sum ≤ l.length + (l.map n144).sum + 1 := by
  unfold declV
  split
  · rw [declE_size]; exact Nat.le_refl _
  · show l.length + (l.map n144).sum ≤ _; omega
theorem spec_DeclareEmergency_ev (P O : List Int) (sp : Int) (l : List S144) (p now : Int) (hP : P.length ≤ 2097152) (hO : O.length ≤ 2097152) (h : l.length + (l.map n144).sum + 1 ≤ 2097152) : Ev (fun k => spec_DeclareEmergency.f k P O sp l p now) (declV P O sp l p now) := by
  unfold spec_DeclareEmergency.f declV
  refine Ev.bind (spec_l33Copy_ev l (by omega)) ?_
  simp only [spec_EndOf_eq, Option.bind_some]
  refine Ev.pos (by omega) ?_
  rw [wr (show (-9223372036854775808 : Int) ≤ (l.length : Int) + 1 by omega) (by omega)]
  have bad : Ev (fun k => (spec_l33Copy.f k l).bind fun t => some (t, false)) (l, false) := Ev.bind (spec_l33Copy_ev l (by omega)) (Ev.now _)
  refine Ev.bind (spec_AreEmergencies_ev P O sp l hP hO (by omega)) ?_
  change Ev (fun k => if areB P O sp l = true then ((spec_AreEmergencies.f k P O sp (declE l p now sp)).bind fun t => if t = true then some (declE l p now sp, true) else (spec_l33Copy.f k l).bind fun t => some (t, false)) else (spec_l33Copy.f k l).bind fun t => some (t, false)) _
  by_cases c : areB P O sp l = true
  · simp only [if_pos c]
    refine Ev.bind (spec_AreEmergencies_ev P O sp (declE l p now sp) hP hO (by rw [declE_size]; omega)) ?_
    change Ev (fun k => if areB P O sp (declE l p now sp) = true then some (declE l p now sp, true) else (spec_l33Copy.f k l).bind fun t => some (t, false)) _
    by_cases c2 : areB P O sp (declE l p now sp) = true
    · simp only [c, c2, and_self, if_true]; exact Ev.now _
    · simp only [c2, Bool.false_eq_true, and_false, if_false]; exact bad
  · simp only [if_neg c, c, Bool.false_eq_true, false_and, if_false]; exact bad

theorem slices_Index_int_int_ev (l : List Int) (a : Int) (h : l.length ≤ 2097152) : Ev (fun k => slices_Index_int_int.f k l a) (idxV (fun x => decide (a = x)) l 0) := by
  unfold slices_Index_int_int.f
  refine ev_idx l (fun x => decide (a = x)) id (fun k i => slices_Index_int_int.l0 k l a (l.length : Int) i) ?_ ?_
  · refine Ev.succ ?_
    simp only [slices_Index_int_int.l0, Int.lt_irrefl, if_false]
    exact Ev.now _
  · intro i x hx
    have hi := lt_of_get hx
    have h1 : ((i : Int) < (l.length : Int)) = True := eq_true (by omega)
    have h2 : (0 ≤ (i : Int)) = True := eq_true (by omega)
    constructor
    · intro c r hr
      have c' : ¬ a = x := of_decide_eq_false c
      refine Ev.succ ?_
      simp only [slices_Index_int_int.l0, h1, h2, if_true, rd_nat l i x hx, wr1 hi (by omega), if_neg c']
      exact hr
    · intro c
      have c' : a = x := of_decide_eq_true c
      refine Ev.succ ?_
      simp only [slices_Index_int_int.l0, h1, h2, if_true, rd_nat l i x hx, if_pos c']
      exact Ev.now _

theorem slices_Contains_int_int_ev (l : List Int) (a : Int) (h : l.length ≤ 2097152) : Ev (fun k => slices_Contains_int_int.f k l a) (hasI l a) := by
  unfold slices_Contains_int_int.f hasI
  rw [← idxV_any]
  exact Ev.bind (slices_Index_int_int_ev l a h) (Ev.now _)

theorem impl_InRange_eq (a b c : Int) : impl_InRange.f a b c = some (inB a b c) := by
  unfold impl_InRange.f
  rw [ite_dand]; rfl

theorem impl_IsTime_eq (a : Int) : impl_IsTime.f a = some (timeB a) := by
  unfold impl_IsTime.f
  rw [impl_InRange_eq]; rfl

theorem impl_EndOf_eq (a b : Int) : impl_EndOf.f a b = some (endB a b) := by
  unfold impl_EndOf.f endB
  simp only [impl_IsTime_eq, impl_InRange_eq, Option.bind_some]
  by_cases c : timeB a = true
  · by_cases c2 : inB b 0 10000 = true
    · have h1 := timeB_iff.1 c
      have h2 := timeB_iff.1 (show timeB b = true from c2)
      simp only [if_pos c, if_pos c2, if_pos (show timeB a = true ∧ timeB b = true from ⟨c, c2⟩), wr (x := a + b) (by omega) (by omega)]
      rfl
    · simp only [if_pos c, if_neg c2, if_neg (show ¬ (timeB a = true ∧ timeB b = true) from fun h => c2 h.2)]
  · simp only [if_neg c, if_neg (show ¬ (timeB a = true ∧ timeB b = true) from fun h => c h.1)]





theorem isEmergency1_ev (a : Int) (P O : List Int) (sp : Int) (h : O.length ≤ 2097152) : Ev (fun k => cl159.f k a P O sp) (!hasI O a) := by
  unfold cl159.f
  exact Ev.bind (slices_Contains_int_int_ev O a h) (Ev.now _)

theorem impl_DebtsOf_ev (l : List S144) (p : Int) (h : l.length ≤ 2097152) : Ev (fun k => impl_DebtsOf.f k l p) (debtV l p) := by
  unfold impl_DebtsOf.f debtV
  refine ev_fold l (debtStep p) id (fun i s => s.length ≤ i) (fun k s i => impl_DebtsOf.l0 k p s l (l.length : Int) i) ?_ ?_ ?_ [] (by simp)
  · intro s _
    refine Ev.succ ?_
    simp only [impl_DebtsOf.l0, Int.lt_irrefl, if_false]
    exact Ev.now _
  · intro i x s hx hs
    have := debtStep_length p s x
    show (debtStep p s x).length ≤ i + 1
    omega
  · intro i x s r hx hs hr
    have hi := lt_of_get hx
    have hs' : s.length ≤ i := hs
    have h1 : ((i : Int) < (l.length : Int)) = True := eq_true (by omega)
    have h2 : (0 ≤ (i : Int)) = True := eq_true (by omega)
    have h3 : (s.length < 17592186044416) = True := eq_true (by omega)
    refine Ev.succ ?_
    simp only [impl_DebtsOf.l0, h1, h2, h3, if_true, rd_at_T144 hx, wr1 hi (by omega)]
    unfold debtStep at hr
    by_cases c : x.f1 = p
    · by_cases c2 : x.f5 = true
      · simp only [if_pos c, if_pos c2] at hr ⊢; exact hr
      · simp only [if_pos c, if_neg c2] at hr ⊢; exact hr
    · simp only [if_neg c] at hr ⊢; exact hr

theorem impl_isEmergency_ev (P O : List Int) (sp : Int) (x : S144) (l : List S144) (hP : P.length ≤ 2097152) (hO : O.length ≤ 2097152) (hx : x.f4.length ≤ 2097152) (h : l.length ≤ 2097152) : Ev (fun k => impl_isEmergency.f k P O sp x.f0 x.f1 x.f2 x.f3 x.f4 x.f5 l) (emP P O sp l l.length x (x.f5 || (((debtV l x.f1).length : Int) == 0))) := by
  have rest : Ev (fun k => if x.f3 = endB x.f2 sp then ((Go.Proofs.YtplfbjbbnjlnkaaH.idxO (fun x => cl159.f k x P O sp) x.f4 0).bind fun t => (if t ≥ 0 then (some false) else (if x.f5 = true then (some true) else ((impl_DebtsOf.f k l x.f1).bind fun t => (some ((t.length : Int) == 0)))))) else (some false)) (decide (x.f3 = endB x.f2 sp) && (underB x.f4 O && (x.f5 || (((debtV l x.f1).length : Int) == 0)))) := by
    refine Ev.dand fun _ => ?_
    refine Ev.bind (ev_idxO _ (fun y => !hasI O y) x.f4 0 fun y _ => isEmergency1_ev y P O sp hO) ?_
    refine Ev.eqv (a := !decide (idxV (fun y => !hasI O y) x.f4 0 ≥ 0) && (x.f5 || (((debtV l x.f1).length : Int) == 0))) (by rw [idxV_any]; rfl) ?_
    exact Ev.dnot fun _ => Ev.bifN fun _ => Ev.bind (impl_DebtsOf_ev l x.f1 h) (Ev.now _)
  unfold impl_isEmergency.f emP
  rw [wr (show (-9223372036854775808 : Int) ≤ (l.length : Int) + 1 by omega) (by omega)]
  simp only [impl_IsTime_eq, impl_EndOf_eq, Option.bind_some]
  refine Ev.dand fun _ => Ev.band (slices_Contains_int_int_ev P x.f1 hP) fun _ => Ev.bifT fun _ => ?_
  by_cases c : l.length = 0
  · rw [decide_eq_true c, Bool.true_or, Bool.true_and]
    exact Ev.neg (by omega) rest
  · obtain ⟨y, hy⟩ := getAt (l := l) (i := l.length - 1) (by omega)
    have g2 : l.getD (l.length - 1) z144 = y := by rw [List.getD_eq_getElem?_getD, hy]; rfl
    rw [decide_eq_false c, Bool.false_or, g2]
    refine Ev.pos (by omega) ?_
    simp only [wrm (show 0 < l.length by omega) (show l.length ≤ 9223372036854775807 by omega), rd_at_T144 hy]
    exact Ev.pos (by omega) (Ev.pos (by omega) (Ev.dnot fun _ => rest))

/-- Strictly ascending, and all in a range. -/
def ascP (l : List Int) (a b : Int) (i : Nat) : Bool := inB (rd l (i : Int)) a b && (decide (i = 0) || decide (rd l ((i - 1 : Nat) : Int) < rd l (i : Int)))
theorem impl_isAscending_ev (l : List Int) (a b : Int) (h : l.length ≤ 9223372036854775807) : Ev (fun k => impl_isAscending.f k l a b) (allN l.length (ascP l a b) && true) := by
  unfold impl_isAscending.f
  refine ev_all l.length (ascP l a b) true (fun k i => impl_isAscending.l0 k l a b l (l.length : Int) i) ?_ ?_
  · refine Ev.succ ?_
    simp only [impl_isAscending.l0, Int.lt_irrefl, if_false]
    exact Ev.now _
  · intro i hi
    have h1 : ((i : Int) < (l.length : Int)) = True := eq_true (by omega)
    have h2 : (0 ≤ (i : Int)) = True := eq_true (by omega)
    constructor
    · intro hp r hr
      simp only [ascP, Bool.and_eq_true, Bool.or_eq_true, decide_eq_true_eq] at hp
      refine Ev.succ ?_
      simp only [impl_isAscending.l0, h1, h2, if_true, impl_InRange_eq, Option.bind_some, hp.1, wr1 hi h]
      by_cases c : i = 0
      · exact Ev.neg (by omega) hr
      · simp only [if_pos (show (i : Int) > 0 by omega), wrm (show 0 < i by omega) (by omega), if_pos (show 0 ≤ ((i - 1 : Nat) : Int) by omega), if_pos (show ((i - 1 : Nat) : Int) < (l.length : Int) by omega)]
        exact Ev.neg (by have := hp.2; omega) hr
    · intro hp
      refine Ev.succ ?_
      simp only [impl_isAscending.l0, h1, h2, if_true, impl_InRange_eq, Option.bind_some, wr1 hi h]
      cases c0 : inB (rd l (i : Int)) a b with
      | false => exact Ev.now _
      | true =>
        simp only [ascP, c0, Bool.true_and, Bool.or_eq_false_iff, decide_eq_false_iff_not] at hp
        simp only [if_true, if_pos (show (i : Int) > 0 by omega), wrm (show 0 < i by omega) (by omega), if_pos (show 0 ≤ ((i - 1 : Nat) : Int) by omega), if_pos (show ((i - 1 : Nat) : Int) < (l.length : Int) by omega)]
        exact Ev.pos (by omega) (Ev.now _)

theorem namesP_asc1 (l : List Int) : ascP l 10 19 = namesP l 1 := by
  funext i
  unfold ascP namesP
  congr 1
  rw [Bool.eq_iff_iff]
  simp only [kindB, nameB, inB, Bool.and_eq_true, decide_eq_true_eq, beq_iff_eq]
  omega
theorem namesP_asc4 (l : List Int) : ascP l 40 49 = namesP l 4 := by
  funext i
  unfold ascP namesP
  congr 1
  rw [Bool.eq_iff_iff]
  simp only [kindB, nameB, inB, Bool.and_eq_true, decide_eq_true_eq, beq_iff_eq]
  omega
theorem impl_IsPlan_ev (l m : List Int) (s : Int) (h : l.length ≤ 9223372036854775807) (h' : m.length ≤ 9223372036854775807) : Ev (fun k => impl_IsPlan.f k l m s) ((allN l.length (namesP l 1) && true) && ((allN m.length (namesP m 4) && true) && inB s 0 10)) := by
  unfold impl_IsPlan.f
  rw [← namesP_asc1, ← namesP_asc4]
  refine Ev.bind (impl_isAscending_ev l 10 19 h) ?_
  cases (allN l.length (ascP l 10 19) && true) with
  | false => exact Ev.now _
  | true =>
    simp only [if_true, Bool.true_and]
    refine Ev.bind (impl_isAscending_ev m 40 49 h') ?_
    cases (allN m.length (ascP m 40 49) && true) with
    | false => exact Ev.now _
    | true => simp only [if_true, impl_InRange_eq, Option.bind_some, Bool.true_and]; exact Ev.now _

theorem emI_take (P O : List Int) (sp : Int) (l : List S144) (i : Nat) (hi : i < l.length) (x : S144) (hx : l[i]? = some x) : emP P O sp (l.take i) (l.take i).length x (x.f5 || (((debtV (l.take i) x.f1).length : Int) == 0)) = emI P O sp l i := by
  have g1 : l.getD i z144 = x := by rw [List.getD_eq_getElem?_getD, hx]; rfl
  have e : (l.take i).length = i := by rw [List.length_take]; omega
  unfold emI emP
  rw [g1, e]
  by_cases c : i = 0
  · rw [decide_eq_true c]; rfl
  · rw [show (l.take i).getD (i - 1) z144 = l.getD (i - 1) z144 from by rw [List.getD_eq_getElem?_getD, List.getD_eq_getElem?_getD, List.getElem?_take, if_pos (by omega)]]
theorem impl_AreEmergencies_ev (P O : List Int) (sp : Int) (l : List S144) (hP : P.length ≤ 2097152) (hO : O.length ≤ 2097152) (h : l.length + (l.map n144).sum ≤ 2097152) : Ev (fun k => impl_AreEmergencies.f k P O sp l) (allN l.length (emS P O sp l) && (planB P O sp && decide ((l.length : Int) ≤ 8))) := by
  rw [em_all]
  unfold impl_AreEmergencies.f
  refine ev_allI l.length (emI P O sp l) (fun k i => impl_AreEmergencies.l0 k l l (l.length : Int) i P O sp) _ ?_ ?_
  · refine Ev.succ ?_
    simp only [impl_AreEmergencies.l0, Int.lt_irrefl, if_false]
    refine Ev.band (impl_IsPlan_ev P O sp (by omega) (by omega)) fun _ => Ev.now _
  · intro i hi r hr
    obtain ⟨x, hx⟩ := getAt hi
    have hn := le_sum n144 hx
    have en : n144 x = x.f4.length := rfl
    have h1 : ((i : Int) < (l.length : Int)) = True := eq_true (by omega)
    have h2 : (0 ≤ (i : Int)) = True := eq_true (by omega)
    have h3 : ((i : Int) ≤ (l.length : Int)) = True := eq_true (by omega)
    rw [← emI_take P O sp l i hi x hx]
    refine Ev.succ ?_
    simp only [impl_AreEmergencies.l0, h1, h2, h3, if_true, rd_at_T144 hx, wr1 hi (by omega), Int.toNat_natCast]
    exact Ev.band (impl_isEmergency_ev P O sp x (l.take i) hP hO (by omega) (by rw [List.length_take]; omega)) fun _ => hr

theorem impl_copyEmergencies_ev (l : List S144) (h : l.length + (l.map n144).sum ≤ 2097152) : Ev (fun k => impl_copyEmergencies.f k l) l := by
  unfold impl_copyEmergencies.f
  have e : l = l.foldl (fun s x => s ++ [x]) [] := by rw [foldl_snoc]; rfl
  conv => rhs; rw [e]
  refine ev_fold l (fun s x => s ++ [x]) id (fun i s => s.length = i) (fun k s i => impl_copyEmergencies.l0 k s l (l.length : Int) i) ?_ ?_ ?_ [] rfl
  · intro s _
    refine Ev.succ ?_
    simp only [impl_copyEmergencies.l0, Int.lt_irrefl, if_false]
    exact Ev.now _
  · intro i x s hx hs
    simp [hs]
  · intro i x s r hx hs hr
    have hi := lt_of_get hx
    have hn := le_sum n144 hx
    unfold n144 at hn
    have hs' : s.length = i := hs
    have h1 : ((i : Int) < (l.length : Int)) = True := eq_true (by omega)
    have h2 : (0 ≤ (i : Int)) = True := eq_true (by omega)
    have h3 : (s.length < 2199023255552) = True := eq_true (by omega)
    have h4 : (([] : List Int).length + x.f4.length < 17592186044416) = True := eq_true (by rw [List.length_nil]; unfold n144 at h; omega)
    refine Ev.succ ?_
    simp only [impl_copyEmergencies.l0, h1, h2, h3, h4, if_true, rd_at_T144 hx, wr1 hi (by omega), Option.bind_some, List.nil_append]
    exact hr

theorem impl_DeclareEmergency_ev (P O : List Int) (sp : Int) (l : List S144) (p now : Int) (hP : P.length ≤ 2097152) (hO : O.length ≤ 2097152) (h : l.length + (l.map n144).sum + 1 ≤ 2097152) : Ev (fun k => impl_DeclareEmergency.f k P O sp l p now) (declV P O sp l p now) := by
  unfold impl_DeclareEmergency.f declV
  refine Ev.bind (impl_copyEmergencies_ev l (by omega)) ?_
  simp only [impl_EndOf_eq, Option.bind_some]
  refine Ev.pos (by omega) ?_
  rw [wr (show (-9223372036854775808 : Int) ≤ (l.length : Int) + 1 by omega) (by omega)]
  have bad : Ev (fun k => (impl_copyEmergencies.f k l).bind fun t => some (t, false)) (l, false) := Ev.bind (impl_copyEmergencies_ev l (by omega)) (Ev.now _)
  refine Ev.bind (impl_AreEmergencies_ev P O sp l hP hO (by omega)) ?_
  change Ev (fun k => if areB P O sp l = true then ((impl_AreEmergencies.f k P O sp (declE l p now sp)).bind fun t => if t = true then some (declE l p now sp, true) else (impl_copyEmergencies.f k l).bind fun t => some (t, false)) else (impl_copyEmergencies.f k l).bind fun t => some (t, false)) _
  by_cases c : areB P O sp l = true
  · simp only [if_pos c]
    refine Ev.bind (impl_AreEmergencies_ev P O sp (declE l p now sp) hP hO (by rw [declE_size]; omega)) ?_
    change Ev (fun k => if areB P O sp (declE l p now sp) = true then some (declE l p now sp, true) else (impl_copyEmergencies.f k l).bind fun t => some (t, false)) _
    by_cases c2 : areB P O sp (declE l p now sp) = true
    · simp only [c, c2, and_self, if_true]; exact Ev.now _
    · simp only [c2, Bool.false_eq_true, and_false, if_false]; exact bad
  · simp only [if_neg c, c, Bool.false_eq_true, false_and, if_false]; exact bad

def mkI (x : Int) (n : Int) : Int × Int := (n, wrap64 (n + 1))
theorem mkI_up (x : Int) (n : Int) (h0 : 0 ≤ n) (h : n + (1 : Nat) ≤ 4611686018427387904) : (mkI x n).2 = n + (1 : Nat) := by
  have e0 : wrap64 (n + 1) = n + 1 := wr (by omega) (by omega)
  simp only [mkI, e0]
  omega
theorem laws_markIntS_ev (l : List Int) (h : l.length ≤ 9223372036854775807) (n : Int) : Ev (fun k => laws_markIntS.f k l n) ((acc mkI l n).2, (acc mkI l n).1) := by
  unfold laws_markIntS.f
  refine ev_mark mkI (fun k l n i => laws_markIntS.l0 k l n i) l.length ?_ ?_ l rfl n
  · intro l' n hl
    refine Ev.succ ?_
    simp only [laws_markIntS.l0, hl, Int.lt_irrefl, if_false]
    exact Ev.now _
  · intro l' i x n r hl hx hr
    have hi := lt_of_get hx
    have h1 : ((i : Int) < (l'.length : Int)) = True := eq_true (by omega)
    have h2 : (0 ≤ (i : Int)) = True := eq_true (by omega)
    refine Ev.succ ?_
    simp only [laws_markIntS.l0, h1, h2, if_true, wr1 hi (by omega), Int.toNat_natCast, Option.bind_some, List.set_set, rd, List.getD_eq_getElem?_getD, List.getElem?_set_self hi, Option.getD_some, hx]
    exact hr

theorem laws_markPlan_ev (l0 l1 : List Int) (a n : Int) (h0 : l0.length ≤ 9223372036854775807) (h1 : l1.length ≤ 9223372036854775807) : Ev (fun k => laws_markPlan.f k l0 l1 a n) ((acc mkI l1 (acc mkI l0 n).2).2, (acc mkI l0 n).1, (acc mkI l1 (acc mkI l0 n).2).1) := by
  unfold laws_markPlan.f
  refine Ev.bind (laws_markIntS_ev l0 h0 n) ?_
  refine Ev.bind (laws_markIntS_ev l1 h1 _) ?_
  exact Ev.now _

def mk144 (x : S144) (n : Int) : S144 × Int := ((⟨n, wrap64 (n + 1), wrap64 (wrap64 (n + 1) + 1), wrap64 (wrap64 (wrap64 (n + 1) + 1) + 1), (acc mkI x.f4 (wrap64 (wrap64 (wrap64 (wrap64 (n + 1) + 1) + 1) + 1))).1, Int.tmod ((acc mkI x.f4 (wrap64 (wrap64 (wrap64 (wrap64 (n + 1) + 1) + 1) + 1))).2) 3 == 0⟩ : S144), wrap64 ((acc mkI x.f4 (wrap64 (wrap64 (wrap64 (wrap64 (n + 1) + 1) + 1) + 1))).2 + 1))
theorem mk144_up (x : S144) (n : Int) (h0 : 0 ≤ n) (h : n + (5 + (x.f4.length) : Nat) ≤ 4611686018427387904) : (mk144 x n).2 = n + (5 + (x.f4.length) : Nat) := by
  have e0 : wrap64 (n + 1) = n + 1 := wr (by omega) (by omega)
  have e1 : wrap64 (n + 1 + 1) = n + 1 + 1 := wr (by omega) (by omega)
  have e2 : wrap64 (n + 1 + 1 + 1) = n + 1 + 1 + 1 := wr (by omega) (by omega)
  have e3 : wrap64 (n + 1 + 1 + 1 + 1) = n + 1 + 1 + 1 + 1 := wr (by omega) (by omega)
  have e4 : (acc mkI x.f4 (n + 1 + 1 + 1 + 1)).2 = (n + 1 + 1 + 1 + 1) + (x.f4.length : Nat) := by rw [acc_count mkI (fun _ => 1) 4611686018427387904 mkI_up _ _ (by omega) (by rw [sum_const]; omega), sum_const]; omega
  have e5 : wrap64 ((n + 1 + 1 + 1 + 1) + (x.f4.length : Nat) + 1) = (n + 1 + 1 + 1 + 1) + (x.f4.length : Nat) + 1 := wr (by omega) (by omega)
  simp only [mk144, e0, e1, e2, e3, e4, e5]
  omega
theorem laws_markEmergencyS_ev (l : List (S144)) (h : l.length + (l.map n144).sum ≤ 2097152) (n : Int) : Ev (fun k => laws_markEmergencyS.f k l n) ((acc mk144 l n).2, (acc mk144 l n).1) := by
  unfold laws_markEmergencyS.f
  refine ev_mark2 mk144 (fun k l n i => laws_markEmergencyS.l0 k l n i) l ?_ ?_ n
  · intro l' n hl
    refine Ev.succ ?_
    simp only [laws_markEmergencyS.l0, hl, Int.lt_irrefl, if_false]
    exact Ev.now _
  · intro l' i x n r hl hm hx hr
    have hi := lt_of_get hx
    have hn : n144 x ≤ 2097152 := by
      obtain ⟨j, hj⟩ := List.getElem?_of_mem hm
      have := le_sum n144 hj
      omega
    unfold n144 at hn
    have h1 : ((i : Int) < (l'.length : Int)) = True := eq_true (by omega)
    refine Ev.succ ?_
    simp only [laws_markEmergencyS.l0, h1, if_true, rd_at_T144 hx, wr1 hi (by omega), Int.toNat_natCast]
    refine Ev.bind (laws_markIntS_ev x.f4 (by omega) _) ?_
    exact hr

theorem laws_heldIntS_ev (l : List Int) (n : Int) (h0 : 0 ≤ n) (hB : n + ((l.map fun _ => 1).sum : Nat) ≤ 4611686018427387904) (h : l.length ≤ 9223372036854775807) : Ev (fun k => laws_heldIntS.f k (acc mkI l n).1 n) (acc mkI l n).2 := by
  unfold laws_heldIntS.f
  refine ev_held mkI (fun _ => 1) 4611686018427387904 mkI_up (fun k l n i => laws_heldIntS.l0 k l n i) l.length ?_ ?_ l rfl n h0 hB
  · intro l' n hl
    refine Ev.succ ?_
    simp only [laws_heldIntS.l0, hl, Int.lt_irrefl, if_false]
    exact Ev.now _
  · intro l' i x n r hl h0 hB hx hr
    have hi := lt_of_get hx
    have h1 : ((i : Int) < (l'.length : Int)) = True := eq_true (by omega)
    have h2 : (0 ≤ (i : Int)) = True := eq_true (by omega)
    refine Ev.succ ?_
    simp only [laws_heldIntS.l0, h1, h2, if_true, wr1 hi (by omega), rd_nat l' i _ hx]
    simp only [mkI, if_true]
    exact hr

theorem laws_heldEmergencyS_ev (l : List (S144)) (h : l.length + (l.map n144).sum ≤ 2097152) (n : Int) (h0 : 0 ≤ n) (hB : n + ((l.map fun x => 5 + (x.f4.length)).sum : Nat) ≤ 4611686018427387904) : Ev (fun k => laws_heldEmergencyS.f k (acc mk144 l n).1 n) (acc mk144 l n).2 := by
  unfold laws_heldEmergencyS.f
  refine ev_held2 mk144 (fun x => 5 + (x.f4.length)) 4611686018427387904 mk144_up (fun k l n i => laws_heldEmergencyS.l0 k l n i) l ?_ ?_ n h0 hB
  · intro l' n hl
    refine Ev.succ ?_
    simp only [laws_heldEmergencyS.l0, hl, Int.lt_irrefl, if_false]
    exact Ev.now _
  · intro l' i x n r hl hm h0 hB hx hr
    have hi := lt_of_get hx
    have hn : n144 x ≤ 2097152 := by
      obtain ⟨j, hj⟩ := List.getElem?_of_mem hm
      have := le_sum n144 hj
      omega
    unfold n144 at hn
    have h1 : ((i : Int) < (l'.length : Int)) = True := eq_true (by omega)
    have h2 : (0 ≤ (i : Int)) = True := eq_true (by omega)
    have e0 : wrap64 (n + 1) = n + 1 := wr (by omega) (by omega)
    have e1 : wrap64 (n + 1 + 1) = n + 1 + 1 := wr (by omega) (by omega)
    have e2 : wrap64 (n + 1 + 1 + 1) = n + 1 + 1 + 1 := wr (by omega) (by omega)
    have e3 : wrap64 (n + 1 + 1 + 1 + 1) = n + 1 + 1 + 1 + 1 := wr (by omega) (by omega)
    have e4 : (acc mkI x.f4 (n + 1 + 1 + 1 + 1)).2 = (n + 1 + 1 + 1 + 1) + (x.f4.length : Nat) := by rw [acc_count mkI (fun _ => 1) 4611686018427387904 mkI_up _ _ (by omega) (by rw [sum_const]; omega), sum_const]; omega
    have e5 : wrap64 ((n + 1 + 1 + 1 + 1) + (x.f4.length : Nat) + 1) = (n + 1 + 1 + 1 + 1) + (x.f4.length : Nat) + 1 := wr (by omega) (by omega)
    simp only [mk144, e0, e1, e2, e3, e4, e5] at hr
    refine Ev.succ ?_
    simp only [laws_heldEmergencyS.l0, h1, h2, if_true, wr1 hi (by omega), rd_at_T144 hx, mk144, e0, e1, e2, e3, e4, e5]
    refine Ev.bind (laws_heldIntS_ev x.f4 (n + 1 + 1 + 1 + 1) (by omega) (by rw [sum_const]; omega) (by omega)) ?_
    simp only [e0, e1, e2, e3, e4, e5]
    refine Ev.neg (by omega) ?_
    simp only [e0, e1, e2, e3, e4, e5, if_true, bne_self_eq_false, Bool.false_eq_true, if_false]
    exact hr

theorem FnExactDeclareEmergency : laws_FnExactDeclareEmergency.Pure := by
  intro p l pe now hp h1 h2 _ _
  refine Ev.rounds ?_
  unfold laws_FnExactDeclareEmergency.f
  obtain ⟨r, e, hr1, hr⟩ := laws_szPlan_le p hp 1048576 (by omega) (by omega)
  simp only [e, Option.bind_some]
  by_cases c : r < 0
  · simp only [if_pos c]; exact Ev.now _
  simp only [if_neg c]
  have hb := hr (by omega)
  obtain ⟨r2, e2, hr2, hr3⟩ := laws_szEmergencyS_le l h1 h2 r (by omega) (by omega)
  refine Ev.bind e2 ?_
  by_cases c2 : r2 < 0
  · simp only [if_pos c2]; exact Ev.now _
  simp only [if_neg c2]
  have hb2 := hr3 (by omega)
  have hs : ((l.map cv143).map n144).sum = (l.map n143).sum := by rw [List.map_map]; rfl
  have hm : (l.map cv143).length + ((l.map cv143).map n144).sum ≤ 1048576 := by rw [List.length_map, hs]; omega
  have hm0 : (l.map cv143).length + ((l.map cv143).map n144).sum ≤ 2097152 := by omega
  have hpl : n62 (cv57 p) ≤ 1048576 := by have : n62 (cv57 p) = n57 p := rfl; omega
  have hp0 : (cv57 p).f0.length ≤ 1048576 := by unfold n62 at hpl; omega
  have hp1 : (cv57 p).f1.length ≤ 1048576 := by unfold n62 at hpl; omega
  have hS := spec_DeclareEmergency_ev (cv57 p).f0 (cv57 p).f1 (cv57 p).f2 (l.map cv143) pe now (by omega) (by omega) (by omega)
  have hI := impl_DeclareEmergency_ev (cv57 p).f0 (cv57 p).f1 (cv57 p).f2 (l.map cv143) pe now (by omega) (by omega) (by omega)
  have hl := declV_size (cv57 p).f0 (cv57 p).f1 (cv57 p).f2 (l.map cv143) pe now
  generalize declV (cv57 p).f0 (cv57 p).f1 (cv57 p).f2 (l.map cv143) pe now = v at hS hI hl
  have hv : v.1.length + (v.1.map n144).sum ≤ 2097152 := by omega
  have u0 : (acc mkI (cv57 p).f0 1).2 = 1 + (((cv57 p).f0.map fun _ => 1).sum : Nat) := acc_count _ _ _ mkI_up _ 1 (by omega) (by rw [sum_const]; omega)
  rw [sum_const] at u0
  have u1 : (acc mkI (cv57 p).f1 (acc mkI (cv57 p).f0 1).2).2 = (acc mkI (cv57 p).f0 1).2 + (((cv57 p).f1.map fun _ => 1).sum : Nat) := acc_count _ _ _ mkI_up _ _ (by omega) (by rw [sum_const]; omega)
  rw [sum_const] at u1
  have hn1 : ((acc mk144 (l.map cv143) (acc mkI (cv57 p).f1 (acc mkI (cv57 p).f0 1).2).2).2 < 0) = False := acc_nonneg2 _ _ _ mk144_up _ _ (by omega) (by rw [sum_add]; unfold n144 at hm0; omega)
  have hn2 : ((acc mk144 v.1 1).2 < 0) = False := acc_nonneg _ _ _ mk144_up _ (by rw [sum_add]; unfold n144 at hv; omega)
  repeat (first
    | exact Ev.now _
    | ((first | refine Ev.bind (laws_toPlan_ev p (by omega)) ?_ | refine Ev.bind (laws_toEmergencyS_ev l (by omega)) ?_ | refine Ev.bind (hS) ?_ | refine Ev.bind (hI) ?_ | refine Ev.bind (laws_eqEmergencyS_refl _ (by omega)) ?_ | refine Ev.bind (laws_eqPlan_refl (cv57 p) (by omega)) ?_ | refine Ev.bind (laws_markPlan_ev _ _ _ _ (by omega) (by omega)) ?_ | refine Ev.bind (laws_markEmergencyS_ev _ (by omega) _) ?_ | refine Ev.bind (laws_heldEmergencyS_ev _ (by omega) 1 (by omega) (by rw [sum_add]; unfold n144 at hv; omega)) ?_); try simp only [if_true, if_false, bne_self_eq_false, Bool.false_eq_true, Bool.not_true, hn1, hn2])
    | simp only [if_true, if_false, bne_self_eq_false, Bool.false_eq_true, Bool.not_true, hn1, hn2])

end Go.Proofs.Ytplfbjbbnjlnkaa.Pure
