/- The law FnExactMayActFor answers true for all arguments, over numbers and lists alone: what each function computes, and that program and reference compute the same. No condition. -/
import Derived.Test.YtplfbjbbnjlnkaaQFnExactMayActForx6
import Derived.Test.YtplfbjbbnjlnkaaL
namespace Go.Proofs.Ytplfbjbbnjlnkaa.Pure
open Go.RowKit Go.Proofs.Ytplfbjbbnjlnkaa.QFnExactMayActFor Go.Proofs.YtplfbjbbnjlnkaaL Go.Proofs.YtplfbjbbnjlnkaaW.PrintWords Go.Proofs.YtplfbjbbnjlnkaaW.PrintLast
set_option linter.unusedVariables false
set_option linter.unusedSimpArgs false

def cv48 (x : S48) : S51 := ⟨x.f0, x.f1, x.f2, x.f3, x.f4, x.f5, x.f6⟩
def n48 (x : S48) : Nat := x.f3.length
def n51 (x : S51) : Nat := x.f3.length
theorem rd_at_T48 {l : List S48} {i : Nat} {x : S48} (h : l[i]? = some x) : rd_T48 l (i : Int) = x := getD_nat l _ i x h
theorem rd_at_T51 {l : List S51} {i : Nat} {x : S51} (h : l[i]? = some x) : rd_T51 l (i : Int) = x := getD_nat l _ i x h
theorem ncv48 (x : S48) : n51 (cv48 x) = n48 x := by
  simp only [cv48, n51, n48, List.length_map, List.map_map, Function.comp_def]

theorem laws_szIntS_le (l : List Int) (hl : l.length ≤ maxLen) (a : Int) (h0 : 0 ≤ a) (ha : a ≤ 1048576) : ∃ r, laws_szIntS.f l a = some r ∧ r ≤ 1048576 ∧ (0 ≤ r → r + (l.length : Nat) ≤ a) := by
  unfold laws_szIntS.f
  unfold maxLen at hl
  rw [wr (by omega) (by omega)]
  split
  · exact ⟨_, rfl, by omega, by omega⟩
  · exact ⟨_, rfl, by omega, by omega⟩

theorem laws_szGrant_le (x : S48) (hg : g48 x) (a : Int) (h0 : 0 ≤ a) (ha : a ≤ 1048576) : ∃ r, laws_szGrant.f x.f0 x.f1 x.f2 x.f3 x.f4 x.f5 x.f6 a = some r ∧ r ≤ 1048576 ∧ (0 ≤ r → r + (n48 x : Nat) ≤ a) := by
  unfold g48 at hg
  unfold n48 laws_szGrant.f
  obtain ⟨r0, e0, b0, s0⟩ := laws_szIntS_le x.f3 (by have := hg; simp_all) a (by omega) (by omega)
  rw [e0]; simp only [Option.bind_some]
  by_cases c0 : r0 < 0
  · rw [if_pos c0]; exact ⟨_, rfl, by omega, by omega⟩
  rw [if_neg c0]
  have s0' := s0 (by omega)
  exact ⟨_, rfl, by omega, by omega⟩

theorem laws_szGrantS_le (l : List (S48)) (hl : l.length ≤ maxLen) (hg : ∀ y_ ∈ l, g48 y_) (a : Int) (h0 : 0 ≤ a) (ha : a ≤ 1048576) : ∃ r, Ev (fun k => laws_szGrantS.f k l a) r ∧ r ≤ 1048576 ∧ (0 ≤ r → r + (l.length + (l.map n48).sum : Nat) ≤ a) := by
  unfold laws_szGrantS.f
  unfold maxLen at hl
  rw [wr (by omega) (by omega)]
  by_cases c : a - (l.length : Int) < 0
  · simp only [if_pos c]; exact ⟨_, Ev.now _, by omega, by omega⟩
  simp only [if_neg c]
  have hend : ∀ a, Ev (fun k => laws_szGrantS.l0 k l a (l.length : Int)) a := by
    intro a
    refine Ev.succ ?_
    simp only [laws_szGrantS.l0, Int.lt_irrefl, if_false]
    exact Ev.now _
  have hstep : ∀ (i : Nat) (x : S48) (a : Int), l[i]? = some x → 0 ≤ a → a ≤ 1048576 → (∃ r, Ev (fun k => laws_szGrantS.l0 k l a (i : Int)) r ∧ r < 0) ∨ ∃ a', 0 ≤ a' ∧ a' + n48 x ≤ a ∧ ∀ r, Ev (fun k => laws_szGrantS.l0 k l a' ((i + 1 : Nat) : Int)) r → Ev (fun k => laws_szGrantS.l0 k l a (i : Int)) r := by
    intro i x a hx h0 ha
    have hi := lt_of_get hx
    have h1 : ((i : Int) < (l.length : Int)) = True := eq_true (by omega)
    have h2 : (0 ≤ (i : Int)) = True := eq_true (by omega)
    obtain ⟨r, e, b, s⟩ := laws_szGrant_le x (hg x (List.mem_of_getElem? hx)) a h0 ha
    by_cases c2 : r < 0
    · left
      refine ⟨-1, Ev.succ ?_, by omega⟩
      simp only [laws_szGrantS.l0, h1, h2, if_true, rd_at_T48 hx, e, Option.bind_some, if_pos c2]
      exact Ev.now _
    · right
      have s' := s (by omega)
      refine ⟨r, by omega, by omega, fun r' hr => Ev.succ ?_⟩
      simp only [laws_szGrantS.l0, h1, h2, if_true, rd_at_T48 hx, e, Option.bind_some, if_neg c2, wr1 hi (by omega)]
      exact hr
  obtain ⟨r, h1, h2, h3⟩ := ev_sz n48 l (fun k a i => laws_szGrantS.l0 k l a i) 1048576 hend hstep (a - l.length) (by omega) (by omega)
  exact ⟨r, h1, h2, fun h => by have := h3 h; omega⟩

theorem laws_toIntS_ev (l : List Int) (h : l.length ≤ 1048576) : Ev (fun k => laws_toIntS.f k l) l := by
  unfold laws_toIntS.f
  have e : l = l.map id := by simp
  conv => rhs; rw [e]
  refine Ev.pos (by omega) (Ev.pos (by omega) ?_)
  refine ev_fill l id (fun k out i => laws_toIntS.l0 k l out i) ?_ ?_ _ (by simp)
  · intro out ho
    refine Ev.succ ?_
    simp only [laws_toIntS.l0, Int.lt_irrefl, if_false]
    exact Ev.now _
  · intro i x out r hx ho hr
    have hi := lt_of_get hx
    have h1 : ((i : Int) < (l.length : Int)) = True := eq_true (by omega)
    have h2 : (0 ≤ (i : Int)) = True := eq_true (by omega)
    have h3 : ((i : Int) < (out.length : Int)) = True := eq_true (by omega)
    refine Ev.succ ?_
    simp only [laws_toIntS.l0, h1, h2, h3, if_true, rd_nat l i x hx, wr1 hi (by omega), Int.toNat_natCast]
    exact hr

theorem laws_toGrant_ev (x : S48) (h : n48 x ≤ 1048576) : Ev (fun k => laws_toGrant.f k x.f0 x.f1 x.f2 x.f3 x.f4 x.f5 x.f6) ((cv48 x).f0, (cv48 x).f1, (cv48 x).f2, (cv48 x).f3, (cv48 x).f4, (cv48 x).f5, (cv48 x).f6) := by
  unfold n48 at h
  unfold laws_toGrant.f
  repeat (first | exact Ev.now _ | (refine Ev.bind (laws_toIntS_ev _ (by omega)) ?_; try simp only []))

theorem laws_toGrantS_ev (l : List (S48)) (h : l.length + (l.map n48).sum ≤ 1048576) : Ev (fun k => laws_toGrantS.f k l) (l.map cv48) := by
  unfold laws_toGrantS.f
  refine Ev.pos (by omega) (Ev.pos (by omega) ?_)
  refine ev_fill l cv48 (fun k out i => laws_toGrantS.l0 k l out i) ?_ ?_ _ (by simp)
  · intro out ho
    refine Ev.succ ?_
    simp only [laws_toGrantS.l0, Int.lt_irrefl, if_false]
    exact Ev.now _
  · intro i x out r hx ho hr
    have hi := lt_of_get hx
    have h1 : ((i : Int) < (l.length : Int)) = True := eq_true (by omega)
    have h2 : (0 ≤ (i : Int)) = True := eq_true (by omega)
    have h3 : ((i : Int) < (out.length : Int)) = True := eq_true (by omega)
    refine Ev.succ ?_
    simp only [laws_toGrantS.l0, h1, h2, h3, if_true, rd_at_T48 hx, wr1 hi (by omega), Int.toNat_natCast]
    refine Ev.bind (laws_toGrant_ev x (by have := le_sum n48 hx; omega)) ?_
    simp only [h3, if_true]
    exact hr

theorem laws_eqIntS_refl (l : List Int) (h : l.length ≤ 1048576) : Ev (fun k => laws_eqIntS.f k l l) true := by
  unfold laws_eqIntS.f
  refine Ev.pos rfl ?_
  refine ev_walk l (fun k i => laws_eqIntS.l0 k l l i) true ?_ ?_
  · refine Ev.succ ?_
    simp only [laws_eqIntS.l0, Int.lt_irrefl, if_false]
    exact Ev.now _
  · intro i x hx hr
    have hi := lt_of_get hx
    have h1 : ((i : Int) < (l.length : Int)) = True := eq_true (by omega)
    have h2 : (0 ≤ (i : Int)) = True := eq_true (by omega)
    refine Ev.succ ?_
    simp only [laws_eqIntS.l0, h1, h2, if_true, rd_nat l i x hx, wr1 hi (by omega)]
    exact hr

theorem laws_eqGrant_refl (x : S51) (h : n51 x ≤ 1048576) : Ev (fun k => laws_eqGrant.f k x.f0 x.f1 x.f2 x.f3 x.f4 x.f5 x.f6 x.f0 x.f1 x.f2 x.f3 x.f4 x.f5 x.f6) true := by
  unfold n51 at h
  unfold laws_eqGrant.f
  simp only [if_true, bne_self_eq_false, Bool.false_eq_true, if_false]
  repeat (first | exact Ev.now _ | (refine Ev.bind (laws_eqIntS_refl _ (by omega)) ?_; simp only [if_true, bne_self_eq_false, Bool.false_eq_true, if_false]))

theorem laws_eqGrantS_refl (l : List (S51)) (h : l.length + (l.map n51).sum ≤ 1048576) : Ev (fun k => laws_eqGrantS.f k l l) true := by
  unfold laws_eqGrantS.f
  refine Ev.pos rfl ?_
  refine ev_walk l (fun k i => laws_eqGrantS.l0 k l l i) true ?_ ?_
  · refine Ev.succ ?_
    simp only [laws_eqGrantS.l0, Int.lt_irrefl, if_false]
    exact Ev.now _
  · intro i x hx hr
    have hi := lt_of_get hx
    have h1 : ((i : Int) < (l.length : Int)) = True := eq_true (by omega)
    have h2 : (0 ≤ (i : Int)) = True := eq_true (by omega)
    refine Ev.succ ?_
    simp only [laws_eqGrantS.l0, h1, h2, if_true, rd_at_T51 hx, wr1 hi (by omega)]
    refine Ev.bind (laws_eqGrant_refl x (by have := le_sum n51 hx; omega)) ?_
    simp only [if_true]
    exact hr

def hasI (l : List Int) (a : Int) : Bool := l.any (fun x => decide (a = x))
def underB (a b : List Int) : Bool := !(a.any fun x => !hasI b x)
theorem spec_l13Has_ev (l : List Int) (a : Int) (h : l.length ≤ 1048576) : Ev (fun k => spec_l13Has.f k l a) (hasI l a) := by
  unfold spec_l13Has.f hasI
  rw [← idxV_any]
  refine ev_idx l (fun x => decide (a = x)) (fun r => decide (r ≥ 0)) (fun k i => spec_l13Has.l0 k l a i) ?_ ?_
  · refine Ev.succ ?_
    simp only [spec_l13Has.l0, Int.lt_irrefl, if_false]
    exact Ev.now _
  · intro i x hx
    have hi := lt_of_get hx
    have h1 : ((i : Int) < (l.length : Int)) = True := eq_true (by omega)
    have h2 : (0 ≤ (i : Int)) = True := eq_true (by omega)
    constructor
    · intro c r hr
      have c' : ¬ x = a := fun e => of_decide_eq_false c e.symm
      refine Ev.succ ?_
      simp only [spec_l13Has.l0, h1, h2, if_true, rd_nat l i x hx, wr1 hi (by omega), if_neg c']
      exact hr
    · intro c
      have c' : x = a := (of_decide_eq_true c).symm
      refine Ev.succ ?_
      simp only [spec_l13Has.l0, h1, h2, if_true, rd_nat l i x hx, if_pos c', show decide ((i : Int) ≥ 0) = true from decide_eq_true (by omega)]
      exact Ev.now _

theorem spec_l1In_eq (a b c : Int) : spec_l1In.f a b c = some (inB a b c) := by
  unfold spec_l1In.f
  rw [ite_dand]; rfl

theorem spec_IsTime_eq (a : Int) : spec_IsTime.f a = some (timeB a) := by
  unfold spec_IsTime.f
  rw [spec_l1In_eq]; rfl

theorem spec_IsName_eq (a : Int) : spec_IsName.f a = some (nameB a) := by
  unfold spec_IsName.f
  rw [spec_l1In_eq]; rfl

theorem spec_HasKind_eq (a b : Int) : spec_HasKind.f a b = some (kindB a b) := by
  unfold spec_HasKind.f kindB
  rw [spec_IsName_eq, Option.bind_some]
  cases h : nameB a with
  | true => simp only [if_true, name_div h, Bool.true_and]
  | false => rfl

/-- The actions of a grant: in range, ascending. -/
def ascG (l : List Int) (i : Nat) : Bool := inB (rd l (i : Int)) 0 5 && (decide (i = 0) || decide (rd l ((i - 1 : Nat) : Int) < rd l (i : Int)))
/-- The grant at place i is in order. -/
def grX (x : S51) (i : Nat) : Bool := decide (x.f0 = (i : Int) + 1) && (kindB x.f1 1 && (kindB x.f2 1 && (!decide (x.f1 = x.f2) && (timeB x.f4 && (inB x.f5 0 (i : Int) && allN x.f3.length (ascG x.f3))))))
def grP (l : List S51) (i : Nat) : Bool := grX (rd_T51 l (i : Int)) i
def grantsB (l : List S51) : Bool := allN l.length (grP l) && decide ((l.length : Int) ≤ 12)
theorem spec_AreGrants_ev (l : List S51) (h : l.length + (l.map n51).sum ≤ 1048576) : Ev (fun k => spec_AreGrants.f k l) (grantsB l) := by
  unfold spec_AreGrants.f grantsB
  refine ev_all l.length (grP l) _ (fun k i => spec_AreGrants.l0 k l i) ?_ ?_
  · refine Ev.succ ?_
    simp only [spec_AreGrants.l0, Int.lt_irrefl, if_false]
    exact Ev.now _
  · intro i hi
    have h1 : ((i : Int) < (l.length : Int)) = True := eq_true (by omega)
    have h2 : (0 ≤ (i : Int)) = True := eq_true (by omega)
    have h3 := wr1 hi (show l.length ≤ 9223372036854775807 by omega)
    have h4 : wrap64 ((i : Int) + 1) = (i : Int) + 1 := by rw [h3]; omega
    obtain ⟨x, hx⟩ := getAt hi
    have hrd : rd_T51 l (i : Int) = x := rd_at_T51 hx
    have hn : x.f3.length ≤ 1048576 := by have := le_sum n51 hx; have e : n51 x = x.f3.length := rfl; omega
    have step : ∀ j, j < x.f3.length → (ascG x.f3 j = true → ∀ r, Ev (fun k => spec_AreGrants.l1 k l (i : Int) ((j + 1 : Nat) : Int) x.f0 x.f1 x.f2 x.f3 x.f4 x.f5 x.f6) r → Ev (fun k => spec_AreGrants.l1 k l (i : Int) (j : Int) x.f0 x.f1 x.f2 x.f3 x.f4 x.f5 x.f6) r) ∧ (ascG x.f3 j = false → Ev (fun k => spec_AreGrants.l1 k l (i : Int) (j : Int) x.f0 x.f1 x.f2 x.f3 x.f4 x.f5 x.f6) false) := by
      intro j hj
      have j1 : ((j : Int) < (x.f3.length : Int)) = True := eq_true (by omega)
      have j2 : (0 ≤ (j : Int)) = True := eq_true (by omega)
      have j3 := wr1 hj (show x.f3.length ≤ 9223372036854775807 by omega)
      constructor
      · intro hp r hr
        simp only [ascG, Bool.and_eq_true, Bool.or_eq_true, decide_eq_true_eq] at hp
        refine Ev.succ ?_
        simp only [spec_AreGrants.l1, j1, j2, if_true, spec_l1In_eq, Option.bind_some, hp.1, j3]
        by_cases c : j = 0
        · exact Ev.neg (by omega) hr
        · simp only [if_pos (show (j : Int) > 0 by omega), wrm (show 0 < j by omega) (by omega), if_pos (show 0 ≤ ((j - 1 : Nat) : Int) by omega), if_pos (show ((j - 1 : Nat) : Int) < (x.f3.length : Int) by omega)]
          exact Ev.neg (by have := hp.2; omega) hr
      · intro hp
        refine Ev.succ ?_
        simp only [spec_AreGrants.l1, j1, j2, if_true, spec_l1In_eq, Option.bind_some, j3]
        cases c0 : inB (rd x.f3 (j : Int)) 0 5 with
        | false => exact Ev.now _
        | true =>
          simp only [ascG, c0, Bool.true_and, Bool.or_eq_false_iff, decide_eq_false_iff_not] at hp
          simp only [if_true, if_pos (show (j : Int) > 0 by omega), wrm (show 0 < j by omega) (by omega), if_pos (show 0 ≤ ((j - 1 : Nat) : Int) by omega), if_pos (show ((j - 1 : Nat) : Int) < (x.f3.length : Int) by omega)]
          exact Ev.pos (by omega) (Ev.now _)
    have bad : Ev (fun k => spec_AreGrants.j1 k l (i : Int) true x.f0 x.f1 x.f2 x.f3 x.f4 x.f5 x.f6) false := by
      refine Ev.succ ?_
      simp only [spec_AreGrants.j1, if_true]
      exact Ev.now _
    have good : ∀ r, Ev (fun k => spec_AreGrants.l1 k l (i : Int) 0 x.f0 x.f1 x.f2 x.f3 x.f4 x.f5 x.f6) r → Ev (fun k => spec_AreGrants.j1 k l (i : Int) false x.f0 x.f1 x.f2 x.f3 x.f4 x.f5 x.f6) r := by
      intro r hr
      refine Ev.succ ?_
      simp only [spec_AreGrants.j1, Bool.false_eq_true, if_false]
      exact hr
    unfold grP
    rw [hrd]
    constructor
    · intro hp r hr
      simp only [grX, Bool.and_eq_true, Bool.not_eq_true', decide_eq_true_eq, decide_eq_false_iff_not] at hp
      obtain ⟨p1, p2, p3, p4, p5, p6, p7⟩ := hp
      refine Ev.succ ?_
      simp only [spec_AreGrants.l0, h1, h2, if_true, hrd, h4, if_pos p1, spec_HasKind_eq, spec_IsTime_eq, spec_l1In_eq, Option.bind_some, p2, p3, if_neg p4, p5, p6, Bool.not_true]
      refine good r (ev_allT x.f3.length (ascG x.f3) (fun k j => spec_AreGrants.l1 k l (i : Int) j x.f0 x.f1 x.f2 x.f3 x.f4 x.f5 x.f6) r p7 ?_ (fun j hj hpj hr' => (step j hj).1 hpj r hr'))
      refine Ev.succ ?_
      simp only [spec_AreGrants.l1, Int.lt_irrefl, if_false, h3]
      exact hr
    · intro hp
      refine Ev.succ ?_
      unfold grX at hp
      simp only [spec_AreGrants.l0, h1, h2, if_true, hrd, h4, spec_HasKind_eq, spec_IsTime_eq, spec_l1In_eq, Option.bind_some]
      by_cases c1 : x.f0 = (i : Int) + 1
      rotate_left
      · simp only [if_neg c1]; exact bad
      simp only [if_pos c1]
      cases c2 : kindB x.f1 1 with
      | false => simp only [Bool.false_eq_true, if_false]; exact bad
      | true =>
      cases c3 : kindB x.f2 1 with
      | false => simp only [Bool.false_eq_true, if_false, if_true]; exact bad
      | true =>
      by_cases c4 : x.f1 = x.f2
      · simp only [if_pos c4, if_true]; exact bad
      cases c5 : timeB x.f4 with
      | false => simp only [if_neg c4, Bool.false_eq_true, if_false, if_true]; exact bad
      | true =>
      cases c6 : inB x.f5 0 (i : Int) with
      | false => simp only [if_neg c4, Bool.not_false, if_true]; exact bad
      | true =>
      simp only [if_neg c4, Bool.not_true, if_true]
      have p7 : allN x.f3.length (ascG x.f3) = false := by
        simpa [c1, c2, c3, c4, c5, c6] using hp
      exact good _ (ev_allF x.f3.length (ascG x.f3) (fun k j => spec_AreGrants.l1 k l (i : Int) j x.f0 x.f1 x.f2 x.f3 x.f4 x.f5 x.f6) false p7 (fun j hj => ⟨fun hpj hr' => (step j hj).1 hpj _ hr', (step j hj).2⟩))

theorem spec_l30Under_ev (a b : List Int) (h : a.length ≤ 1048576) (hb : b.length ≤ 1048576) : Ev (fun k => spec_l30Under.f k a b) (underB a b) := by
  unfold spec_l30Under.f underB
  rw [← idxV_any]
  refine ev_idx a (fun x => !hasI b x) (fun r => !decide (r ≥ 0)) (fun k i => spec_l30Under.l0 k a b i) ?_ ?_
  · refine Ev.succ ?_
    simp only [spec_l30Under.l0, Int.lt_irrefl, if_false]
    exact Ev.now _
  · intro i x hx
    have hi := lt_of_get hx
    have h1 : ((i : Int) < (a.length : Int)) = True := eq_true (by omega)
    have h2 : (0 ≤ (i : Int)) = True := eq_true (by omega)
    constructor
    · intro c r hr
      have c' : hasI b x = true := by simpa using c
      refine Ev.succ ?_
      simp only [spec_l30Under.l0, h1, h2, if_true, rd_nat a i x hx, wr1 hi (by omega)]
      refine Ev.bind (spec_l13Has_ev b x hb) ?_
      simp only [c', if_true]
      exact hr
    · intro c
      have c' : hasI b x = false := by simpa using c
      refine Ev.succ ?_
      simp only [spec_l30Under.l0, h1, h2, if_true, rd_nat a i x hx, show decide ((i : Int) ≥ 0) = true from decide_eq_true (by omega)]
      refine Ev.bind (spec_l13Has_ev b x hb) ?_
      simp only [c', Bool.false_eq_true, if_false]
      exact Ev.now _

/-- The chain of a grant, for a number that is at most n. -/
def chainV (l : List S51) : Nat → Int → List Int
  | 0, _ => []
  | n + 1, id => if id ≤ 0 then [] else id :: chainV l n (rd_T51 l (id - 1)).f5
def chainB (l : List S51) (id : Int) : List Int := if grantsB l = true then (if inB id 1 (l.length : Int) = true then chainV l l.length id else []) else []
theorem grants_parent {l : List S51} (h : grantsB l = true) (id : Int) (h1 : 1 ≤ id) (h2 : id ≤ (l.length : Int)) : 0 ≤ (rd_T51 l (id - 1)).f5 ∧ (rd_T51 l (id - 1)).f5 ≤ id - 1 := by
  simp only [grantsB, Bool.and_eq_true] at h
  have h3 := (allN_iff _ _).1 h.1 (id - 1).toNat (by omega)
  have e : (((id - 1).toNat : Nat) : Int) = id - 1 := by omega
  simp only [grP, grX, Bool.and_eq_true, e] at h3
  exact inB_iff.1 h3.2.2.2.2.2.1
theorem chainV_in {l : List S51} (h : grantsB l = true) : ∀ (n : Nat) (id : Int), 0 ≤ id → id ≤ n → n ≤ l.length → ∀ y ∈ chainV l n id, 1 ≤ y ∧ y ≤ (l.length : Int)
  | 0, _, _, _, _, y, hy => by simp [chainV] at hy
  | n + 1, id, h0, h1, h2, y, hy => by
    unfold chainV at hy
    by_cases c : id ≤ 0
    · rw [if_pos c] at hy; simp at hy
    · rw [if_neg c] at hy
      rcases List.mem_cons.1 hy with rfl | hy
      · omega
      · have := grants_parent h id (by omega) (by omega)
        exact chainV_in h n _ this.1 (by omega) (by omega) y hy
theorem chainV_length (l : List S51) : ∀ (n : Nat) (id : Int), (chainV l n id).length ≤ n
  | 0, _ => by simp [chainV]
  | n + 1, id => by
    unfold chainV
    split
    · simp
    · have := chainV_length l n (rd_T51 l (id - 1)).f5
      simp; omega
theorem chainB_in (l : List S51) (id : Int) : ∀ y ∈ chainB l id, 1 ≤ y ∧ y ≤ (l.length : Int) := by
  unfold chainB
  by_cases c : grantsB l = true
  · rw [if_pos c]
    by_cases c2 : inB id 1 (l.length : Int) = true
    · rw [if_pos c2]
      have := inB_iff.1 c2
      exact chainV_in c l.length id (by omega) (by omega) (Nat.le_refl _)
    · rw [if_neg c2]; simp
  · rw [if_neg c]; simp
def goodV (l : List S51) (now : Int) : Nat → Int → Bool
  | 0, _ => false
  | n + 1, id => if (rd_T51 l (id - 1)).f6 = true then false else if now > (rd_T51 l (id - 1)).f4 then false else if (rd_T51 l (id - 1)).f5 = 0 then true else decide ((rd_T51 l (id - 1)).f1 = (rd_T51 l ((rd_T51 l (id - 1)).f5 - 1)).f2) && (underB (rd_T51 l (id - 1)).f3 (rd_T51 l ((rd_T51 l (id - 1)).f5 - 1)).f3 && goodV l now n (rd_T51 l (id - 1)).f5)
def goodB (l : List S51) (id now : Int) : Bool := grantsB l && (inB id 1 (l.length : Int) && (timeB now && goodV l now l.length id))
theorem rd_len {l : List S51} (h : l.length + (l.map n51).sum ≤ 1048576) (i : Int) (h0 : 0 ≤ i) (h1 : i < (l.length : Int)) : (rd_T51 l i).f3.length ≤ 1048576 := by
  obtain ⟨x, hx⟩ := getAt (l := l) (i := i.toNat) (by omega)
  have e : ((i.toNat : Nat) : Int) = i := by omega
  have e2 := rd_at_T51 hx
  rw [e] at e2
  have := le_sum n51 hx
  unfold n51 at this h
  rw [e2]; omega
theorem spec_good_loop (l : List S51) (hg : grantsB l = true) (h : l.length + (l.map n51).sum ≤ 1048576) (now : Int) : ∀ (n : Nat) (id : Int), 1 ≤ id → id ≤ n → n ≤ l.length → Ev (fun k => spec_l30Good.f k l id now) (goodV l now n id)
  | 0, id, h1, h2, _ => by omega
  | n + 1, id, h1, h2, h3 => by
    have hw : wrap64 (id - 1) = id - 1 := wr (by omega) (by omega)
    have hp := grants_parent hg id h1 (by omega)
    have e0 : inB id 1 (l.length : Int) = true := inB_iff.2 ⟨by omega, by omega⟩
    have e1 : (0 ≤ id - 1) = True := eq_true (by omega)
    have e2 : (id - 1 < (l.length : Int)) = True := eq_true (by omega)
    refine Ev.succ ?_
    simp only [spec_l30Good.f, spec_l1In_eq, Option.bind_some, e0, hw, e1, e2, if_true, goodV]
    have hl := rd_len h (id - 1) (by omega) (by omega)
    generalize hgr : rd_T51 l (id - 1) = g at hp hl ⊢
    by_cases c6 : g.f6 = true
    · simp only [if_pos c6]; exact Ev.now _
    · simp only [if_neg c6]
      by_cases c4 : now > g.f4
      · simp only [if_pos c4]; exact Ev.now _
      · simp only [if_neg c4]
        by_cases c5 : g.f5 = 0
        · simp only [if_pos c5]; exact Ev.now _
        · have hw2 : wrap64 (g.f5 - 1) = g.f5 - 1 := wr (by omega) (by omega)
          have e3 : (0 ≤ g.f5 - 1) = True := eq_true (by omega)
          have e4 : (g.f5 - 1 < (l.length : Int)) = True := eq_true (by omega)
          simp only [if_neg c5, hw2, e3, e4, if_true]
          have ih := spec_good_loop l hg h now n g.f5 (by omega) (by omega) (by omega)
          have hl2 := rd_len h (g.f5 - 1) (by omega) (by omega)
          generalize rd_T51 l (g.f5 - 1) = p at hl2 ⊢
          by_cases c7 : g.f1 = p.f2
          · simp only [if_pos c7, decide_eq_true c7, Bool.true_and]
            refine Ev.bind (spec_l30Under_ev g.f3 p.f3 hl hl2) ?_
            cases underB g.f3 p.f3 with
            | false => simp only [Bool.false_eq_true, if_false, Bool.false_and]; exact Ev.now _
            | true => simp only [if_true, Bool.true_and]; exact ih
          · simp only [if_neg c7, decide_eq_false c7, Bool.false_and]; exact Ev.now _
theorem spec_l30Good_ev (l : List S51) (hg : grantsB l = true) (h : l.length + (l.map n51).sum ≤ 1048576) (id now : Int) : Ev (fun k => spec_l30Good.f k l id now) (inB id 1 (l.length : Int) && goodV l now l.length id) := by
  cases c : inB id 1 (l.length : Int) with
  | false =>
    refine Ev.succ ?_
    simp only [spec_l30Good.f, spec_l1In_eq, Option.bind_some, c, Bool.false_eq_true, if_false, Bool.false_and]; exact Ev.now _
  | true =>
    have := inB_iff.1 c
    rw [Bool.true_and]
    exact spec_good_loop l hg h now l.length id (by omega) (by omega) (Nat.le_refl _)

theorem spec_IsGrantGood_ev (l : List S51) (id now : Int) (h : l.length + (l.map n51).sum ≤ 1048576) : Ev (fun k => spec_IsGrantGood.f k l id now) (goodB l id now) := by
  unfold spec_IsGrantGood.f goodB
  refine Ev.bind (spec_AreGrants_ev l h) ?_
  cases c : grantsB l with
  | false => simp only [Bool.false_eq_true, if_false, Bool.false_and]; exact Ev.now _
  | true =>
    simp only [if_true, spec_IsTime_eq, Option.bind_some, Bool.true_and]
    cases c2 : timeB now with
    | false => simp only [Bool.false_eq_true, if_false, Bool.false_and, Bool.and_false]; exact Ev.now _
    | true =>
      simp only [if_true, Bool.true_and]
      exact Ev.bind (spec_l30Good_ev l c h id now) (Ev.now _)

theorem spec_chain_loop (l : List S51) (hg : grantsB l = true) (h : l.length ≤ 1048576) : ∀ (n : Nat) (id : Int) (out : List Int), 0 ≤ id → id ≤ n → n ≤ l.length → out.length + n ≤ 2097152 → Ev (fun k => spec_ChainOf.l0 k l id out) (out ++ chainV l n id)
  | 0, id, out, h0, h1, _, _ => by
    refine Ev.succ ?_
    simp only [spec_ChainOf.l0, chainV, List.append_nil]
    exact Ev.neg (by omega) (Ev.now _)
  | n + 1, id, out, h0, h1, h2, h3 => by
    refine Ev.succ ?_
    simp only [spec_ChainOf.l0, chainV]
    by_cases c : id ≤ 0
    · simp only [if_pos c, List.append_nil]
      exact Ev.neg (by omega) (Ev.now _)
    · have hp := grants_parent hg id (by omega) (by omega)
      have hw : wrap64 (id - 1) = id - 1 := wr (by omega) (by omega)
      have ih := spec_chain_loop l hg h n (rd_T51 l (id - 1)).f5 (out ++ [id]) hp.1 (by omega) (by omega) (by simp; omega)
      rw [List.append_assoc] at ih
      simp only [hw, if_neg c]
      exact Ev.pos (by omega) (Ev.pos (by omega) (Ev.pos (by omega) (Ev.pos (by omega) ih)))
theorem spec_ChainOf_ev (l : List S51) (id : Int) (h : l.length + (l.map n51).sum ≤ 1048576) : Ev (fun k => spec_ChainOf.f k l id) (chainB l id) := by
  unfold spec_ChainOf.f chainB
  simp only [Option.bind_some]
  refine Ev.bind (spec_AreGrants_ev l h) ?_
  cases c : grantsB l with
  | false =>
    simp only [Bool.false_eq_true, if_false]
    refine Ev.succ ?_
    simp only [spec_ChainOf.j0, if_true]; exact Ev.now _
  | true =>
    simp only [if_true, spec_l1In_eq, Option.bind_some]
    refine Ev.succ ?_
    cases c2 : inB id 1 (l.length : Int) with
    | false => simp only [spec_ChainOf.j0, Bool.not_false, if_true, Bool.false_eq_true, if_false]; exact Ev.now _
    | true =>
      simp only [spec_ChainOf.j0, Bool.not_true, if_true, Bool.false_eq_true, if_false]
      have := inB_iff.1 c2
      exact spec_chain_loop l c (by omega) l.length id [] (by omega) (by omega) (Nat.le_refl _) (by simp; omega)

def rootV (l : List S51) (id : Int) : Int := if ((chainB l id).length : Int) = 0 then 0 else (rd_T51 l (rd (chainB l id) (((chainB l id).length : Int) - 1) - 1)).f1
theorem chainB_length (l : List S51) (id : Int) : (chainB l id).length ≤ l.length := by
  unfold chainB
  split
  · split
    · exact chainV_length l _ _
    · simp
  · simp
theorem chainB_last (l : List S51) (id : Int) (h : ¬ ((chainB l id).length : Int) = 0) : 1 ≤ rd (chainB l id) (((chainB l id).length : Int) - 1) ∧ rd (chainB l id) (((chainB l id).length : Int) - 1) ≤ (l.length : Int) := by
  obtain ⟨x, hx⟩ := getAt (l := chainB l id) (i := (chainB l id).length - 1) (by omega)
  have e : (((chainB l id).length - 1 : Nat) : Int) = ((chainB l id).length : Int) - 1 := by omega
  have e2 := rd_nat _ _ _ hx
  rw [e] at e2
  rw [e2]
  exact chainB_in l id x (List.mem_of_getElem? hx)
theorem spec_RootOf_ev (l : List S51) (id : Int) (h : l.length + (l.map n51).sum ≤ 1048576) : Ev (fun k => spec_RootOf.f k l id) (rootV l id) := by
  unfold spec_RootOf.f rootV
  refine Ev.bind (spec_ChainOf_ev l id h) ?_
  have hl := chainB_length l id
  by_cases c : ((chainB l id).length : Int) = 0
  · simp only [if_pos c]; exact Ev.now _
  · obtain ⟨h1, h2⟩ := chainB_last l id c
    have w1 : wrap64 (((chainB l id).length : Int) - 1) = ((chainB l id).length : Int) - 1 := wr (by omega) (by omega)
    have w2 : wrap64 (rd (chainB l id) (((chainB l id).length : Int) - 1) - 1) = rd (chainB l id) (((chainB l id).length : Int) - 1) - 1 := wr (by omega) (by omega)
    simp only [if_neg c, w1, w2]
    exact Ev.pos (by omega) (Ev.pos (by omega) (Ev.pos (by omega) (Ev.pos (by omega) (Ev.now _))))

def actV (l : List S51) (id p a t : Int) : Int := if goodB l id t = true then (if (rd_T51 l (id - 1)).f2 = p then (if hasI (rd_T51 l (id - 1)).f3 a = true then rootV l id else 0) else 0) else 0
theorem spec_MayActFor_ev (l : List S51) (id p a t : Int) (h : l.length + (l.map n51).sum ≤ 1048576) : Ev (fun k => spec_MayActFor.f k l id p a t) (actV l id p a t) := by
  unfold spec_MayActFor.f actV
  refine Ev.bind (spec_IsGrantGood_ev l id t h) ?_
  by_cases c : goodB l id t = true
  · have c' := c
    unfold goodB at c'
    simp only [Bool.and_eq_true] at c'
    have hi := inB_iff.1 c'.2.1
    have hw : wrap64 (id - 1) = id - 1 := wr (by omega) (by omega)
    have e1 : (0 ≤ id - 1) = True := eq_true (by omega)
    have e2 : (id - 1 < (l.length : Int)) = True := eq_true (by omega)
    simp only [if_pos c, hw, e1, e2, if_true]
    have hl := rd_len h (id - 1) (by omega) (by omega)
    by_cases c2 : (rd_T51 l (id - 1)).f2 = p
    · simp only [if_pos c2]
      refine Ev.bind (spec_l13Has_ev _ a hl) ?_
      by_cases c3 : hasI (rd_T51 l (id - 1)).f3 a = true
      · simp only [if_pos c3]
        exact Ev.bind (spec_RootOf_ev l id h) (Ev.now _)
      · simp only [if_neg c3]; exact Ev.now _
    · simp only [if_neg c2]; exact Ev.now _
  · simp only [if_neg c]; exact Ev.now _

theorem impl_InRange_eq (a b c : Int) : impl_InRange.f a b c = some (inB a b c) := by
  unfold impl_InRange.f
  rw [ite_dand]; rfl

theorem impl_IsName_eq (a : Int) : impl_IsName.f a = some (nameB a) := by
  unfold impl_IsName.f
  rw [impl_InRange_eq]; rfl

theorem impl_KindOf_eq (a : Int) : impl_KindOf.f a = some (if nameB a = true then a / 10 else 0) := by
  unfold impl_KindOf.f
  rw [impl_IsName_eq, Option.bind_some]
  cases h : nameB a with
  | true => simp only [if_true, name_div h]
  | false => rfl

theorem impl_HasKind_eq (a b : Int) : impl_HasKind.f a b = some (kindB a b) := by
  unfold impl_HasKind.f kindB
  rw [impl_IsName_eq, impl_KindOf_eq, Option.bind_some]
  cases h : nameB a with
  | true => simp only [if_true, Option.bind_some, Bool.true_and]
  | false => rfl

theorem impl_IsTime_eq (a : Int) : impl_IsTime.f a = some (timeB a) := by
  unfold impl_IsTime.f
  rw [impl_InRange_eq]; rfl

/-- Strictly ascending, and all in a range. -/
def ascP (l : List Int) (a b : Int) (i : Nat) : Bool := inB (rd l (i : Int)) a b && (decide (i = 0) || decide (rd l ((i - 1 : Nat) : Int) < rd l (i : Int)))
theorem impl_isAscending_ev (l : List Int) (a b : Int) (h : l.length ≤ 9223372036854775807) : Ev (fun k => impl_isAscending.f k l a b) (allN l.length (ascP l a b) && true) := by
  unfold impl_isAscending.f
  refine ev_all l.length (ascP l a b) true (fun k i => impl_isAscending.l0 k l a b l (l.length : Int) i) ?_ ?_
  · refine Ev.succ ?_
    simp only [impl_isAscending.l0, Int.lt_irrefl, if_false]
    exact Ev.now _
  · intro i hi
    have h1 : ((i : Int) < (l.length : Int)) = True := eq_true (by omega)
    have h2 : (0 ≤ (i : Int)) = True := eq_true (by omega)
    constructor
    · intro hp r hr
      simp only [ascP, Bool.and_eq_true, Bool.or_eq_true, decide_eq_true_eq] at hp
      refine Ev.succ ?_
      simp only [impl_isAscending.l0, h1, h2, if_true, impl_InRange_eq, Option.bind_some, hp.1, wr1 hi h]
      by_cases c : i = 0
      · exact Ev.neg (by omega) hr
      · simp only [if_pos (show (i : Int) > 0 by omega), wrm (show 0 < i by omega) (by omega), if_pos (show 0 ≤ ((i - 1 : Nat) : Int) by omega), if_pos (show ((i - 1 : Nat) : Int) < (l.length : Int) by omega)]
        exact Ev.neg (by have := hp.2; omega) hr
    · intro hp
      refine Ev.succ ?_
      simp only [impl_isAscending.l0, h1, h2, if_true, impl_InRange_eq, Option.bind_some, wr1 hi h]
      cases c0 : inB (rd l (i : Int)) a b with
      | false => exact Ev.now _
      | true =>
        simp only [ascP, c0, Bool.true_and, Bool.or_eq_false_iff, decide_eq_false_iff_not] at hp
        simp only [if_true, if_pos (show (i : Int) > 0 by omega), wrm (show 0 < i by omega) (by omega), if_pos (show 0 ≤ ((i - 1 : Nat) : Int) by omega), if_pos (show ((i - 1 : Nat) : Int) < (l.length : Int) by omega)]
        exact Ev.pos (by omega) (Ev.now _)

theorem impl_AreGrants_ev (l : List S51) (h : l.length + (l.map n51).sum ≤ 1048576) : Ev (fun k => impl_AreGrants.f k l) (grantsB l) := by
  unfold impl_AreGrants.f grantsB
  refine ev_all l.length (grP l) _ (fun k i => impl_AreGrants.l0 k l l (l.length : Int) i) ?_ ?_
  · refine Ev.succ ?_
    simp only [impl_AreGrants.l0, Int.lt_irrefl, if_false]
    exact Ev.now _
  · intro i hi
    have h1 : ((i : Int) < (l.length : Int)) = True := eq_true (by omega)
    have h2 : (0 ≤ (i : Int)) = True := eq_true (by omega)
    have h3 := wr1 hi (show l.length ≤ 9223372036854775807 by omega)
    have h4 : wrap64 ((i : Int) + 1) = (i : Int) + 1 := by rw [h3]; omega
    obtain ⟨x, hx⟩ := getAt hi
    have hrd : rd_T51 l (i : Int) = x := rd_at_T51 hx
    have hn : x.f3.length ≤ 1048576 := by have := le_sum n51 hx; have e : n51 x = x.f3.length := rfl; omega
    have hasc : Ev (fun k => impl_isAscending.f k x.f3 0 5) (allN x.f3.length (ascG x.f3)) := by
      have := impl_isAscending_ev x.f3 0 5 (by omega)
      rwa [Bool.and_true] at this
    unfold grP
    rw [hrd]
    have key : ∀ r, (grX x i = true → Ev (fun k => impl_AreGrants.l0 k l l (l.length : Int) ((i + 1 : Nat) : Int)) r) → Ev (fun k => impl_AreGrants.l0 k l l (l.length : Int) (i : Int)) (if grX x i = true then r else false) := by
      intro r hr
      refine Ev.succ ?_
      unfold grX at hr ⊢
      simp only [impl_AreGrants.l0, h1, h2, if_true, hrd, h3, impl_HasKind_eq, impl_IsTime_eq, impl_InRange_eq, Option.bind_some]
      by_cases c1 : x.f0 = ((i + 1 : Nat) : Int)
      rotate_left
      · have d1 : decide (x.f0 = (i : Int) + 1) = false := decide_eq_false (by omega)
        simp only [if_neg c1, d1, Bool.false_and, Bool.false_eq_true, if_false]; exact Ev.now _
      have d1 : decide (x.f0 = (i : Int) + 1) = true := decide_eq_true (by omega)
      simp only [d1, Bool.true_and] at hr
      simp only [if_pos c1, d1, Bool.true_and]
      cases c2 : kindB x.f1 1 with
      | false => simp only [Bool.false_and, Bool.false_eq_true, if_false]; exact Ev.now _
      | true =>
      cases c3 : kindB x.f2 1 with
      | false => simp only [Bool.true_and, Bool.false_and, Bool.false_eq_true, if_false, if_true]; exact Ev.now _
      | true =>
      by_cases c4 : x.f1 = x.f2
      · simp only [if_pos c4, decide_eq_true c4, Bool.not_true, Bool.true_and, Bool.false_and, Bool.false_eq_true, if_false, if_true]; exact Ev.now _
      simp only [if_neg c4, decide_eq_false c4, Bool.not_false, Bool.true_and, if_true]
      refine Ev.bind hasc ?_
      simp only [c2, c3, c4, decide_false, Bool.not_false, Bool.true_and] at hr
      cases c7 : allN x.f3.length (ascG x.f3) with
      | false => simp only [Bool.and_false, Bool.false_eq_true, if_false]; exact Ev.now _
      | true =>
      cases c5 : timeB x.f4 with
      | false => simp only [Bool.false_and, Bool.false_eq_true, if_false, if_true]; exact Ev.now _
      | true =>
      cases c6 : inB x.f5 0 (i : Int) with
      | false => simp only [Bool.true_and, Bool.false_and, Bool.false_eq_true, if_false, if_true]; exact Ev.now _
      | true =>
      simp only [Bool.true_and, if_true]
      exact hr (by rw [c5, c6, c7]; rfl)
    constructor
    · intro hp r hr
      have := key r (fun _ => hr)
      rwa [if_pos hp] at this
    · intro hp
      have := key false (fun h => by rw [hp] at h; cases h)
      rwa [hp] at this

theorem impl_hasGrant_ev (l : List S51) (id : Int) (h : l.length + (l.map n51).sum ≤ 1048576) : Ev (fun k => impl_hasGrant.f k l id) (grantsB l && inB id 1 (l.length : Int)) := by
  unfold impl_hasGrant.f
  refine Ev.bind (impl_AreGrants_ev l h) ?_
  cases grantsB l with
  | false => exact Ev.now _
  | true => simp only [if_true, impl_InRange_eq, Option.bind_some, Bool.true_and]; exact Ev.now _

theorem impl_chain_loop (l : List S51) (hg : grantsB l = true) (h : l.length ≤ 1048576) : ∀ (n : Nat) (id : Int) (out : List Int), 0 ≤ id → id ≤ n → n ≤ l.length → out.length + n ≤ 2097152 → Ev (fun k => impl_ChainOf.l0 k l id out) (out ++ chainV l n id)
  | 0, id, out, h0, h1, _, _ => by
    refine Ev.succ ?_
    simp only [impl_ChainOf.l0, chainV, List.append_nil]
    exact Ev.pos (by omega) (Ev.now _)
  | n + 1, id, out, h0, h1, h2, h3 => by
    refine Ev.succ ?_
    simp only [impl_ChainOf.l0, chainV]
    by_cases c : id ≤ 0
    · simp only [if_pos c, List.append_nil]
      exact Ev.pos (by omega) (Ev.now _)
    · have hp := grants_parent hg id (by omega) (by omega)
      have hw : wrap64 (id - 1) = id - 1 := wr (by omega) (by omega)
      have ih := impl_chain_loop l hg h n (rd_T51 l (id - 1)).f5 (out ++ [id]) hp.1 (by omega) (by omega) (by simp; omega)
      rw [List.append_assoc] at ih
      simp only [hw, if_neg c]
      exact Ev.neg (by omega) (Ev.pos (by omega) (Ev.pos (by omega) (Ev.pos (by omega) ih)))
theorem impl_ChainOf_ev (l : List S51) (id : Int) (h : l.length + (l.map n51).sum ≤ 1048576) : Ev (fun k => impl_ChainOf.f k l id) (chainB l id) := by
  unfold impl_ChainOf.f chainB
  simp only [Option.bind_some]
  refine Ev.bind (impl_hasGrant_ev l id h) ?_
  cases c : grantsB l with
  | false => simp only [Bool.false_and, Bool.false_eq_true, if_false]; exact Ev.now _
  | true =>
    cases c2 : inB id 1 (l.length : Int) with
    | false => simp only [Bool.true_and, if_true, Bool.false_eq_true, if_false]; exact Ev.now _
    | true =>
      simp only [Bool.true_and, if_true]
      have := inB_iff.1 c2
      exact impl_chain_loop l c (by omega) l.length id [] (by omega) (by omega) (Nat.le_refl _) (by simp; omega)

theorem impl_RootOf_ev (l : List S51) (id : Int) (h : l.length + (l.map n51).sum ≤ 1048576) : Ev (fun k => impl_RootOf.f k l id) (rootV l id) := by
  unfold impl_RootOf.f rootV
  refine Ev.bind (impl_ChainOf_ev l id h) ?_
  have hl := chainB_length l id
  by_cases c : ((chainB l id).length : Int) = 0
  · simp only [if_pos c]; exact Ev.now _
  · obtain ⟨h1, h2⟩ := chainB_last l id c
    have w1 : wrap64 (((chainB l id).length : Int) - 1) = ((chainB l id).length : Int) - 1 := wr (by omega) (by omega)
    have w2 : wrap64 (rd (chainB l id) (((chainB l id).length : Int) - 1) - 1) = rd (chainB l id) (((chainB l id).length : Int) - 1) - 1 := wr (by omega) (by omega)
    simp only [if_neg c, w1, w2]
    exact Ev.pos (by omega) (Ev.pos (by omega) (Ev.pos (by omega) (Ev.pos (by omega) (Ev.now _))))

theorem slices_Index_int_int_ev (l : List Int) (a : Int) (h : l.length ≤ 1048576) : Ev (fun k => slices_Index_int_int.f k l a) (idxV (fun x => decide (a = x)) l 0) := by
  unfold slices_Index_int_int.f
  refine ev_idx l (fun x => decide (a = x)) id (fun k i => slices_Index_int_int.l0 k l a (l.length : Int) i) ?_ ?_
  · refine Ev.succ ?_
    simp only [slices_Index_int_int.l0, Int.lt_irrefl, if_false]
    exact Ev.now _
  · intro i x hx
    have hi := lt_of_get hx
    have h1 : ((i : Int) < (l.length : Int)) = True := eq_true (by omega)
    have h2 : (0 ≤ (i : Int)) = True := eq_true (by omega)
    constructor
    · intro c r hr
      have c' : ¬ a = x := of_decide_eq_false c
      refine Ev.succ ?_
      simp only [slices_Index_int_int.l0, h1, h2, if_true, rd_nat l i x hx, wr1 hi (by omega), if_neg c']
      exact hr
    · intro c
      have c' : a = x := of_decide_eq_true c
      refine Ev.succ ?_
      simp only [slices_Index_int_int.l0, h1, h2, if_true, rd_nat l i x hx, if_pos c']
      exact Ev.now _

theorem slices_Contains_int_int_ev (l : List Int) (a : Int) (h : l.length ≤ 1048576) : Ev (fun k => slices_Contains_int_int.f k l a) (hasI l a) := by
  unfold slices_Contains_int_int.f hasI
  rw [← idxV_any]
  exact Ev.bind (slices_Index_int_int_ev l a h) (Ev.now _)

theorem under_ev (a b : List Int) (hb : b.length ≤ 1048576) : Ev (fun k => (Go.Proofs.YtplfbjbbnjlnkaaH.idxO (cl189.p k b) a 0).bind fun r => some (!(decide (r ≥ 0)))) (underB a b) := by
  unfold underB
  rw [← idxV_any]
  refine Ev.bind (ev_idxO (fun k x => cl189.p k b x) (fun x => !hasI b x) a 0 (fun x _ => ?_)) (Ev.now _)
  unfold cl189.p
  exact Ev.bind (slices_Contains_int_int_ev b x hb) (Ev.now _)
theorem impl_good_loop (l : List S51) (hg : grantsB l = true) (h : l.length + (l.map n51).sum ≤ 1048576) (now : Int) : ∀ (n : Nat) (id : Int), 1 ≤ id → id ≤ n → n ≤ l.length → Ev (fun k => impl_isGood.f k l id now) (timeB now && goodV l now n id)
  | 0, id, h1, h2, _ => by omega
  | n + 1, id, h1, h2, h3 => by
    have hw : wrap64 (id - 1) = id - 1 := wr (by omega) (by omega)
    have hp := grants_parent hg id h1 (by omega)
    have e1 : (0 ≤ id - 1) = True := eq_true (by omega)
    have e2 : (id - 1 < (l.length : Int)) = True := eq_true (by omega)
    refine Ev.succ ?_
    simp only [impl_isGood.f, impl_IsTime_eq, Option.bind_some, hw, e1, e2, if_true, goodV]
    have hl := rd_len h (id - 1) (by omega) (by omega)
    generalize hgr : rd_T51 l (id - 1) = g at hp hl ⊢
    by_cases c6 : g.f6 = true
    · simp only [if_pos c6, Bool.and_false]; exact Ev.now _
    · simp only [if_neg c6]
      cases ct : timeB now with
      | false => simp only [Bool.false_eq_true, if_false, Bool.false_and]; exact Ev.now _
      | true =>
        simp only [if_true, Bool.true_and]
        by_cases c4 : now > g.f4
        · simp only [if_pos c4]; exact Ev.now _
        · simp only [if_neg c4]
          by_cases c5 : g.f5 = 0
          · simp only [if_pos c5]; exact Ev.now _
          · have hw2 : wrap64 (g.f5 - 1) = g.f5 - 1 := wr (by omega) (by omega)
            have e3 : (0 ≤ g.f5 - 1) = True := eq_true (by omega)
            have e4 : (g.f5 - 1 < (l.length : Int)) = True := eq_true (by omega)
            simp only [if_neg c5, hw2, e3, e4, if_true]
            have ih := impl_good_loop l hg h now n g.f5 (by omega) (by omega) (by omega)
            rw [ct, Bool.true_and] at ih
            have hl2 := rd_len h (g.f5 - 1) (by omega) (by omega)
            generalize rd_T51 l (g.f5 - 1) = p at hl2 ⊢
            refine Ev.bind ih ?_
            cases goodV l now n g.f5 with
            | false => simp only [Bool.false_eq_true, if_false, Bool.and_false]; exact Ev.now _
            | true =>
              simp only [if_true, Bool.and_true]
              by_cases c7 : g.f1 = p.f2
              · simp only [if_pos c7, decide_eq_true c7, Bool.true_and]; exact under_ev g.f3 p.f3 hl2
              · simp only [if_neg c7, decide_eq_false c7, Bool.false_and]; exact Ev.now _

theorem impl_IsGrantGood_ev (l : List S51) (id now : Int) (h : l.length + (l.map n51).sum ≤ 1048576) : Ev (fun k => impl_IsGrantGood.f k l id now) (goodB l id now) := by
  unfold impl_IsGrantGood.f goodB
  refine Ev.bind (impl_hasGrant_ev l id h) ?_
  cases c : grantsB l with
  | false => simp only [Bool.false_and, Bool.false_eq_true, if_false]; exact Ev.now _
  | true =>
    cases c2 : inB id 1 (l.length : Int) with
    | false => simp only [Bool.true_and, Bool.false_and, Bool.false_eq_true, if_false]; exact Ev.now _
    | true =>
      simp only [Bool.true_and, if_true]
      have := inB_iff.1 c2
      exact Ev.bind (impl_good_loop l c h now l.length id (by omega) (by omega) (Nat.le_refl _)) (Ev.now _)

theorem impl_MayActFor_ev (l : List S51) (id p a t : Int) (h : l.length + (l.map n51).sum ≤ 1048576) : Ev (fun k => impl_MayActFor.f k l id p a t) (actV l id p a t) := by
  unfold impl_MayActFor.f actV
  refine Ev.bind (impl_IsGrantGood_ev l id t h) ?_
  by_cases c : goodB l id t = true
  · have c' := c
    unfold goodB at c'
    simp only [Bool.and_eq_true] at c'
    have hi := inB_iff.1 c'.2.1
    have hw : wrap64 (id - 1) = id - 1 := wr (by omega) (by omega)
    have e1 : (0 ≤ id - 1) = True := eq_true (by omega)
    have e2 : (id - 1 < (l.length : Int)) = True := eq_true (by omega)
    simp only [if_pos c, hw, e1, e2, if_true]
    have hl := rd_len h (id - 1) (by omega) (by omega)
    by_cases c2 : (rd_T51 l (id - 1)).f2 = p
    · simp only [if_pos c2]
      refine Ev.bind (slices_Contains_int_int_ev _ a hl) ?_
      by_cases c3 : hasI (rd_T51 l (id - 1)).f3 a = true
      · simp only [if_pos c3]
        exact Ev.bind (impl_RootOf_ev l id h) (Ev.now _)
      · simp only [if_neg c3]; exact Ev.now _
    · simp only [if_neg c2]; exact Ev.now _
  · simp only [if_neg c]; exact Ev.now _

theorem FnExactMayActFor : laws_FnExactMayActFor.Pure := by
  intro l id p a now h1 h2 _ _ _ _
  refine Ev.rounds ?_
  unfold laws_FnExactMayActFor.f
  obtain ⟨r, e, hr1, hr⟩ := laws_szGrantS_le l h1 h2 1048576 (by omega) (by omega)
  refine Ev.bind e ?_
  by_cases c : r < 0
  · simp only [if_pos c]; exact Ev.now _
  simp only [if_neg c]
  have hb := hr (by omega)
  have hs : ((l.map cv48).map n51).sum = (l.map n48).sum := by rw [List.map_map]; rfl
  have hm : (l.map cv48).length + ((l.map cv48).map n51).sum ≤ 1048576 := by rw [List.length_map, hs]; omega
  repeat (first
    | exact Ev.now _
    | ((first | refine Ev.bind (laws_toGrantS_ev l (by omega)) ?_ | refine Ev.bind (spec_MayActFor_ev _ id p a now hm) ?_ | refine Ev.bind (impl_MayActFor_ev _ id p a now hm) ?_ | refine Ev.bind (laws_eqGrantS_refl _ hm) ?_); try simp only [if_true, if_false, bne_self_eq_false, Bool.false_eq_true])
    | simp only [if_true, if_false, bne_self_eq_false, Bool.false_eq_true])

end Go.Proofs.Ytplfbjbbnjlnkaa.Pure
