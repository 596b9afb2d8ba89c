/- The law FnExactFindSaved answers true for all arguments, over numbers and lists alone: what each function computes, and that program and reference compute the same. No condition. -/
import Derived.Test.YtijhppbhaaikmaaQFnExactFindSavedx6
import Derived.Test.YtijhppbhaaikmaaL
namespace Go.Proofs.Ytijhppbhaaikmaa.Pure
open Go.RowKit Go.Proofs.Ytijhppbhaaikmaa.QFnExactFindSaved Go.Proofs.YtijhppbhaaikmaaL Go.Proofs.YtijhppbhaaikmaaW.PrintWords Go.Proofs.YtijhppbhaaikmaaW.PrintLast
set_option linter.unusedVariables false
set_option linter.unusedSimpArgs false

def cv58 (x : S58) : S63 := ⟨x.f0, x.f1, x.f2, x.f3, x.f4, x.f5⟩
def cv113 (x : S113) : S110 := ⟨(cv58 x.f0), x.f1, x.f2⟩
theorem rd_at_T58 {l : List S58} {i : Nat} {x : S58} (h : l[i]? = some x) : rd_T58 l (i : Int) = x := getD_nat l _ i x h
theorem rd_at_T113 {l : List S113} {i : Nat} {x : S113} (h : l[i]? = some x) : rd_T113 l (i : Int) = x := getD_nat l _ i x h
theorem rd_at_T63 {l : List S63} {i : Nat} {x : S63} (h : l[i]? = some x) : rd_T63 l (i : Int) = x := getD_nat l _ i x h
theorem rd_at_T110 {l : List S110} {i : Nat} {x : S110} (h : l[i]? = some x) : rd_T110 l (i : Int) = x := getD_nat l _ i x h

theorem laws_szSavedS_le (l : List (S113)) (hl : l.length ≤ maxLen) (a : Int) (h0 : 0 ≤ a) (ha : a ≤ 1048576) : ∃ r, laws_szSavedS.f l a = some r ∧ r ≤ 1048576 ∧ (0 ≤ r → r + (l.length : Nat) ≤ a) := by
  unfold laws_szSavedS.f
  unfold maxLen at hl
  rw [wr (by omega) (by omega)]
  split
  · exact ⟨_, rfl, by omega, by omega⟩
  · exact ⟨_, rfl, by omega, by omega⟩

def sameQ (a q : S63) : Bool := a.f0 == q.f0 && (a.f1 == q.f1 && (a.f2 == q.f2 && (a.f3 == q.f3 && (a.f4 == q.f4))))
theorem spec_SameQuestion_eq (a q : S63) : spec_SameQuestion.f a.f0 a.f1 a.f2 a.f3 a.f4 a.f5 q.f0 q.f1 q.f2 q.f3 q.f4 q.f5 = some (sameQ a q) := by
  simp [spec_SameQuestion.f, spec_AtTime.f, sameQ]

def savedP (q : S63) (x : S110) : Bool := sameQ x.f0 q && (decide (x.f0.f5 ≤ q.f5) && decide (q.f5 ≤ x.f2))
theorem spec_FindSaved_ev (l : List S110) (q : S63) (h : l.length ≤ 1048576) : Ev (fun k => spec_FindSaved.f k l q.f0 q.f1 q.f2 q.f3 q.f4 q.f5) (idxV (savedP q) l 0) := by
  unfold spec_FindSaved.f
  refine ev_idx l (savedP q) id (fun k i => spec_FindSaved.l0 k l i q.f0 q.f1 q.f2 q.f3 q.f4 q.f5) ?_ ?_
  · refine Ev.succ ?_
    simp only [spec_FindSaved.l0, Int.lt_irrefl, if_false]
    exact Ev.now _
  · intro i x hx
    have hi := lt_of_get hx
    have h1 : ((i : Int) < (l.length : Int)) = True := eq_true (by omega)
    have h2 : (0 ≤ (i : Int)) = True := eq_true (by omega)
    refine ⟨fun hp r hr => ?_, fun hp => ?_⟩
    · refine Ev.succ ?_
      simp only [spec_FindSaved.l0, h1, h2, if_true, rd_at_T110 hx, wr1 hi (by omega), spec_SameQuestion_eq, Option.bind_some]
      unfold savedP at hp
      cases c : sameQ x.f0 q with
      | false => exact hr
      | true =>
        rw [c, Bool.true_and, Bool.and_eq_false_iff, decide_eq_false_iff_not, decide_eq_false_iff_not] at hp
        simp only [if_true]
        repeat' refine Ev.ite (fun c => ?_) (fun c => ?_)
        all_goals first | exact hr | (exfalso; omega)
    · refine Ev.succ ?_
      simp only [savedP, Bool.and_eq_true, decide_eq_true_eq] at hp
      simp only [spec_FindSaved.l0, h1, h2, if_true, rd_at_T110 hx, spec_SameQuestion_eq, Option.bind_some, hp.1, if_pos hp.2.1, if_pos hp.2.2]
      exact Ev.now _

theorem laws_toRequest_eq (x : S58) : laws_toRequest.f x.f0 x.f1 x.f2 x.f3 x.f4 x.f5 = some ((cv58 x).f0, (cv58 x).f1, (cv58 x).f2, (cv58 x).f3, (cv58 x).f4, (cv58 x).f5) := by
  unfold laws_toRequest.f
  first | rfl | (simp only [Option.bind_some]; rfl)

theorem laws_toSaved_eq (x : S113) : laws_toSaved.f x.f0.f0 x.f0.f1 x.f0.f2 x.f0.f3 x.f0.f4 x.f0.f5 x.f1 x.f2 = some ((cv113 x).f0.f0, (cv113 x).f0.f1, (cv113 x).f0.f2, (cv113 x).f0.f3, (cv113 x).f0.f4, (cv113 x).f0.f5, (cv113 x).f1, (cv113 x).f2) := by
  unfold laws_toSaved.f
  first | rfl | (simp only [Option.bind_some]; rfl)

theorem laws_toSavedS_ev (l : List (S113)) (h : l.length ≤ 1048576) : Ev (fun k => laws_toSavedS.f k l) (l.map cv113) := by
  unfold laws_toSavedS.f
  refine Ev.pos (by omega) (Ev.pos (by omega) ?_)
  refine ev_fill l cv113 (fun k out i => laws_toSavedS.l0 k l out i) ?_ ?_ _ (by simp)
  · intro out ho
    refine Ev.succ ?_
    simp only [laws_toSavedS.l0, Int.lt_irrefl, if_false]
    exact Ev.now _
  · intro i x out r hx ho hr
    have hi := lt_of_get hx
    have h1 : ((i : Int) < (l.length : Int)) = True := eq_true (by omega)
    have h2 : (0 ≤ (i : Int)) = True := eq_true (by omega)
    have h3 : ((i : Int) < (out.length : Int)) = True := eq_true (by omega)
    refine Ev.succ ?_
    simp only [laws_toSavedS.l0, h1, h2, h3, if_true, rd_at_T113 hx, wr1 hi (by omega), Int.toNat_natCast, laws_toSaved_eq x, Option.bind_some]
    exact hr

theorem impl_SameQuestion_eq (a q : S63) : impl_SameQuestion.f a.f0 a.f1 a.f2 a.f3 a.f4 a.f5 q.f0 q.f1 q.f2 q.f3 q.f4 q.f5 = some (sameQ a q) := by
  simp [impl_SameQuestion.f, impl_AtTime.f, sameQ]

theorem impl_FindSaved_eq (l : List S110) (q : S63) : impl_FindSaved.f l q.f0 q.f1 q.f2 q.f3 q.f4 q.f5 = some (idxV (savedP q) l 0) := by
  unfold impl_FindSaved.f
  rw [← idxO_total]
  congr 1
  funext x
  unfold cl87.p
  rw [impl_SameQuestion_eq, Option.bind_some, savedP]
  cases sameQ x.f0 q with
  | false => rfl
  | true =>
    simp only [if_true, Bool.true_and, ge_iff_le]
    by_cases c : x.f0.f5 ≤ q.f5
    · rw [if_pos c, decide_eq_true c]; simp
    · rw [if_neg c, decide_eq_false c]; rfl

theorem laws_eqRequest_refl (x : S63) : laws_eqRequest.f x.f0 x.f1 x.f2 x.f3 x.f4 x.f5 x.f0 x.f1 x.f2 x.f3 x.f4 x.f5 = some true := by
  unfold laws_eqRequest.f
  simp

theorem laws_eqSaved_refl (x : S110) : laws_eqSaved.f x.f0.f0 x.f0.f1 x.f0.f2 x.f0.f3 x.f0.f4 x.f0.f5 x.f1 x.f2 x.f0.f0 x.f0.f1 x.f0.f2 x.f0.f3 x.f0.f4 x.f0.f5 x.f1 x.f2 = some true := by
  unfold laws_eqSaved.f
  simp [laws_eqRequest_refl]

theorem laws_eqSavedS_refl (l : List (S110)) (h : l.length ≤ 1048576) : Ev (fun k => laws_eqSavedS.f k l l) true := by
  unfold laws_eqSavedS.f
  refine Ev.pos rfl ?_
  refine ev_walk l (fun k i => laws_eqSavedS.l0 k l l i) true ?_ ?_
  · refine Ev.succ ?_
    simp only [laws_eqSavedS.l0, Int.lt_irrefl, if_false]
    exact Ev.now _
  · intro i x hx hr
    have hi := lt_of_get hx
    have h1 : ((i : Int) < (l.length : Int)) = True := eq_true (by omega)
    have h2 : (0 ≤ (i : Int)) = True := eq_true (by omega)
    refine Ev.succ ?_
    simp only [laws_eqSavedS.l0, h1, h2, if_true, rd_at_T110 hx, wr1 hi (by omega), laws_eqSaved_refl x, Option.bind_some]
    exact hr

theorem FnExactFindSaved : laws_FnExactFindSaved.Pure := by
  intro l q h1 h2 _
  refine Ev.rounds ?_
  unfold laws_FnExactFindSaved.f
  obtain ⟨r, e, hr1, hr⟩ := laws_szSavedS_le l h1 1048576 (by omega) (by omega)
  simp only [e, Option.bind_some]
  by_cases c : r < 0
  · simp only [if_pos c]; exact Ev.now _
  simp only [if_neg c]
  have hb := hr (by omega)
  have hm : (l.map cv113).length ≤ 1048576 := by rw [List.length_map]; omega
  simp only [laws_toRequest_eq q, Option.bind_some, impl_FindSaved_eq]
  repeat (first
    | exact Ev.now _
    | ((first | refine Ev.bind (laws_toSavedS_ev l (by omega)) ?_ | refine Ev.bind (spec_FindSaved_ev _ (cv58 q) hm) ?_ | refine Ev.bind (laws_eqSavedS_refl _ hm) ?_); try simp only [if_true, if_false, bne_self_eq_false, Bool.false_eq_true]))

end Go.Proofs.Ytijhppbhaaikmaa.Pure
