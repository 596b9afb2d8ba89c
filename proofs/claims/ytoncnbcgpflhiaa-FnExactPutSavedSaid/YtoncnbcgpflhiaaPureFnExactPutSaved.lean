/- The law FnExactPutSaved answers true for all arguments, over numbers and lists alone: what each function computes, and that program and reference compute the same. No condition. -/
import Derived.Test.YtoncnbcgpflhiaaQFnExactPutSavedx5
import Derived.Test.YtoncnbcgpflhiaaL
namespace Go.Proofs.Ytoncnbcgpflhiaa.Pure
open Go.RowKit Go.Proofs.Ytoncnbcgpflhiaa.QFnExactPutSaved Go.Proofs.YtoncnbcgpflhiaaL Go.Proofs.YtoncnbcgpflhiaaW.PrintWords Go.Proofs.YtoncnbcgpflhiaaW.PrintLast
set_option linter.unusedVariables false
set_option linter.unusedSimpArgs false

def cv66 (x : S66) : S70 := ⟨x.f0, x.f1, x.f2, x.f3, x.f4, x.f5⟩
def cv68 (x : S68) : S72 := ⟨(cv66 x.f0), x.f1, x.f2⟩
theorem rd_at_T66 {l : List S66} {i : Nat} {x : S66} (h : l[i]? = some x) : rd_T66 l (i : Int) = x := getD_nat l _ i x h
theorem rd_at_T68 {l : List S68} {i : Nat} {x : S68} (h : l[i]? = some x) : rd_T68 l (i : Int) = x := getD_nat l _ i x h
theorem rd_at_T70 {l : List S70} {i : Nat} {x : S70} (h : l[i]? = some x) : rd_T70 l (i : Int) = x := getD_nat l _ i x h
theorem rd_at_T72 {l : List S72} {i : Nat} {x : S72} (h : l[i]? = some x) : rd_T72 l (i : Int) = x := getD_nat l _ i x h

theorem laws_szSavedS_le (l : List (S68)) (hl : l.length ≤ maxLen) (a : Int) (h0 : 0 ≤ a) (ha : a ≤ 1048576) : ∃ r, laws_szSavedS.f l a = some r ∧ r ≤ 1048576 ∧ (0 ≤ r → r + (l.length : Nat) ≤ a) := by
  unfold laws_szSavedS.f
  unfold maxLen at hl
  rw [wr (by omega) (by omega)]
  split
  · exact ⟨_, rfl, by omega, by omega⟩
  · exact ⟨_, rfl, by omega, by omega⟩

theorem laws_toRequest_eq (x : S66) : laws_toRequest.f x.f0 x.f1 x.f2 x.f3 x.f4 x.f5 = some ((cv66 x).f0, (cv66 x).f1, (cv66 x).f2, (cv66 x).f3, (cv66 x).f4, (cv66 x).f5) := by
  unfold laws_toRequest.f
  first | rfl | (simp only [Option.bind_some]; rfl)

theorem laws_toSaved_eq (x : S68) : laws_toSaved.f x.f0.f0 x.f0.f1 x.f0.f2 x.f0.f3 x.f0.f4 x.f0.f5 x.f1 x.f2 = some ((cv68 x).f0.f0, (cv68 x).f0.f1, (cv68 x).f0.f2, (cv68 x).f0.f3, (cv68 x).f0.f4, (cv68 x).f0.f5, (cv68 x).f1, (cv68 x).f2) := by
  unfold laws_toSaved.f
  first | rfl | (simp only [Option.bind_some]; rfl)

theorem laws_toSavedS_ev (l : List (S68)) (h : l.length ≤ 1048576) : Ev (fun k => laws_toSavedS.f k l) (l.map cv68) := by
  unfold laws_toSavedS.f
  refine Ev.pos (by omega) (Ev.pos (by omega) ?_)
  refine ev_fill l cv68 (fun k out i => laws_toSavedS.l0 k l out i) ?_ ?_ _ (by simp)
  · intro out ho
    refine Ev.succ ?_
    simp only [laws_toSavedS.l0, Int.lt_irrefl, if_false]
    exact Ev.now _
  · intro i x out r hx ho hr
    have hi := lt_of_get hx
    have h1 : ((i : Int) < (l.length : Int)) = True := eq_true (by omega)
    have h2 : (0 ≤ (i : Int)) = True := eq_true (by omega)
    have h3 : ((i : Int) < (out.length : Int)) = True := eq_true (by omega)
    refine Ev.succ ?_
    simp only [laws_toSavedS.l0, h1, h2, h3, if_true, rd_at_T68 hx, wr1 hi (by omega), Int.toNat_natCast, laws_toSaved_eq x, Option.bind_some]
    exact hr

theorem laws_eqRequest_refl (x : S70) : laws_eqRequest.f x.f0 x.f1 x.f2 x.f3 x.f4 x.f5 x.f0 x.f1 x.f2 x.f3 x.f4 x.f5 = some true := by
  unfold laws_eqRequest.f
  simp

theorem laws_eqSaved_refl (x : S72) : laws_eqSaved.f x.f0.f0 x.f0.f1 x.f0.f2 x.f0.f3 x.f0.f4 x.f0.f5 x.f1 x.f2 x.f0.f0 x.f0.f1 x.f0.f2 x.f0.f3 x.f0.f4 x.f0.f5 x.f1 x.f2 = some true := by
  unfold laws_eqSaved.f
  simp [laws_eqRequest_refl]

theorem laws_eqSavedS_refl (l : List (S72)) (h : l.length ≤ 1048576) : Ev (fun k => laws_eqSavedS.f k l l) true := by
  unfold laws_eqSavedS.f
  refine Ev.pos rfl ?_
  refine ev_walk l (fun k i => laws_eqSavedS.l0 k l l i) true ?_ ?_
  · refine Ev.succ ?_
    simp only [laws_eqSavedS.l0, Int.lt_irrefl, if_false]
    exact Ev.now _
  · intro i x hx hr
    have hi := lt_of_get hx
    have h1 : ((i : Int) < (l.length : Int)) = True := eq_true (by omega)
    have h2 : (0 ≤ (i : Int)) = True := eq_true (by omega)
    refine Ev.succ ?_
    simp only [laws_eqSavedS.l0, h1, h2, if_true, rd_at_T72 hx, wr1 hi (by omega), laws_eqSaved_refl x, Option.bind_some]
    exact hr

def mk72 (x : S72) (n : Int) : S72 × Int := ((⟨(⟨n, wrap64 (n + 1), wrap64 ((wrap64 (n + 1)) + 1), wrap64 ((wrap64 ((wrap64 (n + 1)) + 1)) + 1), wrap64 ((wrap64 ((wrap64 ((wrap64 (n + 1)) + 1)) + 1)) + 1), wrap64 ((wrap64 ((wrap64 ((wrap64 ((wrap64 (n + 1)) + 1)) + 1)) + 1)) + 1)⟩ : S70), wrap64 ((wrap64 ((wrap64 ((wrap64 ((wrap64 ((wrap64 (n + 1)) + 1)) + 1)) + 1)) + 1)) + 1), wrap64 ((wrap64 ((wrap64 ((wrap64 ((wrap64 ((wrap64 ((wrap64 (n + 1)) + 1)) + 1)) + 1)) + 1)) + 1)) + 1)⟩ : S72), wrap64 ((wrap64 ((wrap64 ((wrap64 ((wrap64 ((wrap64 ((wrap64 ((wrap64 (n + 1)) + 1)) + 1)) + 1)) + 1)) + 1)) + 1)) + 1))
theorem mk72_up (x : S72) (n : Int) (h0 : 0 ≤ n) (h : n + (8 : Nat) ≤ 4611686018427387904) : (mk72 x n).2 = n + (8 : Nat) := by
  have e0 : wrap64 (n + 1) = n + 1 := wr (by omega) (by omega)
  have e1 : wrap64 (n + 1 + 1) = n + 1 + 1 := wr (by omega) (by omega)
  have e2 : wrap64 (n + 1 + 1 + 1) = n + 1 + 1 + 1 := wr (by omega) (by omega)
  have e3 : wrap64 (n + 1 + 1 + 1 + 1) = n + 1 + 1 + 1 + 1 := wr (by omega) (by omega)
  have e4 : wrap64 (n + 1 + 1 + 1 + 1 + 1) = n + 1 + 1 + 1 + 1 + 1 := wr (by omega) (by omega)
  have e5 : wrap64 (n + 1 + 1 + 1 + 1 + 1 + 1) = n + 1 + 1 + 1 + 1 + 1 + 1 := wr (by omega) (by omega)
  have e6 : wrap64 (n + 1 + 1 + 1 + 1 + 1 + 1 + 1) = n + 1 + 1 + 1 + 1 + 1 + 1 + 1 := wr (by omega) (by omega)
  have e7 : wrap64 (n + 1 + 1 + 1 + 1 + 1 + 1 + 1 + 1) = n + 1 + 1 + 1 + 1 + 1 + 1 + 1 + 1 := wr (by omega) (by omega)
  simp only [mk72, e0, e1, e2, e3, e4, e5, e6, e7]
  omega
theorem laws_markSavedS_ev (l : List (S72)) (h : l.length ≤ 9223372036854775807) (n : Int) : Ev (fun k => laws_markSavedS.f k l n) ((acc mk72 l n).2, (acc mk72 l n).1) := by
  unfold laws_markSavedS.f
  refine ev_mark mk72 (fun k l n i => laws_markSavedS.l0 k l n i) l.length ?_ ?_ l rfl n
  · intro l' n hl
    refine Ev.succ ?_
    simp only [laws_markSavedS.l0, hl, Int.lt_irrefl, if_false]
    exact Ev.now _
  · intro l' i x n r hl hx hr
    have hi := lt_of_get hx
    have h1 : ((i : Int) < (l'.length : Int)) = True := eq_true (by omega)
    have h2 : (0 ≤ (i : Int)) = True := eq_true (by omega)
    refine Ev.succ ?_
    simp only [laws_markSavedS.l0, h1, h2, if_true, wr1 hi (by omega), Int.toNat_natCast, Option.bind_some, List.set_set, rd_T72, List.getD_eq_getElem?_getD, List.getElem?_set_self hi, Option.getD_some, hx]
    exact hr

theorem laws_heldSavedS_ev (l : List (S72)) (n : Int) (h0 : 0 ≤ n) (hB : n + ((l.map fun _ => 8).sum : Nat) ≤ 4611686018427387904) (h : l.length ≤ 9223372036854775807) : Ev (fun k => laws_heldSavedS.f k (acc mk72 l n).1 n) (acc mk72 l n).2 := by
  unfold laws_heldSavedS.f
  refine ev_held mk72 (fun _ => 8) 4611686018427387904 mk72_up (fun k l n i => laws_heldSavedS.l0 k l n i) l.length ?_ ?_ l rfl n h0 hB
  · intro l' n hl
    refine Ev.succ ?_
    simp only [laws_heldSavedS.l0, hl, Int.lt_irrefl, if_false]
    exact Ev.now _
  · intro l' i x n r hl h0 hB hx hr
    have hi := lt_of_get hx
    have h1 : ((i : Int) < (l'.length : Int)) = True := eq_true (by omega)
    have h2 : (0 ≤ (i : Int)) = True := eq_true (by omega)
    refine Ev.succ ?_
    simp only [laws_heldSavedS.l0, h1, h2, if_true, wr1 hi (by omega), rd_at_T72 hx]
    simp only [mk72, if_true]
    exact hr

def sameQ (a q : S70) : Bool := a.f0 == q.f0 && (a.f1 == q.f1 && (a.f2 == q.f2 && (a.f3 == q.f3 && (a.f4 == q.f4))))
theorem spec_SameQuestion_eq (a q : S70) : spec_SameQuestion.f a.f0 a.f1 a.f2 a.f3 a.f4 a.f5 q.f0 q.f1 q.f2 q.f3 q.f4 q.f5 = some (sameQ a q) := by
  simp [spec_SameQuestion.f, spec_AtTime.f, sameQ]

def putStep (x : S72) (s : List S72) (y : S72) : List S72 := if sameQ y.f0 x.f0 = true then s else s ++ [y]
def putEnd (x : S72) (s : List S72) : List S72 := if ((s ++ [x]).length : Int) > 8 then (s ++ [x]).drop (1 : Int).toNat else s ++ [x]
def putV (l : List S72) (x : S72) : List S72 := putEnd x (l.foldl (putStep x) [])
theorem putStep_length (x : S72) (s : List S72) (y : S72) : (putStep x s y).length ≤ s.length + 1 := by
  unfold putStep
  split
  · omega
  · rw [List.length_append, List.length_singleton]; exact Nat.le_refl _
theorem putV_from (x : S72) : ∀ (l s : List S72), (l.foldl (putStep x) s).length ≤ s.length + l.length
  | [], s => by simp
  | y :: l, s => by
    have h1 := putV_from x l (putStep x s y)
    have h2 := putStep_length x s y
    simp only [List.foldl_cons, List.length_cons]
    omega
theorem putV_length (l : List S72) (x : S72) : (putV l x).length ≤ l.length ∨ (putV l x).length ≤ 8 := by
  have := putV_from x l []
  rw [List.length_nil] at this
  unfold putV putEnd
  split
  · left; simp only [List.length_drop, List.length_append, List.length_singleton]; omega
  · right; rename_i c; omega
theorem spec_PutSaved_ev (l : List S72) (x : S72) (h : l.length ≤ 1048576) : Ev (fun k => spec_PutSaved.f k l x.f0.f0 x.f0.f1 x.f0.f2 x.f0.f3 x.f0.f4 x.f0.f5 x.f1 x.f2) (putV l x) := by
  unfold spec_PutSaved.f putV
  refine ev_fold l (putStep x) (putEnd x) (fun i s => s.length ≤ i) (fun k s i => spec_PutSaved.l0 k l s i x.f0.f0 x.f0.f1 x.f0.f2 x.f0.f3 x.f0.f4 x.f0.f5 x.f1 x.f2) ?_ ?_ ?_ [] (by simp)
  · intro s hs
    have h3 : (s.length < 2199023255552) = True := eq_true (by have : s.length ≤ l.length := hs; omega)
    refine Ev.succ ?_
    have e : ∀ (y : S72), (⟨⟨y.f0.f0, y.f0.f1, y.f0.f2, y.f0.f3, y.f0.f4, y.f0.f5⟩, y.f1, y.f2⟩ : S72) = y := fun _ => rfl
    simp only [spec_PutSaved.l0, Int.lt_irrefl, if_false, h3, if_true, Option.bind_some, putEnd, e]
    by_cases c : ((s ++ [x]).length : Int) > 8
    · have c1 : 1 ≤ ((s ++ [x]).length : Int) := by omega
      simp only [if_pos c, if_pos c1]
      exact Ev.now _
    · simp only [if_neg c]
      exact Ev.now _
  · intro i y s hx hs
    have := putStep_length x s y
    show (putStep x s y).length ≤ i + 1
    omega
  · intro i y s r hx hs hr
    have hi := lt_of_get hx
    have hs' : s.length ≤ i := hs
    have h1 : ((i : Int) < (l.length : Int)) = True := eq_true (by omega)
    have h2 : (0 ≤ (i : Int)) = True := eq_true (by omega)
    have h3 : (s.length < 2199023255552) = True := eq_true (by omega)
    refine Ev.succ ?_
    simp only [spec_PutSaved.l0, h1, h2, h3, if_true, rd_at_T72 hx, wr1 hi (by omega), spec_SameQuestion_eq y.f0 x.f0, Option.bind_some]
    unfold putStep at hr
    by_cases c : sameQ y.f0 x.f0 = true
    · simp only [if_pos c] at hr ⊢; exact hr
    · simp only [if_neg c] at hr ⊢; exact hr

theorem impl_SameQuestion_eq (a q : S70) : impl_SameQuestion.f a.f0 a.f1 a.f2 a.f3 a.f4 a.f5 q.f0 q.f1 q.f2 q.f3 q.f4 q.f5 = some (sameQ a q) := by
  simp [impl_SameQuestion.f, impl_AtTime.f, sameQ]

theorem impl_PutSaved_ev (l : List S72) (x : S72) (h : l.length ≤ 1048576) : Ev (fun k => impl_PutSaved.f k l x.f0.f0 x.f0.f1 x.f0.f2 x.f0.f3 x.f0.f4 x.f0.f5 x.f1 x.f2) (putV l x) := by
  unfold impl_PutSaved.f putV
  refine ev_fold l (putStep x) (putEnd x) (fun i s => s.length ≤ i) (fun k s i => impl_PutSaved.l0 k s l (l.length : Int) i x.f0.f0 x.f0.f1 x.f0.f2 x.f0.f3 x.f0.f4 x.f0.f5 x.f1 x.f2) ?_ ?_ ?_ [] (by simp)
  · intro s hs
    have h3 : (s.length < 2199023255552) = True := eq_true (by have : s.length ≤ l.length := hs; omega)
    refine Ev.succ ?_
    have e : ∀ (y : S72), (⟨⟨y.f0.f0, y.f0.f1, y.f0.f2, y.f0.f3, y.f0.f4, y.f0.f5⟩, y.f1, y.f2⟩ : S72) = y := fun _ => rfl
    simp only [impl_PutSaved.l0, Int.lt_irrefl, if_false, h3, if_true, Option.bind_some, putEnd, e]
    by_cases c : ((s ++ [x]).length : Int) > 8
    · have c1 : 1 ≤ ((s ++ [x]).length : Int) := by omega
      simp only [if_pos c, if_pos c1]
      exact Ev.now _
    · simp only [if_neg c]
      exact Ev.now _
  · intro i y s hx hs
    have := putStep_length x s y
    show (putStep x s y).length ≤ i + 1
    omega
  · intro i y s r hx hs hr
    have hi := lt_of_get hx
    have hs' : s.length ≤ i := hs
    have h1 : ((i : Int) < (l.length : Int)) = True := eq_true (by omega)
    have h2 : (0 ≤ (i : Int)) = True := eq_true (by omega)
    have h3 : (s.length < 2199023255552) = True := eq_true (by omega)
    refine Ev.succ ?_
    simp only [impl_PutSaved.l0, h1, h2, h3, if_true, rd_at_T72 hx, wr1 hi (by omega), impl_SameQuestion_eq y.f0 x.f0, Option.bind_some]
    unfold putStep at hr
    by_cases c : sameQ y.f0 x.f0 = true
    · simp only [if_pos c] at hr ⊢; exact hr
    · simp only [if_neg c] at hr ⊢; exact hr

theorem FnExactPutSaved : laws_FnExactPutSaved.Pure := by
  intro l x h1 h2 hx
  refine Ev.rounds ?_
  unfold laws_FnExactPutSaved.f
  obtain ⟨r, e, hr1, hr⟩ := laws_szSavedS_le l h1 1048576 (by omega) (by omega)
  simp only [e, Option.bind_some]
  by_cases c : r < 0
  · simp only [if_pos c]; exact Ev.now _
  simp only [if_neg c]
  have hb := hr (by omega)
  have hm : (l.map cv68).length ≤ 1048576 := by rw [List.length_map]; omega
  have hS := spec_PutSaved_ev (l.map cv68) (cv68 x) hm
  have hI := impl_PutSaved_ev (l.map cv68) (cv68 x) hm
  have hl := putV_length (l.map cv68) (cv68 x)
  generalize putV (l.map cv68) (cv68 x) = v at hS hI hl
  have hv : v.length ≤ 1048576 := by omega
  have hT := laws_toSaved_eq x
  have hn1 : ((acc mk72 (l.map cv68) 1).2 < 0) = False := acc_nonneg _ _ _ mk72_up _ (by rw [sum_const]; omega)
  have hn2 : ((acc mk72 v 1).2 < 0) = False := acc_nonneg _ _ _ mk72_up _ (by rw [sum_const]; omega)
  repeat (first
    | exact Ev.now _
    | simp only [hT, Option.bind_some]
    | ((first | refine Ev.bind (laws_toSavedS_ev l (by omega)) ?_ | refine Ev.bind (hS) ?_ | refine Ev.bind (hI) ?_ | refine Ev.bind (laws_eqSavedS_refl _ hm) ?_ | refine Ev.bind (laws_eqSavedS_refl _ hv) ?_ | refine Ev.bind (laws_markSavedS_ev _ (by omega) _) ?_ | refine Ev.bind (laws_heldSavedS_ev _ 1 (by omega) (by rw [sum_const]; omega) (by omega)) ?_); try simp only [if_true, if_false, bne_self_eq_false, Bool.false_eq_true, Bool.not_true, hn1, hn2])
    | (simp only [if_true, if_false, bne_self_eq_false, Bool.false_eq_true, Bool.not_true, hn1, hn2]))

end Go.Proofs.Ytoncnbcgpflhiaa.Pure
