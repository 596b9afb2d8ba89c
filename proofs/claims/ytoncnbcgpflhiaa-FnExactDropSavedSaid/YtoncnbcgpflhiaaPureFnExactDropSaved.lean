/- The law FnExactDropSaved answers true for all arguments, over numbers and lists alone: what each function computes, and that program and reference compute the same. No condition. -/
import Derived.Test.YtoncnbcgpflhiaaQFnExactDropSavedx3
import Derived.Test.YtoncnbcgpflhiaaL
namespace Go.Proofs.Ytoncnbcgpflhiaa.Pure
open Go.RowKit Go.Proofs.Ytoncnbcgpflhiaa.QFnExactDropSaved Go.Proofs.YtoncnbcgpflhiaaL Go.Proofs.YtoncnbcgpflhiaaW.PrintWords Go.Proofs.YtoncnbcgpflhiaaW.PrintLast
set_option linter.unusedVariables false
set_option linter.unusedSimpArgs false

def cv66 (x : S66) : S70 := ⟨x.f0, x.f1, x.f2, x.f3, x.f4, x.f5⟩
def cv68 (x : S68) : S72 := ⟨(cv66 x.f0), x.f1, x.f2⟩
theorem rd_at_T66 {l : List S66} {i : Nat} {x : S66} (h : l[i]? = some x) : rd_T66 l (i : Int) = x := getD_nat l _ i x h
theorem rd_at_T68 {l : List S68} {i : Nat} {x : S68} (h : l[i]? = some x) : rd_T68 l (i : Int) = x := getD_nat l _ i x h
theorem rd_at_T70 {l : List S70} {i : Nat} {x : S70} (h : l[i]? = some x) : rd_T70 l (i : Int) = x := getD_nat l _ i x h
theorem rd_at_T72 {l : List S72} {i : Nat} {x : S72} (h : l[i]? = some x) : rd_T72 l (i : Int) = x := getD_nat l _ i x h

theorem laws_szSavedS_le (l : List (S68)) (hl : l.length ≤ maxLen) (a : Int) (h0 : 0 ≤ a) (ha : a ≤ 1048576) : ∃ r, laws_szSavedS.f l a = some r ∧ r ≤ 1048576 ∧ (0 ≤ r → r + (l.length : Nat) ≤ a) := by
  unfold laws_szSavedS.f
  unfold maxLen at hl
  rw [wr (by omega) (by omega)]
  split
  · exact ⟨_, rfl, by omega, by omega⟩
  · exact ⟨_, rfl, by omega, by omega⟩

def dropStep (n : Int) (s : List S72) (x : S72) : List S72 := if x.f2 ≥ n then s ++ [x] else s
def dropV (l : List S72) (n : Int) : List S72 := l.foldl (dropStep n) []
theorem dropStep_length (n : Int) (s : List S72) (x : S72) : (dropStep n s x).length ≤ s.length + 1 := by
  unfold dropStep
  split
  · rw [List.length_append, List.length_singleton]; exact Nat.le_refl _
  · omega
theorem dropV_from (n : Int) : ∀ (l s : List S72), (l.foldl (dropStep n) s).length ≤ s.length + l.length
  | [], s => by simp
  | x :: l, s => by
    have h1 := dropV_from n l (dropStep n s x)
    have h2 := dropStep_length n s x
    simp only [List.foldl_cons, List.length_cons]
    omega
theorem dropV_length (l : List S72) (n : Int) : (dropV l n).length ≤ l.length := by
  have := dropV_from n l []
  rw [List.length_nil] at this
  unfold dropV
  omega
theorem spec_DropSaved_ev (l : List S72) (n : Int) (h : l.length ≤ 1048576) : Ev (fun k => spec_DropSaved.f k l n) (dropV l n) := by
  unfold spec_DropSaved.f dropV
  refine ev_fold l (dropStep n) id (fun i s => s.length ≤ i) (fun k s i => spec_DropSaved.l0 k l n s i) ?_ ?_ ?_ [] (by simp)
  · intro s _
    refine Ev.succ ?_
    simp only [spec_DropSaved.l0, Int.lt_irrefl, if_false]
    exact Ev.now _
  · intro i x s hx hs
    have := dropStep_length n s x
    show (dropStep n s x).length ≤ i + 1
    omega
  · intro i x s r hx hs hr
    have hi := lt_of_get hx
    have hs' : s.length ≤ i := hs
    have h1 : ((i : Int) < (l.length : Int)) = True := eq_true (by omega)
    have h2 : (0 ≤ (i : Int)) = True := eq_true (by omega)
    have h3 : (s.length < 2199023255552) = True := eq_true (by omega)
    refine Ev.succ ?_
    simp only [spec_DropSaved.l0, h1, h2, h3, if_true, rd_at_T72 hx, wr1 hi (by omega)]
    unfold dropStep at hr
    by_cases c : x.f2 ≥ n
    · simp only [if_pos c] at hr ⊢; exact hr
    · simp only [if_neg c] at hr ⊢; exact hr

theorem laws_toRequest_eq (x : S66) : laws_toRequest.f x.f0 x.f1 x.f2 x.f3 x.f4 x.f5 = some ((cv66 x).f0, (cv66 x).f1, (cv66 x).f2, (cv66 x).f3, (cv66 x).f4, (cv66 x).f5) := by
  unfold laws_toRequest.f
  first | rfl | (simp only [Option.bind_some]; rfl)

theorem laws_toSaved_eq (x : S68) : laws_toSaved.f x.f0.f0 x.f0.f1 x.f0.f2 x.f0.f3 x.f0.f4 x.f0.f5 x.f1 x.f2 = some ((cv68 x).f0.f0, (cv68 x).f0.f1, (cv68 x).f0.f2, (cv68 x).f0.f3, (cv68 x).f0.f4, (cv68 x).f0.f5, (cv68 x).f1, (cv68 x).f2) := by
  unfold laws_toSaved.f
  first | rfl | (simp only [Option.bind_some]; rfl)

theorem laws_toSavedS_ev (l : List (S68)) (h : l.length ≤ 1048576) : Ev (fun k => laws_toSavedS.f k l) (l.map cv68) := by
  unfold laws_toSavedS.f
  refine Ev.pos (by omega) (Ev.pos (by omega) ?_)
  refine ev_fill l cv68 (fun k out i => laws_toSavedS.l0 k l out i) ?_ ?_ _ (by simp)
  · intro out ho
    refine Ev.succ ?_
    simp only [laws_toSavedS.l0, Int.lt_irrefl, if_false]
    exact Ev.now _
  · intro i x out r hx ho hr
    have hi := lt_of_get hx
    have h1 : ((i : Int) < (l.length : Int)) = True := eq_true (by omega)
    have h2 : (0 ≤ (i : Int)) = True := eq_true (by omega)
    have h3 : ((i : Int) < (out.length : Int)) = True := eq_true (by omega)
    refine Ev.succ ?_
    simp only [laws_toSavedS.l0, h1, h2, h3, if_true, rd_at_T68 hx, wr1 hi (by omega), Int.toNat_natCast, laws_toSaved_eq x, Option.bind_some]
    exact hr

theorem impl_DropSaved_ev (l : List S72) (n : Int) (h : l.length ≤ 1048576) : Ev (fun k => impl_DropSaved.f k l n) (dropV l n) := by
  unfold impl_DropSaved.f dropV
  refine ev_fold l (dropStep n) id (fun i s => s.length ≤ i) (fun k s i => impl_DropSaved.l0 k n s l (l.length : Int) i) ?_ ?_ ?_ [] (by simp)
  · intro s _
    refine Ev.succ ?_
    simp only [impl_DropSaved.l0, Int.lt_irrefl, if_false]
    exact Ev.now _
  · intro i x s hx hs
    have := dropStep_length n s x
    show (dropStep n s x).length ≤ i + 1
    omega
  · intro i x s r hx hs hr
    have hi := lt_of_get hx
    have hs' : s.length ≤ i := hs
    have h1 : ((i : Int) < (l.length : Int)) = True := eq_true (by omega)
    have h2 : (0 ≤ (i : Int)) = True := eq_true (by omega)
    have h3 : (s.length < 2199023255552) = True := eq_true (by omega)
    refine Ev.succ ?_
    simp only [impl_DropSaved.l0, h1, h2, h3, if_true, rd_at_T72 hx, wr1 hi (by omega)]
    unfold dropStep at hr
    by_cases c : x.f2 ≥ n
    · simp only [if_pos c] at hr ⊢; exact hr
    · simp only [if_neg c] at hr ⊢; exact hr

theorem laws_eqRequest_refl (x : S70) : laws_eqRequest.f x.f0 x.f1 x.f2 x.f3 x.f4 x.f5 x.f0 x.f1 x.f2 x.f3 x.f4 x.f5 = some true := by
  unfold laws_eqRequest.f
  simp

theorem laws_eqSaved_refl (x : S72) : laws_eqSaved.f x.f0.f0 x.f0.f1 x.f0.f2 x.f0.f3 x.f0.f4 x.f0.f5 x.f1 x.f2 x.f0.f0 x.f0.f1 x.f0.f2 x.f0.f3 x.f0.f4 x.f0.f5 x.f1 x.f2 = some true := by
  unfold laws_eqSaved.f
  simp [laws_eqRequest_refl]

theorem laws_eqSavedS_refl (l : List (S72)) (h : l.length ≤ 1048576) : Ev (fun k => laws_eqSavedS.f k l l) true := by
  unfold laws_eqSavedS.f
  refine Ev.pos rfl ?_
  refine ev_walk l (fun k i => laws_eqSavedS.l0 k l l i) true ?_ ?_
  · refine Ev.succ ?_
    simp only [laws_eqSavedS.l0, Int.lt_irrefl, if_false]
    exact Ev.now _
  · intro i x hx hr
    have hi := lt_of_get hx
    have h1 : ((i : Int) < (l.length : Int)) = True := eq_true (by omega)
    have h2 : (0 ≤ (i : Int)) = True := eq_true (by omega)
    refine Ev.succ ?_
    simp only [laws_eqSavedS.l0, h1, h2, if_true, rd_at_T72 hx, wr1 hi (by omega), laws_eqSaved_refl x, Option.bind_some]
    exact hr

def mk72 (x : S72) (n : Int) : S72 × Int := ((⟨(⟨n, wrap64 (n + 1), wrap64 ((wrap64 (n + 1)) + 1), wrap64 ((wrap64 ((wrap64 (n + 1)) + 1)) + 1), wrap64 ((wrap64 ((wrap64 ((wrap64 (n + 1)) + 1)) + 1)) + 1), wrap64 ((wrap64 ((wrap64 ((wrap64 ((wrap64 (n + 1)) + 1)) + 1)) + 1)) + 1)⟩ : S70), wrap64 ((wrap64 ((wrap64 ((wrap64 ((wrap64 ((wrap64 (n + 1)) + 1)) + 1)) + 1)) + 1)) + 1), wrap64 ((wrap64 ((wrap64 ((wrap64 ((wrap64 ((wrap64 ((wrap64 (n + 1)) + 1)) + 1)) + 1)) + 1)) + 1)) + 1)⟩ : S72), wrap64 ((wrap64 ((wrap64 ((wrap64 ((wrap64 ((wrap64 ((wrap64 ((wrap64 (n + 1)) + 1)) + 1)) + 1)) + 1)) + 1)) + 1)) + 1))
theorem mk72_up (x : S72) (n : Int) (h0 : 0 ≤ n) (h : n + (8 : Nat) ≤ 4611686018427387904) : (mk72 x n).2 = n + (8 : Nat) := by
  have e0 : wrap64 (n + 1) = n + 1 := wr (by omega) (by omega)
  have e1 : wrap64 (n + 1 + 1) = n + 1 + 1 := wr (by omega) (by omega)
  have e2 : wrap64 (n + 1 + 1 + 1) = n + 1 + 1 + 1 := wr (by omega) (by omega)
  have e3 : wrap64 (n + 1 + 1 + 1 + 1) = n + 1 + 1 + 1 + 1 := wr (by omega) (by omega)
  have e4 : wrap64 (n + 1 + 1 + 1 + 1 + 1) = n + 1 + 1 + 1 + 1 + 1 := wr (by omega) (by omega)
  have e5 : wrap64 (n + 1 + 1 + 1 + 1 + 1 + 1) = n + 1 + 1 + 1 + 1 + 1 + 1 := wr (by omega) (by omega)
  have e6 : wrap64 (n + 1 + 1 + 1 + 1 + 1 + 1 + 1) = n + 1 + 1 + 1 + 1 + 1 + 1 + 1 := wr (by omega) (by omega)
  have e7 : wrap64 (n + 1 + 1 + 1 + 1 + 1 + 1 + 1 + 1) = n + 1 + 1 + 1 + 1 + 1 + 1 + 1 + 1 := wr (by omega) (by omega)
  simp only [mk72, e0, e1, e2, e3, e4, e5, e6, e7]
  omega
theorem laws_markSavedS_ev (l : List (S72)) (h : l.length ≤ 9223372036854775807) (n : Int) : Ev (fun k => laws_markSavedS.f k l n) ((acc mk72 l n).2, (acc mk72 l n).1) := by
  unfold laws_markSavedS.f
  refine ev_mark mk72 (fun k l n i => laws_markSavedS.l0 k l n i) l.length ?_ ?_ l rfl n
  · intro l' n hl
    refine Ev.succ ?_
    simp only [laws_markSavedS.l0, hl, Int.lt_irrefl, if_false]
    exact Ev.now _
  · intro l' i x n r hl hx hr
    have hi := lt_of_get hx
    have h1 : ((i : Int) < (l'.length : Int)) = True := eq_true (by omega)
    have h2 : (0 ≤ (i : Int)) = True := eq_true (by omega)
    refine Ev.succ ?_
    simp only [laws_markSavedS.l0, h1, h2, if_true, wr1 hi (by omega), Int.toNat_natCast, Option.bind_some, List.set_set, rd_T72, List.getD_eq_getElem?_getD, List.getElem?_set_self hi, Option.getD_some, hx]
    exact hr

theorem laws_heldSavedS_ev (l : List (S72)) (n : Int) (h0 : 0 ≤ n) (hB : n + ((l.map fun _ => 8).sum : Nat) ≤ 4611686018427387904) (h : l.length ≤ 9223372036854775807) : Ev (fun k => laws_heldSavedS.f k (acc mk72 l n).1 n) (acc mk72 l n).2 := by
  unfold laws_heldSavedS.f
  refine ev_held mk72 (fun _ => 8) 4611686018427387904 mk72_up (fun k l n i => laws_heldSavedS.l0 k l n i) l.length ?_ ?_ l rfl n h0 hB
  · intro l' n hl
    refine Ev.succ ?_
    simp only [laws_heldSavedS.l0, hl, Int.lt_irrefl, if_false]
    exact Ev.now _
  · intro l' i x n r hl h0 hB hx hr
    have hi := lt_of_get hx
    have h1 : ((i : Int) < (l'.length : Int)) = True := eq_true (by omega)
    have h2 : (0 ≤ (i : Int)) = True := eq_true (by omega)
    refine Ev.succ ?_
    simp only [laws_heldSavedS.l0, h1, h2, if_true, wr1 hi (by omega), rd_at_T72 hx]
    simp only [mk72, if_true]
    exact hr

theorem FnExactDropSaved : laws_FnExactDropSaved.Pure := by
  intro l n h1 h2 _
  refine Ev.rounds ?_
  unfold laws_FnExactDropSaved.f
  obtain ⟨r, e, hr1, hr⟩ := laws_szSavedS_le l h1 1048576 (by omega) (by omega)
  simp only [e, Option.bind_some]
  by_cases c : r < 0
  · simp only [if_pos c]; exact Ev.now _
  simp only [if_neg c]
  have hb := hr (by omega)
  have hm : (l.map cv68).length ≤ 1048576 := by rw [List.length_map]; omega
  have hS := spec_DropSaved_ev (l.map cv68) n hm
  have hI := impl_DropSaved_ev (l.map cv68) n hm
  have hl := dropV_length (l.map cv68) n
  generalize dropV (l.map cv68) n = v at hS hI hl
  have hv : v.length ≤ 1048576 := by omega
  have hn1 : ((acc mk72 (l.map cv68) 1).2 < 0) = False := acc_nonneg _ _ _ mk72_up _ (by rw [sum_const]; omega)
  have hn2 : ((acc mk72 v 1).2 < 0) = False := acc_nonneg _ _ _ mk72_up _ (by rw [sum_const]; omega)
  repeat (first
    | exact Ev.now _
    | ((first | refine Ev.bind (laws_toSavedS_ev l (by omega)) ?_ | refine Ev.bind (hS) ?_ | refine Ev.bind (hI) ?_ | refine Ev.bind (laws_eqSavedS_refl _ hm) ?_ | refine Ev.bind (laws_eqSavedS_refl _ hv) ?_ | refine Ev.bind (laws_markSavedS_ev _ (by omega) _) ?_ | refine Ev.bind (laws_heldSavedS_ev _ 1 (by omega) (by rw [sum_const]; omega) (by omega)) ?_); try simp only [if_true, if_false, bne_self_eq_false, Bool.false_eq_true, Bool.not_true, hn1, hn2])
    | (refine Ev.succ ?_; simp only [laws_FnExactDropSaved.j0, if_true, if_false, bne_self_eq_false, Bool.false_eq_true, Bool.not_true, hn1, hn2]))

end Go.Proofs.Ytoncnbcgpflhiaa.Pure
