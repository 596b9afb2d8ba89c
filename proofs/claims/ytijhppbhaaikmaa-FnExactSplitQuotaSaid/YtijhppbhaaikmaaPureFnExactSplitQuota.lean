/- The law FnExactSplitQuota answers true for all arguments, over numbers and lists alone: what each function computes, and that program and reference compute the same. No condition. -/
import Derived.Test.YtijhppbhaaikmaaQFnExactSplitQuotax4
import Derived.Test.YtijhppbhaaikmaaL
namespace Go.Proofs.Ytijhppbhaaikmaa.Pure
open Go.RowKit Go.Proofs.Ytijhppbhaaikmaa.QFnExactSplitQuota Go.Proofs.YtijhppbhaaikmaaL Go.Proofs.YtijhppbhaaikmaaW.PrintWords Go.Proofs.YtijhppbhaaikmaaW.PrintLast
set_option linter.unusedVariables false
set_option linter.unusedSimpArgs false

theorem rd_at_T96 {l : List S96} {i : Nat} {x : S96} (h : l[i]? = some x) : rd_T96 l (i : Int) = x := getD_nat l _ i x h

theorem laws_eqShare_refl (x : S96) : laws_eqShare.f x.f0 x.f1 x.f0 x.f1 = some true := by
  unfold laws_eqShare.f
  simp

theorem laws_eqShareS_refl (l : List (S96)) (h : l.length ≤ 1048576) : Ev (fun k => laws_eqShareS.f k l l) true := by
  unfold laws_eqShareS.f
  refine Ev.pos rfl ?_
  refine ev_walk l (fun k i => laws_eqShareS.l0 k l l i) true ?_ ?_
  · refine Ev.succ ?_
    simp only [laws_eqShareS.l0, Int.lt_irrefl, if_false]
    exact Ev.now _
  · intro i x hx hr
    have hi := lt_of_get hx
    have h1 : ((i : Int) < (l.length : Int)) = True := eq_true (by omega)
    have h2 : (0 ≤ (i : Int)) = True := eq_true (by omega)
    refine Ev.succ ?_
    simp only [laws_eqShareS.l0, h1, h2, if_true, rd_at_T96 hx, wr1 hi (by omega), laws_eqShare_refl x, Option.bind_some]
    exact hr

theorem spec_l1In_eq (a b c : Int) : spec_l1In.f a b c = some (inB a b c) := by
  unfold spec_l1In.f
  rw [ite_dand]; rfl

def shareAt (t n i : Int) : Int := if i < Int.tmod t n then wrap64 (wrap64 (Int.tdiv t n) + 1) else wrap64 (Int.tdiv t n)
def stopB (l : List Int) (i : Nat) : Bool := !decide (i = 0) && decide (rd l ((i - 1 : Nat) : Int) ≥ rd l (i : Int))
def splitGo (t : Int) (l : List Int) : Nat → Nat → List S96 → List S96 × Bool
  | 0, _, out => (out, true)
  | f + 1, i, out => if stopB l i = true then ([], false) else splitGo t l f (i + 1) (out ++ [⟨rd l (i : Int), shareAt t (l.length : Int) (i : Int)⟩])
theorem splitGo_length (t : Int) (l : List Int) : ∀ f i out, (splitGo t l f i out).1.length ≤ out.length + f
  | 0, _, out => by simp [splitGo]
  | f + 1, i, out => by
    unfold splitGo
    split
    · simp
    · have := splitGo_length t l f (i + 1) (out ++ [⟨rd l (i : Int), shareAt t (l.length : Int) (i : Int)⟩])
      rw [List.length_append, List.length_singleton] at this
      omega
def splitV (t : Int) (l : List Int) : List S96 × Bool := if (inB t 0 100 && inB (l.length : Int) 1 6) = true then splitGo t l l.length 0 [] else ([], false)
theorem splitV_length (t : Int) (l : List Int) : (splitV t l).1.length ≤ l.length := by
  unfold splitV
  split
  · have := splitGo_length t l l.length 0 []
    rw [List.length_nil] at this
    omega
  · simp
theorem spec_SplitQuota_go (t : Int) (l : List Int) (h : l.length ≤ 1048576) : ∀ f i out, i + f = l.length → out.length ≤ i → Ev (fun k => spec_SplitQuota.l0 k t l out (i : Int)) (splitGo t l f i out)
  | 0, i, out, e, ho => by
    obtain rfl : i = l.length := by omega
    refine Ev.succ ?_
    simp only [spec_SplitQuota.l0, Int.lt_irrefl, if_false]
    exact Ev.now _
  | f + 1, i, out, e, ho => by
    have hi : i < l.length := by omega
    have h1 : ((i : Int) < (l.length : Int)) = True := eq_true (by omega)
    have h2 : (0 ≤ (i : Int)) = True := eq_true (by omega)
    have h3 : ((l.length : Int) = 0) = False := eq_false (by omega)
    have h4 : (out.length < 8796093022208) = True := eq_true (by omega)
    have ih := spec_SplitQuota_go t l h f (i + 1) (out ++ [⟨rd l (i : Int), shareAt t (l.length : Int) (i : Int)⟩]) (by omega) (by rw [List.length_append, List.length_singleton]; omega)
    have hj : Ev (fun k => spec_SplitQuota.j2 k t l out (i : Int) (stopB l i)) (splitGo t l (f + 1) i out) := by
      refine Ev.succ ?_
      unfold splitGo
      simp only [spec_SplitQuota.j2, h1, h2, h3, h4, if_true, if_false, wr1 hi (by omega)]
      cases c : stopB l i with
      | true => simp only [if_true]; exact Ev.now _
      | false =>
        simp only [Bool.false_eq_true, if_false]
        unfold shareAt at ih ⊢
        by_cases c2 : (i : Int) < Int.tmod t (l.length : Int)
        · simp only [if_pos c2] at ih ⊢; exact ih
        · simp only [if_neg c2] at ih ⊢; exact ih
    refine Ev.succ ?_
    simp only [spec_SplitQuota.l0, h1, h2, if_true]
    by_cases c : i = 0
    · have hb : stopB l i = false := by unfold stopB; simp [c]
      rw [hb] at hj
      exact Ev.neg (by omega) hj
    · have hb : stopB l i = decide (rd l ((i - 1 : Nat) : Int) ≥ rd l (i : Int)) := by unfold stopB; simp [c]
      rw [hb] at hj
      simp only [if_pos (show (i : Int) > 0 by omega), wrm (show 0 < i by omega) (by omega), if_pos (show 0 ≤ ((i - 1 : Nat) : Int) by omega), if_pos (show ((i - 1 : Nat) : Int) < (l.length : Int) by omega)]
      exact hj
theorem spec_SplitQuota_ev (t : Int) (l : List Int) (h : l.length ≤ 1048576) : Ev (fun k => spec_SplitQuota.f k t l) (splitV t l) := by
  unfold spec_SplitQuota.f splitV
  have hg := spec_SplitQuota_go t l h l.length 0 [] (by omega) (by simp)
  simp only [Option.bind_some, spec_l1In_eq]
  cases c1 : inB t 0 100 with
  | false => refine Ev.succ ?_; simp only [spec_SplitQuota.j0, Bool.false_and, Bool.false_eq_true, if_false, if_true]; exact Ev.now _
  | true =>
    cases c2 : inB (l.length : Int) 1 6 with
    | false => refine Ev.succ ?_; simp only [spec_SplitQuota.j0, Bool.true_and, Bool.not_false, Bool.false_eq_true, if_false, if_true]; exact Ev.now _
    | true => refine Ev.succ ?_; simp only [spec_SplitQuota.j0, Bool.true_and, Bool.not_true, Bool.false_eq_true, if_false, if_true]; exact hg

theorem laws_toIntS_ev (l : List Int) (h : l.length ≤ 1048576) : Ev (fun k => laws_toIntS.f k l) l := by
  unfold laws_toIntS.f
  have e : l = l.map id := by simp
  conv => rhs; rw [e]
  refine Ev.pos (by omega) (Ev.pos (by omega) ?_)
  refine ev_fill l id (fun k out i => laws_toIntS.l0 k l out i) ?_ ?_ _ (by simp)
  · intro out ho
    refine Ev.succ ?_
    simp only [laws_toIntS.l0, Int.lt_irrefl, if_false]
    exact Ev.now _
  · intro i x out r hx ho hr
    have hi := lt_of_get hx
    have h1 : ((i : Int) < (l.length : Int)) = True := eq_true (by omega)
    have h2 : (0 ≤ (i : Int)) = True := eq_true (by omega)
    have h3 : ((i : Int) < (out.length : Int)) = True := eq_true (by omega)
    refine Ev.succ ?_
    simp only [laws_toIntS.l0, h1, h2, h3, if_true, rd_nat l i x hx, wr1 hi (by omega), Int.toNat_natCast]
    exact hr

theorem impl_InRange_eq (a b c : Int) : impl_InRange.f a b c = some (inB a b c) := by
  unfold impl_InRange.f
  rw [ite_dand]; rfl

theorem impl_SplitQuota_go (t : Int) (l : List Int) (h : l.length ≤ 1048576) : ∀ f i out, i + f = l.length → out.length ≤ i → Ev (fun k => impl_SplitQuota.l0 k t l out l (l.length : Int) (i : Int)) (splitGo t l f i out)
  | 0, i, out, e, ho => by
    obtain rfl : i = l.length := by omega
    refine Ev.succ ?_
    simp only [impl_SplitQuota.l0, Int.lt_irrefl, if_false]
    exact Ev.now _
  | f + 1, i, out, e, ho => by
    have hi : i < l.length := by omega
    have h1 : ((i : Int) < (l.length : Int)) = True := eq_true (by omega)
    have h2 : (0 ≤ (i : Int)) = True := eq_true (by omega)
    have h3 : ((l.length : Int) = 0) = False := eq_false (by omega)
    have h4 : (out.length < 8796093022208) = True := eq_true (by omega)
    have ih := impl_SplitQuota_go t l h f (i + 1) (out ++ [⟨rd l (i : Int), shareAt t (l.length : Int) (i : Int)⟩]) (by omega) (by rw [List.length_append, List.length_singleton]; omega)
    have hj : Ev (fun k => impl_SplitQuota.j2 k t l out (i : Int) (rd l (i : Int)) l (l.length : Int) (i : Int) (stopB l i)) (splitGo t l (f + 1) i out) := by
      refine Ev.succ ?_
      unfold splitGo
      simp only [impl_SplitQuota.j2, h3, h4, if_true, if_false, wr1 hi (by omega)]
      cases c : stopB l i with
      | true => simp only [if_true]; exact Ev.now _
      | false =>
        simp only [Bool.false_eq_true, if_false]
        unfold shareAt at ih ⊢
        by_cases c2 : (i : Int) < Int.tmod t (l.length : Int)
        · simp only [if_pos c2] at ih ⊢; exact ih
        · simp only [if_neg c2] at ih ⊢; exact ih
    refine Ev.succ ?_
    simp only [impl_SplitQuota.l0, h1, h2, if_true]
    by_cases c : i = 0
    · have hb : stopB l i = false := by unfold stopB; simp [c]
      rw [hb] at hj
      exact Ev.neg (by omega) hj
    · have hb : stopB l i = decide (rd l ((i - 1 : Nat) : Int) ≥ rd l (i : Int)) := by unfold stopB; simp [c]
      rw [hb] at hj
      simp only [if_pos (show (i : Int) > 0 by omega), wrm (show 0 < i by omega) (by omega), if_pos (show 0 ≤ ((i - 1 : Nat) : Int) by omega), if_pos (show ((i - 1 : Nat) : Int) < (l.length : Int) by omega)]
      exact hj
theorem impl_SplitQuota_ev (t : Int) (l : List Int) (h : l.length ≤ 1048576) : Ev (fun k => impl_SplitQuota.f k t l) (splitV t l) := by
  unfold impl_SplitQuota.f splitV
  have hg := impl_SplitQuota_go t l h l.length 0 [] (by omega) (by simp)
  simp only [Option.bind_some, impl_InRange_eq]
  cases c1 : inB t 0 100 with
  | false => refine Ev.succ ?_; simp only [impl_SplitQuota.j0, Bool.false_and, Bool.false_eq_true, if_false, if_true]; exact Ev.now _
  | true =>
    cases c2 : inB (l.length : Int) 1 6 with
    | false => refine Ev.succ ?_; simp only [impl_SplitQuota.j0, Bool.true_and, Bool.not_false, Bool.false_eq_true, if_false, if_true]; exact Ev.now _
    | true => refine Ev.succ ?_; simp only [impl_SplitQuota.j0, Bool.true_and, Bool.not_true, Bool.false_eq_true, if_false, if_true]; exact hg

theorem laws_eqIntS_refl (l : List Int) (h : l.length ≤ 1048576) : Ev (fun k => laws_eqIntS.f k l l) true := by
  unfold laws_eqIntS.f
  refine Ev.pos rfl ?_
  refine ev_walk l (fun k i => laws_eqIntS.l0 k l l i) true ?_ ?_
  · refine Ev.succ ?_
    simp only [laws_eqIntS.l0, Int.lt_irrefl, if_false]
    exact Ev.now _
  · intro i x hx hr
    have hi := lt_of_get hx
    have h1 : ((i : Int) < (l.length : Int)) = True := eq_true (by omega)
    have h2 : (0 ≤ (i : Int)) = True := eq_true (by omega)
    refine Ev.succ ?_
    simp only [laws_eqIntS.l0, h1, h2, if_true, rd_nat l i x hx, wr1 hi (by omega)]
    exact hr

def mkI (x : Int) (n : Int) : Int × Int := (n, wrap64 (n + 1))
theorem mkI_up (x : Int) (n : Int) (h0 : 0 ≤ n) (h : n + (1 : Nat) ≤ 4611686018427387904) : (mkI x n).2 = n + (1 : Nat) := by
  have e0 : wrap64 (n + 1) = n + 1 := wr (by omega) (by omega)
  simp only [mkI, e0]
  omega
theorem laws_markIntS_ev (l : List Int) (h : l.length ≤ 9223372036854775807) (n : Int) : Ev (fun k => laws_markIntS.f k l n) ((acc mkI l n).2, (acc mkI l n).1) := by
  unfold laws_markIntS.f
  refine ev_mark mkI (fun k l n i => laws_markIntS.l0 k l n i) l.length ?_ ?_ l rfl n
  · intro l' n hl
    refine Ev.succ ?_
    simp only [laws_markIntS.l0, hl, Int.lt_irrefl, if_false]
    exact Ev.now _
  · intro l' i x n r hl hx hr
    have hi := lt_of_get hx
    have h1 : ((i : Int) < (l'.length : Int)) = True := eq_true (by omega)
    have h2 : (0 ≤ (i : Int)) = True := eq_true (by omega)
    refine Ev.succ ?_
    simp only [laws_markIntS.l0, h1, h2, if_true, wr1 hi (by omega), Int.toNat_natCast, Option.bind_some, List.set_set, rd, List.getD_eq_getElem?_getD, List.getElem?_set_self hi, Option.getD_some, hx]
    exact hr

def mk96 (x : S96) (n : Int) : S96 × Int := ((⟨n, wrap64 (n + 1)⟩ : S96), wrap64 ((wrap64 (n + 1)) + 1))
theorem mk96_up (x : S96) (n : Int) (h0 : 0 ≤ n) (h : n + (2 : Nat) ≤ 4611686018427387904) : (mk96 x n).2 = n + (2 : Nat) := by
  have e0 : wrap64 (n + 1) = n + 1 := wr (by omega) (by omega)
  have e1 : wrap64 (n + 1 + 1) = n + 1 + 1 := wr (by omega) (by omega)
  simp only [mk96, e0, e1]
  omega
theorem laws_markShareS_ev (l : List (S96)) (h : l.length ≤ 9223372036854775807) (n : Int) : Ev (fun k => laws_markShareS.f k l n) ((acc mk96 l n).2, (acc mk96 l n).1) := by
  unfold laws_markShareS.f
  refine ev_mark mk96 (fun k l n i => laws_markShareS.l0 k l n i) l.length ?_ ?_ l rfl n
  · intro l' n hl
    refine Ev.succ ?_
    simp only [laws_markShareS.l0, hl, Int.lt_irrefl, if_false]
    exact Ev.now _
  · intro l' i x n r hl hx hr
    have hi := lt_of_get hx
    have h1 : ((i : Int) < (l'.length : Int)) = True := eq_true (by omega)
    have h2 : (0 ≤ (i : Int)) = True := eq_true (by omega)
    refine Ev.succ ?_
    simp only [laws_markShareS.l0, h1, h2, if_true, wr1 hi (by omega), Int.toNat_natCast, Option.bind_some, List.set_set, rd_T96, List.getD_eq_getElem?_getD, List.getElem?_set_self hi, Option.getD_some, hx]
    exact hr

theorem laws_heldShareS_ev (l : List (S96)) (n : Int) (h0 : 0 ≤ n) (hB : n + ((l.map fun _ => 2).sum : Nat) ≤ 4611686018427387904) (h : l.length ≤ 9223372036854775807) : Ev (fun k => laws_heldShareS.f k (acc mk96 l n).1 n) (acc mk96 l n).2 := by
  unfold laws_heldShareS.f
  refine ev_held mk96 (fun _ => 2) 4611686018427387904 mk96_up (fun k l n i => laws_heldShareS.l0 k l n i) l.length ?_ ?_ l rfl n h0 hB
  · intro l' n hl
    refine Ev.succ ?_
    simp only [laws_heldShareS.l0, hl, Int.lt_irrefl, if_false]
    exact Ev.now _
  · intro l' i x n r hl h0 hB hx hr
    have hi := lt_of_get hx
    have h1 : ((i : Int) < (l'.length : Int)) = True := eq_true (by omega)
    have h2 : (0 ≤ (i : Int)) = True := eq_true (by omega)
    refine Ev.succ ?_
    simp only [laws_heldShareS.l0, h1, h2, if_true, wr1 hi (by omega), rd_at_T96 hx]
    simp only [mk96, if_true]
    exact hr

theorem FnExactSplitQuota : laws_FnExactSplitQuota.Pure := by
  intro t l _ h1 h2
  refine Ev.rounds ?_
  unfold laws_FnExactSplitQuota.f
  by_cases c : (l.length : Int) > 1048576
  · simp only [if_pos c]; exact Ev.now _
  simp only [if_neg c]
  have hm : l.length ≤ 1048576 := by omega
  have hS := spec_SplitQuota_ev t l hm
  have hI := impl_SplitQuota_ev t l hm
  have hl := splitV_length t l
  generalize splitV t l = v at hS hI hl
  have hv : v.1.length ≤ 1048576 := by omega
  have hn1 : ((acc mkI l 1).2 < 0) = False := acc_nonneg _ _ _ mkI_up _ (by rw [sum_const]; omega)
  have hn2 : ((acc mk96 v.1 1).2 < 0) = False := acc_nonneg _ _ _ mk96_up _ (by rw [sum_const]; omega)
  repeat (first
    | exact Ev.now _
    | ((first | refine Ev.bind (laws_toIntS_ev l (by omega)) ?_ | refine Ev.bind (hS) ?_ | refine Ev.bind (hI) ?_ | refine Ev.bind (laws_eqIntS_refl _ hm) ?_ | refine Ev.bind (laws_eqShareS_refl _ hv) ?_ | refine Ev.bind (laws_markIntS_ev _ (by omega) _) ?_ | refine Ev.bind (laws_markShareS_ev _ (by omega) _) ?_ | refine Ev.bind (laws_heldShareS_ev _ 1 (by omega) (by rw [sum_const]; omega) (by omega)) ?_); try simp only [if_true, if_false, bne_self_eq_false, Bool.false_eq_true, hn1, hn2])
    | (refine Ev.succ ?_; simp only [laws_FnExactSplitQuota.j0, if_true, if_false, bne_self_eq_false, Bool.false_eq_true, hn1, hn2])
    | (refine Ev.succ ?_; simp only [laws_FnExactSplitQuota.j1, if_true, if_false, bne_self_eq_false, Bool.false_eq_true, hn1, hn2])
    | (refine Ev.succ ?_; simp only [laws_FnExactSplitQuota.j2, if_true, if_false, bne_self_eq_false, Bool.false_eq_true, hn1, hn2]))

end Go.Proofs.Ytijhppbhaaikmaa.Pure
