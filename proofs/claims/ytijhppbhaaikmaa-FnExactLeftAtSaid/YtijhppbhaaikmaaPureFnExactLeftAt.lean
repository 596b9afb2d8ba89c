/- The law FnExactLeftAt answers true for all arguments, over numbers and lists alone: what each function computes, and that program and reference compute the same. No condition. -/
import Derived.Test.YtijhppbhaaikmaaQFnExactLeftAtx2
import Derived.Test.YtijhppbhaaikmaaL
namespace Go.Proofs.Ytijhppbhaaikmaa.Pure
open Go.RowKit Go.Proofs.Ytijhppbhaaikmaa.QFnExactLeftAt Go.Proofs.YtijhppbhaaikmaaL Go.Proofs.YtijhppbhaaikmaaW.PrintWords Go.Proofs.YtijhppbhaaikmaaW.PrintLast
set_option linter.unusedVariables false
set_option linter.unusedSimpArgs false

def cv98 (x : S98) : S96 := ⟨x.f0, x.f1⟩
theorem rd_at_T98 {l : List S98} {i : Nat} {x : S98} (h : l[i]? = some x) : rd_T98 l (i : Int) = x := getD_nat l _ i x h
theorem rd_at_T96 {l : List S96} {i : Nat} {x : S96} (h : l[i]? = some x) : rd_T96 l (i : Int) = x := getD_nat l _ i x h

theorem laws_szShareS_le (l : List (S98)) (hl : l.length ≤ maxLen) (a : Int) (h0 : 0 ≤ a) (ha : a ≤ 1048576) : ∃ r, laws_szShareS.f l a = some r ∧ r ≤ 1048576 ∧ (0 ≤ r → r + (l.length : Nat) ≤ a) := by
  unfold laws_szShareS.f
  unfold maxLen at hl
  rw [wr (by omega) (by omega)]
  split
  · exact ⟨_, rfl, by omega, by omega⟩
  · exact ⟨_, rfl, by omega, by omega⟩

theorem laws_toShare_eq (x : S98) : laws_toShare.f x.f0 x.f1 = some ((cv98 x).f0, (cv98 x).f1) := by
  unfold laws_toShare.f
  first | rfl | (simp only [Option.bind_some]; rfl)

theorem laws_toShareS_ev (l : List (S98)) (h : l.length ≤ 1048576) : Ev (fun k => laws_toShareS.f k l) (l.map cv98) := by
  unfold laws_toShareS.f
  refine Ev.pos (by omega) (Ev.pos (by omega) ?_)
  refine ev_fill l cv98 (fun k out i => laws_toShareS.l0 k l out i) ?_ ?_ _ (by simp)
  · intro out ho
    refine Ev.succ ?_
    simp only [laws_toShareS.l0, Int.lt_irrefl, if_false]
    exact Ev.now _
  · intro i x out r hx ho hr
    have hi := lt_of_get hx
    have h1 : ((i : Int) < (l.length : Int)) = True := eq_true (by omega)
    have h2 : (0 ≤ (i : Int)) = True := eq_true (by omega)
    have h3 : ((i : Int) < (out.length : Int)) = True := eq_true (by omega)
    refine Ev.succ ?_
    simp only [laws_toShareS.l0, h1, h2, h3, if_true, rd_at_T98 hx, wr1 hi (by omega), Int.toNat_natCast, laws_toShare_eq x, Option.bind_some]
    exact hr

theorem laws_eqShare_refl (x : S96) : laws_eqShare.f x.f0 x.f1 x.f0 x.f1 = some true := by
  unfold laws_eqShare.f
  simp

theorem laws_eqShareS_refl (l : List (S96)) (h : l.length ≤ 1048576) : Ev (fun k => laws_eqShareS.f k l l) true := by
  unfold laws_eqShareS.f
  refine Ev.pos rfl ?_
  refine ev_walk l (fun k i => laws_eqShareS.l0 k l l i) true ?_ ?_
  · refine Ev.succ ?_
    simp only [laws_eqShareS.l0, Int.lt_irrefl, if_false]
    exact Ev.now _
  · intro i x hx hr
    have hi := lt_of_get hx
    have h1 : ((i : Int) < (l.length : Int)) = True := eq_true (by omega)
    have h2 : (0 ≤ (i : Int)) = True := eq_true (by omega)
    refine Ev.succ ?_
    simp only [laws_eqShareS.l0, h1, h2, if_true, rd_at_T96 hx, wr1 hi (by omega), laws_eqShare_refl x, Option.bind_some]
    exact hr

theorem spec_l32Find_ev (l : List S96) (a : Int) (h : l.length ≤ 1048576) : Ev (fun k => spec_l32Find.f k l a) (idxV (fun x => x.f0 == a) l 0) := by
  unfold spec_l32Find.f
  refine ev_idx l (fun x => x.f0 == a) id (fun k i => spec_l32Find.l0 k l a i) ?_ ?_
  · refine Ev.succ ?_
    simp only [spec_l32Find.l0, Int.lt_irrefl, if_false]
    exact Ev.now _
  · intro i x hx
    have hi := lt_of_get hx
    have h1 : ((i : Int) < (l.length : Int)) = True := eq_true (by omega)
    have h2 : (0 ≤ (i : Int)) = True := eq_true (by omega)
    refine ⟨fun hp r hr => ?_, fun hp => ?_⟩
    · refine Ev.succ ?_
      simp only [spec_l32Find.l0, h1, h2, if_true, rd_at_T96 hx, wr1 hi (by omega), if_neg (show ¬ x.f0 = a by simpa using hp)]
      exact hr
    · refine Ev.succ ?_
      simp only [spec_l32Find.l0, h1, h2, if_true, rd_at_T96 hx, if_pos (show x.f0 = a by simpa using hp)]
      exact Ev.now _

def leftV (l : List S96) (a : Int) : Int := if idxV (fun x => x.f0 == a) l 0 < 0 then 0 else (rd_T96 l (idxV (fun x => x.f0 == a) l 0)).f1
theorem idxV_in {α : Type} (p : α → Bool) (l : List α) (h : ¬ idxV p l 0 < 0) : 0 ≤ idxV p l 0 ∧ idxV p l 0 < (l.length : Int) := by
  rcases idxV_spec p l with ⟨h1, _⟩ | ⟨j, x, h1, h2, _⟩
  · omega
  · have := lt_of_get h2; omega
theorem spec_LeftAt_ev (l : List S96) (a : Int) (h : l.length ≤ 1048576) : Ev (fun k => spec_LeftAt.f k l a) (leftV l a) := by
  unfold spec_LeftAt.f leftV
  refine Ev.bind (spec_l32Find_ev l a h) ?_
  by_cases c : idxV (fun x : S96 => x.f0 == a) l 0 < 0
  · simp only [if_pos c]; exact Ev.now _
  · obtain ⟨h1, h2⟩ := idxV_in _ l c
    simp only [if_neg c, if_pos h1, if_pos h2]; exact Ev.now _

def atPt (a : Int) (x : S96) : Bool := x.f0 == a
theorem impl_shareOf_eq (l : List S96) (a : Int) : impl_shareOf.f l a = some (idxV (atPt a) l 0) := idxO_total (atPt a) l 0

theorem impl_LeftAt_ev (l : List S96) (a : Int) : impl_LeftAt.f l a = some (leftV l a) := by
  unfold impl_LeftAt.f leftV
  rw [impl_shareOf_eq, Option.bind_some]
  show (if idxV (fun x : S96 => x.f0 == a) l 0 < 0 then _ else _) = _
  by_cases c : idxV (fun x : S96 => x.f0 == a) l 0 < 0
  · rw [if_pos c, if_pos c]
  · obtain ⟨h1, h2⟩ := idxV_in _ l c
    rw [if_neg c, if_neg c]
    show (if 0 ≤ idxV (fun x : S96 => x.f0 == a) l 0 then _ else _) = _
    rw [if_pos h1]
    show (if idxV (fun x : S96 => x.f0 == a) l 0 < (l.length : Int) then _ else _) = _
    rw [if_pos h2]; rfl

theorem FnExactLeftAt : laws_FnExactLeftAt.Pure := by
  intro l a h1 h2 _
  refine Ev.rounds ?_
  unfold laws_FnExactLeftAt.f
  obtain ⟨r, e, _, hr⟩ := laws_szShareS_le l h1 1048576 (by omega) (by omega)
  simp only [e, Option.bind_some]
  by_cases c : r < 0
  · simp only [if_pos c]; exact Ev.now _
  simp only [if_neg c]
  have hb := hr (by omega)
  have hm : (l.map cv98).length ≤ 1048576 := by rw [List.length_map]; omega
  refine Ev.bind (laws_toShareS_ev l (by omega)) ?_
  refine Ev.bind (spec_LeftAt_ev _ _ hm) ?_
  refine Ev.bind (laws_toShareS_ev l (by omega)) ?_
  simp only [impl_LeftAt_ev, Option.bind_some, bne_self_eq_false, Bool.false_eq_true, if_false, if_true]
  refine Ev.bind (laws_toShareS_ev l (by omega)) ?_
  refine Ev.bind (laws_eqShareS_refl _ hm) ?_
  exact Ev.now _

end Go.Proofs.Ytijhppbhaaikmaa.Pure
