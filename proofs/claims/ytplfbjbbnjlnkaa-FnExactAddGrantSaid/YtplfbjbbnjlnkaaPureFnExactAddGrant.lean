/- The law FnExactAddGrant answers true for all arguments, over numbers and lists alone: what each function computes, and that program and reference compute the same. No condition. -/
import Derived.Test.YtplfbjbbnjlnkaaQFnExactAddGrantx9
import Derived.Test.YtplfbjbbnjlnkaaL
namespace Go.Proofs.Ytplfbjbbnjlnkaa.Pure
open Go.RowKit Go.Proofs.Ytplfbjbbnjlnkaa.QFnExactAddGrant Go.Proofs.YtplfbjbbnjlnkaaL Go.Proofs.YtplfbjbbnjlnkaaW.PrintWords Go.Proofs.YtplfbjbbnjlnkaaW.PrintLast
set_option linter.unusedVariables false
set_option linter.unusedSimpArgs false

def cv48 (x : S48) : S51 := ⟨x.f0, x.f1, x.f2, x.f3, x.f4, x.f5, x.f6⟩
def n48 (x : S48) : Nat := x.f3.length
def n51 (x : S51) : Nat := x.f3.length
theorem rd_at_T48 {l : List S48} {i : Nat} {x : S48} (h : l[i]? = some x) : rd_T48 l (i : Int) = x := getD_nat l _ i x h
theorem rd_at_T51 {l : List S51} {i : Nat} {x : S51} (h : l[i]? = some x) : rd_T51 l (i : Int) = x := getD_nat l _ i x h
theorem ncv48 (x : S48) : n51 (cv48 x) = n48 x := by
  simp only [cv48, n51, n48, List.length_map, List.map_map, Function.comp_def]

theorem laws_szIntS_le (l : List Int) (hl : l.length ≤ maxLen) (a : Int) (h0 : 0 ≤ a) (ha : a ≤ 2097152) : ∃ r, laws_szIntS.f l a = some r ∧ r ≤ 2097152 ∧ (0 ≤ r → r + (l.length : Nat) ≤ a) := by
  unfold laws_szIntS.f
  unfold maxLen at hl
  rw [wr (by omega) (by omega)]
  split
  · exact ⟨_, rfl, by omega, by omega⟩
  · exact ⟨_, rfl, by omega, by omega⟩

theorem laws_szGrant_le (x : S48) (hg : g48 x) (a : Int) (h0 : 0 ≤ a) (ha : a ≤ 2097152) : ∃ r, laws_szGrant.f x.f0 x.f1 x.f2 x.f3 x.f4 x.f5 x.f6 a = some r ∧ r ≤ 2097152 ∧ (0 ≤ r → r + (n48 x : Nat) ≤ a) := by
  unfold g48 at hg
  unfold n48 laws_szGrant.f
  obtain ⟨r0, e0, b0, s0⟩ := laws_szIntS_le x.f3 (by have := hg; simp_all) a (by omega) (by omega)
  rw [e0]; simp only [Option.bind_some]
  by_cases c0 : r0 < 0
  · rw [if_pos c0]; exact ⟨_, rfl, by omega, by omega⟩
  rw [if_neg c0]
  have s0' := s0 (by omega)
  exact ⟨_, rfl, by omega, by omega⟩

theorem laws_szGrantS_le (l : List (S48)) (hl : l.length ≤ maxLen) (hg : ∀ y_ ∈ l, g48 y_) (a : Int) (h0 : 0 ≤ a) (ha : a ≤ 2097152) : ∃ r, Ev (fun k => laws_szGrantS.f k l a) r ∧ r ≤ 2097152 ∧ (0 ≤ r → r + (l.length + (l.map n48).sum : Nat) ≤ a) := by
  unfold laws_szGrantS.f
  unfold maxLen at hl
  rw [wr (by omega) (by omega)]
  by_cases c : a - (l.length : Int) < 0
  · simp only [if_pos c]; exact ⟨_, Ev.now _, by omega, by omega⟩
  simp only [if_neg c]
  have hend : ∀ a, Ev (fun k => laws_szGrantS.l0 k l a (l.length : Int)) a := by
    intro a
    refine Ev.succ ?_
    simp only [laws_szGrantS.l0, Int.lt_irrefl, if_false]
    exact Ev.now _
  have hstep : ∀ (i : Nat) (x : S48) (a : Int), l[i]? = some x → 0 ≤ a → a ≤ 2097152 → (∃ r, Ev (fun k => laws_szGrantS.l0 k l a (i : Int)) r ∧ r < 0) ∨ ∃ a', 0 ≤ a' ∧ a' + n48 x ≤ a ∧ ∀ r, Ev (fun k => laws_szGrantS.l0 k l a' ((i + 1 : Nat) : Int)) r → Ev (fun k => laws_szGrantS.l0 k l a (i : Int)) r := by
    intro i x a hx h0 ha
    have hi := lt_of_get hx
    have h1 : ((i : Int) < (l.length : Int)) = True := eq_true (by omega)
    have h2 : (0 ≤ (i : Int)) = True := eq_true (by omega)
    obtain ⟨r, e, b, s⟩ := laws_szGrant_le x (hg x (List.mem_of_getElem? hx)) a h0 ha
    by_cases c2 : r < 0
    · left
      refine ⟨-1, Ev.succ ?_, by omega⟩
      simp only [laws_szGrantS.l0, h1, h2, if_true, rd_at_T48 hx, e, Option.bind_some, if_pos c2]
      exact Ev.now _
    · right
      have s' := s (by omega)
      refine ⟨r, by omega, by omega, fun r' hr => Ev.succ ?_⟩
      simp only [laws_szGrantS.l0, h1, h2, if_true, rd_at_T48 hx, e, Option.bind_some, if_neg c2, wr1 hi (by omega)]
      exact hr
  obtain ⟨r, h1, h2, h3⟩ := ev_sz n48 l (fun k a i => laws_szGrantS.l0 k l a i) 2097152 hend hstep (a - l.length) (by omega) (by omega)
  exact ⟨r, h1, h2, fun h => by have := h3 h; omega⟩

theorem laws_toIntS_ev (l : List Int) (h : l.length ≤ 2097152) : Ev (fun k => laws_toIntS.f k l) l := by
  unfold laws_toIntS.f
  have e : l = l.map id := by simp
  conv => rhs; rw [e]
  refine Ev.pos (by omega) (Ev.pos (by omega) ?_)
  refine ev_fill l id (fun k out i => laws_toIntS.l0 k l out i) ?_ ?_ _ (by simp)
  · intro out ho
    refine Ev.succ ?_
    simp only [laws_toIntS.l0, Int.lt_irrefl, if_false]
    exact Ev.now _
  · intro i x out r hx ho hr
    have hi := lt_of_get hx
    have h1 : ((i : Int) < (l.length : Int)) = True := eq_true (by omega)
    have h2 : (0 ≤ (i : Int)) = True := eq_true (by omega)
    have h3 : ((i : Int) < (out.length : Int)) = True := eq_true (by omega)
    refine Ev.succ ?_
    simp only [laws_toIntS.l0, h1, h2, h3, if_true, rd_nat l i x hx, wr1 hi (by omega), Int.toNat_natCast]
    exact hr

theorem laws_toGrant_ev (x : S48) (h : n48 x ≤ 2097152) : Ev (fun k => laws_toGrant.f k x.f0 x.f1 x.f2 x.f3 x.f4 x.f5 x.f6) ((cv48 x).f0, (cv48 x).f1, (cv48 x).f2, (cv48 x).f3, (cv48 x).f4, (cv48 x).f5, (cv48 x).f6) := by
  unfold n48 at h
  unfold laws_toGrant.f
  repeat (first | exact Ev.now _ | (refine Ev.bind (laws_toIntS_ev _ (by omega)) ?_; try simp only []))

theorem laws_toGrantS_ev (l : List (S48)) (h : l.length + (l.map n48).sum ≤ 2097152) : Ev (fun k => laws_toGrantS.f k l) (l.map cv48) := by
  unfold laws_toGrantS.f
  refine Ev.pos (by omega) (Ev.pos (by omega) ?_)
  refine ev_fill l cv48 (fun k out i => laws_toGrantS.l0 k l out i) ?_ ?_ _ (by simp)
  · intro out ho
    refine Ev.succ ?_
    simp only [laws_toGrantS.l0, Int.lt_irrefl, if_false]
    exact Ev.now _
  · intro i x out r hx ho hr
    have hi := lt_of_get hx
    have h1 : ((i : Int) < (l.length : Int)) = True := eq_true (by omega)
    have h2 : (0 ≤ (i : Int)) = True := eq_true (by omega)
    have h3 : ((i : Int) < (out.length : Int)) = True := eq_true (by omega)
    refine Ev.succ ?_
    simp only [laws_toGrantS.l0, h1, h2, h3, if_true, rd_at_T48 hx, wr1 hi (by omega), Int.toNat_natCast]
    refine Ev.bind (laws_toGrant_ev x (by have := le_sum n48 hx; omega)) ?_
    simp only [h3, if_true]
    exact hr

theorem laws_eqIntS_refl (l : List Int) (h : l.length ≤ 2097152) : Ev (fun k => laws_eqIntS.f k l l) true := by
  unfold laws_eqIntS.f
  refine Ev.pos rfl ?_
  refine ev_walk l (fun k i => laws_eqIntS.l0 k l l i) true ?_ ?_
  · refine Ev.succ ?_
    simp only [laws_eqIntS.l0, Int.lt_irrefl, if_false]
    exact Ev.now _
  · intro i x hx hr
    have hi := lt_of_get hx
    have h1 : ((i : Int) < (l.length : Int)) = True := eq_true (by omega)
    have h2 : (0 ≤ (i : Int)) = True := eq_true (by omega)
    refine Ev.succ ?_
    simp only [laws_eqIntS.l0, h1, h2, if_true, rd_nat l i x hx, wr1 hi (by omega)]
    exact hr

theorem laws_eqGrant_refl (x : S51) (h : n51 x ≤ 2097152) : Ev (fun k => laws_eqGrant.f k x.f0 x.f1 x.f2 x.f3 x.f4 x.f5 x.f6 x.f0 x.f1 x.f2 x.f3 x.f4 x.f5 x.f6) true := by
  unfold n51 at h
  unfold laws_eqGrant.f
  simp only [if_true, bne_self_eq_false, Bool.false_eq_true, if_false]
  repeat (first | exact Ev.now _ | (refine Ev.bind (laws_eqIntS_refl _ (by omega)) ?_; simp only [if_true, bne_self_eq_false, Bool.false_eq_true, if_false]))

theorem laws_eqGrantS_refl (l : List (S51)) (h : l.length + (l.map n51).sum ≤ 2097152) : Ev (fun k => laws_eqGrantS.f k l l) true := by
  unfold laws_eqGrantS.f
  refine Ev.pos rfl ?_
  refine ev_walk l (fun k i => laws_eqGrantS.l0 k l l i) true ?_ ?_
  · refine Ev.succ ?_
    simp only [laws_eqGrantS.l0, Int.lt_irrefl, if_false]
    exact Ev.now _
  · intro i x hx hr
    have hi := lt_of_get hx
    have h1 : ((i : Int) < (l.length : Int)) = True := eq_true (by omega)
    have h2 : (0 ≤ (i : Int)) = True := eq_true (by omega)
    refine Ev.succ ?_
    simp only [laws_eqGrantS.l0, h1, h2, if_true, rd_at_T51 hx, wr1 hi (by omega)]
    refine Ev.bind (laws_eqGrant_refl x (by have := le_sum n51 hx; omega)) ?_
    simp only [if_true]
    exact hr

def mkI (x : Int) (n : Int) : Int × Int := (n, wrap64 (n + 1))
theorem mkI_up (x : Int) (n : Int) (h0 : 0 ≤ n) (h : n + (1 : Nat) ≤ 4611686018427387904) : (mkI x n).2 = n + (1 : Nat) := by
  have e0 : wrap64 (n + 1) = n + 1 := wr (by omega) (by omega)
  simp only [mkI, e0]
  omega
theorem laws_markIntS_ev (l : List Int) (h : l.length ≤ 9223372036854775807) (n : Int) : Ev (fun k => laws_markIntS.f k l n) ((acc mkI l n).2, (acc mkI l n).1) := by
  unfold laws_markIntS.f
  refine ev_mark mkI (fun k l n i => laws_markIntS.l0 k l n i) l.length ?_ ?_ l rfl n
  · intro l' n hl
    refine Ev.succ ?_
    simp only [laws_markIntS.l0, hl, Int.lt_irrefl, if_false]
    exact Ev.now _
  · intro l' i x n r hl hx hr
    have hi := lt_of_get hx
    have h1 : ((i : Int) < (l'.length : Int)) = True := eq_true (by omega)
    have h2 : (0 ≤ (i : Int)) = True := eq_true (by omega)
    refine Ev.succ ?_
    simp only [laws_markIntS.l0, h1, h2, if_true, wr1 hi (by omega), Int.toNat_natCast, Option.bind_some, List.set_set, rd, List.getD_eq_getElem?_getD, List.getElem?_set_self hi, Option.getD_some, hx]
    exact hr

def mk51 (x : S51) (n : Int) : S51 × Int := ((⟨n, wrap64 (n + 1), wrap64 (wrap64 (n + 1) + 1), (acc mkI x.f3 (wrap64 (wrap64 (wrap64 (n + 1) + 1) + 1))).1, (acc mkI x.f3 (wrap64 (wrap64 (wrap64 (n + 1) + 1) + 1))).2, wrap64 ((acc mkI x.f3 (wrap64 (wrap64 (wrap64 (n + 1) + 1) + 1))).2 + 1), Int.tmod (wrap64 (wrap64 ((acc mkI x.f3 (wrap64 (wrap64 (wrap64 (n + 1) + 1) + 1))).2 + 1) + 1)) 3 == 0⟩ : S51), wrap64 (wrap64 (wrap64 ((acc mkI x.f3 (wrap64 (wrap64 (wrap64 (n + 1) + 1) + 1))).2 + 1) + 1) + 1))
theorem mk51_up (x : S51) (n : Int) (h0 : 0 ≤ n) (h : n + (6 + (x.f3.length) : Nat) ≤ 4611686018427387904) : (mk51 x n).2 = n + (6 + (x.f3.length) : Nat) := by
  have e0 : wrap64 (n + 1) = n + 1 := wr (by omega) (by omega)
  have e1 : wrap64 (n + 1 + 1) = n + 1 + 1 := wr (by omega) (by omega)
  have e2 : wrap64 (n + 1 + 1 + 1) = n + 1 + 1 + 1 := wr (by omega) (by omega)
  have e3 : (acc mkI x.f3 (n + 1 + 1 + 1)).2 = (n + 1 + 1 + 1) + (x.f3.length : Nat) := by rw [acc_count mkI (fun _ => 1) 4611686018427387904 mkI_up _ _ (by omega) (by rw [sum_const]; omega), sum_const]; omega
  have e4 : wrap64 ((n + 1 + 1 + 1) + (x.f3.length : Nat) + 1) = (n + 1 + 1 + 1) + (x.f3.length : Nat) + 1 := wr (by omega) (by omega)
  have e5 : wrap64 ((n + 1 + 1 + 1) + (x.f3.length : Nat) + 1 + 1) = (n + 1 + 1 + 1) + (x.f3.length : Nat) + 1 + 1 := wr (by omega) (by omega)
  have e6 : wrap64 ((n + 1 + 1 + 1) + (x.f3.length : Nat) + 1 + 1 + 1) = (n + 1 + 1 + 1) + (x.f3.length : Nat) + 1 + 1 + 1 := wr (by omega) (by omega)
  simp only [mk51, e0, e1, e2, e3, e4, e5, e6]
  omega
theorem laws_markGrantS_ev (l : List (S51)) (h : l.length + (l.map n51).sum ≤ 2097152) (n : Int) : Ev (fun k => laws_markGrantS.f k l n) ((acc mk51 l n).2, (acc mk51 l n).1) := by
  unfold laws_markGrantS.f
  refine ev_mark2 mk51 (fun k l n i => laws_markGrantS.l0 k l n i) l ?_ ?_ n
  · intro l' n hl
    refine Ev.succ ?_
    simp only [laws_markGrantS.l0, hl, Int.lt_irrefl, if_false]
    exact Ev.now _
  · intro l' i x n r hl hm hx hr
    have hi := lt_of_get hx
    have hn : n51 x ≤ 2097152 := by
      obtain ⟨j, hj⟩ := List.getElem?_of_mem hm
      have := le_sum n51 hj
      omega
    unfold n51 at hn
    have h1 : ((i : Int) < (l'.length : Int)) = True := eq_true (by omega)
    refine Ev.succ ?_
    simp only [laws_markGrantS.l0, h1, if_true, rd_at_T51 hx, wr1 hi (by omega), Int.toNat_natCast]
    refine Ev.bind (laws_markIntS_ev x.f3 (by omega) _) ?_
    exact hr

theorem laws_heldIntS_ev (l : List Int) (n : Int) (h0 : 0 ≤ n) (hB : n + ((l.map fun _ => 1).sum : Nat) ≤ 4611686018427387904) (h : l.length ≤ 9223372036854775807) : Ev (fun k => laws_heldIntS.f k (acc mkI l n).1 n) (acc mkI l n).2 := by
  unfold laws_heldIntS.f
  refine ev_held mkI (fun _ => 1) 4611686018427387904 mkI_up (fun k l n i => laws_heldIntS.l0 k l n i) l.length ?_ ?_ l rfl n h0 hB
  · intro l' n hl
    refine Ev.succ ?_
    simp only [laws_heldIntS.l0, hl, Int.lt_irrefl, if_false]
    exact Ev.now _
  · intro l' i x n r hl h0 hB hx hr
    have hi := lt_of_get hx
    have h1 : ((i : Int) < (l'.length : Int)) = True := eq_true (by omega)
    have h2 : (0 ≤ (i : Int)) = True := eq_true (by omega)
    refine Ev.succ ?_
    simp only [laws_heldIntS.l0, h1, h2, if_true, wr1 hi (by omega), rd_nat l' i _ hx]
    simp only [mkI, if_true]
    exact hr

theorem laws_heldGrantS_ev (l : List (S51)) (h : l.length + (l.map n51).sum ≤ 2097152) (n : Int) (h0 : 0 ≤ n) (hB : n + ((l.map fun x => 6 + (x.f3.length)).sum : Nat) ≤ 4611686018427387904) : Ev (fun k => laws_heldGrantS.f k (acc mk51 l n).1 n) (acc mk51 l n).2 := by
  unfold laws_heldGrantS.f
  refine ev_held2 mk51 (fun x => 6 + (x.f3.length)) 4611686018427387904 mk51_up (fun k l n i => laws_heldGrantS.l0 k l n i) l ?_ ?_ n h0 hB
  · intro l' n hl
    refine Ev.succ ?_
    simp only [laws_heldGrantS.l0, hl, Int.lt_irrefl, if_false]
    exact Ev.now _
  · intro l' i x n r hl hm h0 hB hx hr
    have hi := lt_of_get hx
    have hn : n51 x ≤ 2097152 := by
      obtain ⟨j, hj⟩ := List.getElem?_of_mem hm
      have := le_sum n51 hj
      omega
    unfold n51 at hn
    have h1 : ((i : Int) < (l'.length : Int)) = True := eq_true (by omega)
    have h2 : (0 ≤ (i : Int)) = True := eq_true (by omega)
    have e0 : wrap64 (n + 1) = n + 1 := wr (by omega) (by omega)
    have e1 : wrap64 (n + 1 + 1) = n + 1 + 1 := wr (by omega) (by omega)
    have e2 : wrap64 (n + 1 + 1 + 1) = n + 1 + 1 + 1 := wr (by omega) (by omega)
    have e3 : (acc mkI x.f3 (n + 1 + 1 + 1)).2 = (n + 1 + 1 + 1) + (x.f3.length : Nat) := by rw [acc_count mkI (fun _ => 1) 4611686018427387904 mkI_up _ _ (by omega) (by rw [sum_const]; omega), sum_const]; omega
    have e4 : wrap64 ((n + 1 + 1 + 1) + (x.f3.length : Nat) + 1) = (n + 1 + 1 + 1) + (x.f3.length : Nat) + 1 := wr (by omega) (by omega)
    have e5 : wrap64 ((n + 1 + 1 + 1) + (x.f3.length : Nat) + 1 + 1) = (n + 1 + 1 + 1) + (x.f3.length : Nat) + 1 + 1 := wr (by omega) (by omega)
    have e6 : wrap64 ((n + 1 + 1 + 1) + (x.f3.length : Nat) + 1 + 1 + 1) = (n + 1 + 1 + 1) + (x.f3.length : Nat) + 1 + 1 + 1 := wr (by omega) (by omega)
    simp only [mk51, e0, e1, e2, e3, e4, e5, e6] at hr
    refine Ev.succ ?_
    simp only [laws_heldGrantS.l0, h1, h2, if_true, wr1 hi (by omega), rd_at_T51 hx, mk51, e0, e1, e2, e3, e4, e5, e6]
    refine Ev.bind (laws_heldIntS_ev x.f3 (n + 1 + 1 + 1) (by omega) (by rw [sum_const]; omega) (by omega)) ?_
    simp only [e0, e1, e2, e3, e4, e5, e6]
    refine Ev.neg (by omega) ?_
    simp only [e0, e1, e2, e3, e4, e5, e6, if_true, bne_self_eq_false, Bool.false_eq_true, if_false]
    exact hr

theorem foldl_snoc {α : Type} : ∀ (l s : List α), l.foldl (fun s x => s ++ [x]) s = s ++ l
  | [], s => by simp
  | x :: l, s => by rw [List.foldl_cons, foldl_snoc l]; simp
theorem spec_l30Copy_ev (l : List S51) (h : l.length + (l.map n51).sum ≤ 2097152) : Ev (fun k => spec_l30Copy.f k l) l := by
  unfold spec_l30Copy.f
  have e : l = l.foldl (fun s x => s ++ [x]) [] := by rw [foldl_snoc]; rfl
  conv => rhs; rw [e]
  refine ev_fold l (fun s x => s ++ [x]) id (fun i s => s.length = i) (fun k s i => spec_l30Copy.l0 k l s i) ?_ ?_ ?_ [] rfl
  · intro s _
    refine Ev.succ ?_
    simp only [spec_l30Copy.l0, Int.lt_irrefl, if_false]
    exact Ev.now _
  · intro i x s hx hs
    simp [hs]
  · intro i x s r hx hs hr
    have hi := lt_of_get hx
    have hn := le_sum n51 hx
    unfold n51 at hn
    have hs' : s.length = i := hs
    have h1 : ((i : Int) < (l.length : Int)) = True := eq_true (by omega)
    have h2 : (0 ≤ (i : Int)) = True := eq_true (by omega)
    have h3 : (s.length < 1954687338268) = True := eq_true (by omega)
    have h4 : (([] : List Int).length + x.f3.length < 17592186044416) = True := eq_true (by rw [List.length_nil]; unfold n51 at h; omega)
    refine Ev.succ ?_
    simp only [spec_l30Copy.l0, h1, h2, h3, h4, if_true, rd_at_T51 hx, wr1 hi (by omega), Option.bind_some, List.nil_append]
    exact hr

theorem spec_l1In_eq (a b c : Int) : spec_l1In.f a b c = some (inB a b c) := by
  unfold spec_l1In.f
  rw [ite_dand]; rfl

theorem spec_IsTime_eq (a : Int) : spec_IsTime.f a = some (timeB a) := by
  unfold spec_IsTime.f
  rw [spec_l1In_eq]; rfl

theorem spec_IsName_eq (a : Int) : spec_IsName.f a = some (nameB a) := by
  unfold spec_IsName.f
  rw [spec_l1In_eq]; rfl

theorem spec_HasKind_eq (a b : Int) : spec_HasKind.f a b = some (kindB a b) := by
  unfold spec_HasKind.f kindB
  rw [spec_IsName_eq, Option.bind_some]
  cases h : nameB a with
  | true => simp only [if_true, name_div h, Bool.true_and]
  | false => rfl

/-- The actions of a grant: in range, ascending. -/
def ascG (l : List Int) (i : Nat) : Bool := inB (rd l (i : Int)) 0 5 && (decide (i = 0) || decide (rd l ((i - 1 : Nat) : Int) < rd l (i : Int)))
/-- The grant at place i is in order. -/
def grX (x : S51) (i : Nat) : Bool := decide (x.f0 = (i : Int) + 1) && (kindB x.f1 1 && (kindB x.f2 1 && (!decide (x.f1 = x.f2) && (timeB x.f4 && (inB x.f5 0 (i : Int) && allN x.f3.length (ascG x.f3))))))
def grP (l : List S51) (i : Nat) : Bool := grX (rd_T51 l (i : Int)) i
def grantsB (l : List S51) : Bool := allN l.length (grP l) && decide ((l.length : Int) ≤ 12)
theorem spec_AreGrants_ev (l : List S51) (h : l.length + (l.map n51).sum ≤ 2097152) : Ev (fun k => spec_AreGrants.f k l) (grantsB l) := by
  unfold spec_AreGrants.f grantsB
  refine ev_all l.length (grP l) _ (fun k i => spec_AreGrants.l0 k l i) ?_ ?_
  · refine Ev.succ ?_
    simp only [spec_AreGrants.l0, Int.lt_irrefl, if_false]
    exact Ev.now _
  · intro i hi
    have h1 : ((i : Int) < (l.length : Int)) = True := eq_true (by omega)
    have h2 : (0 ≤ (i : Int)) = True := eq_true (by omega)
    have h3 := wr1 hi (show l.length ≤ 9223372036854775807 by omega)
    have h4 : wrap64 ((i : Int) + 1) = (i : Int) + 1 := by rw [h3]; omega
    obtain ⟨x, hx⟩ := getAt hi
    have hrd : rd_T51 l (i : Int) = x := rd_at_T51 hx
    have hn : x.f3.length ≤ 2097152 := by have := le_sum n51 hx; have e : n51 x = x.f3.length := rfl; omega
    have step : ∀ j, j < x.f3.length → (ascG x.f3 j = true → ∀ r, Ev (fun k => spec_AreGrants.l1 k l (i : Int) ((j + 1 : Nat) : Int) x.f0 x.f1 x.f2 x.f3 x.f4 x.f5 x.f6) r → Ev (fun k => spec_AreGrants.l1 k l (i : Int) (j : Int) x.f0 x.f1 x.f2 x.f3 x.f4 x.f5 x.f6) r) ∧ (ascG x.f3 j = false → Ev (fun k => spec_AreGrants.l1 k l (i : Int) (j : Int) x.f0 x.f1 x.f2 x.f3 x.f4 x.f5 x.f6) false) := by
      intro j hj
      have j1 : ((j : Int) < (x.f3.length : Int)) = True := eq_true (by omega)
      have j2 : (0 ≤ (j : Int)) = True := eq_true (by omega)
      have j3 := wr1 hj (show x.f3.length ≤ 9223372036854775807 by omega)
      constructor
      · intro hp r hr
        simp only [ascG, Bool.and_eq_true, Bool.or_eq_true, decide_eq_true_eq] at hp
        refine Ev.succ ?_
        simp only [spec_AreGrants.l1, j1, j2, if_true, spec_l1In_eq, Option.bind_some, hp.1, j3]
        by_cases c : j = 0
        · exact Ev.neg (by omega) hr
        · simp only [if_pos (show (j : Int) > 0 by omega), wrm (show 0 < j by omega) (by omega), if_pos (show 0 ≤ ((j - 1 : Nat) : Int) by omega), if_pos (show ((j - 1 : Nat) : Int) < (x.f3.length : Int) by omega)]
          exact Ev.neg (by have := hp.2; omega) hr
      · intro hp
        refine Ev.succ ?_
        simp only [spec_AreGrants.l1, j1, j2, if_true, spec_l1In_eq, Option.bind_some, j3]
        cases c0 : inB (rd x.f3 (j : Int)) 0 5 with
        | false => exact Ev.now _
        | true =>
          simp only [ascG, c0, Bool.true_and, Bool.or_eq_false_iff, decide_eq_false_iff_not] at hp
          simp only [if_true, if_pos (show (j : Int) > 0 by omega), wrm (show 0 < j by omega) (by omega), if_pos (show 0 ≤ ((j - 1 : Nat) : Int) by omega), if_pos (show ((j - 1 : Nat) : Int) < (x.f3.length : Int) by omega)]
          exact Ev.pos (by omega) (Ev.now _)
    have bad : Ev (fun k => spec_AreGrants.j1 k l (i : Int) true x.f0 x.f1 x.f2 x.f3 x.f4 x.f5 x.f6) false := by
      refine Ev.succ ?_
      simp only [spec_AreGrants.j1, if_true]
      exact Ev.now _
    have good : ∀ r, Ev (fun k => spec_AreGrants.l1 k l (i : Int) 0 x.f0 x.f1 x.f2 x.f3 x.f4 x.f5 x.f6) r → Ev (fun k => spec_AreGrants.j1 k l (i : Int) false x.f0 x.f1 x.f2 x.f3 x.f4 x.f5 x.f6) r := by
      intro r hr
      refine Ev.succ ?_
      simp only [spec_AreGrants.j1, Bool.false_eq_true, if_false]
      exact hr
    unfold grP
    rw [hrd]
    constructor
    · intro hp r hr
      simp only [grX, Bool.and_eq_true, Bool.not_eq_true', decide_eq_true_eq, decide_eq_false_iff_not] at hp
      obtain ⟨p1, p2, p3, p4, p5, p6, p7⟩ := hp
      refine Ev.succ ?_
      simp only [spec_AreGrants.l0, h1, h2, if_true, hrd, h4, if_pos p1, spec_HasKind_eq, spec_IsTime_eq, spec_l1In_eq, Option.bind_some, p2, p3, if_neg p4, p5, p6, Bool.not_true]
      refine good r (ev_allT x.f3.length (ascG x.f3) (fun k j => spec_AreGrants.l1 k l (i : Int) j x.f0 x.f1 x.f2 x.f3 x.f4 x.f5 x.f6) r p7 ?_ (fun j hj hpj hr' => (step j hj).1 hpj r hr'))
      refine Ev.succ ?_
      simp only [spec_AreGrants.l1, Int.lt_irrefl, if_false, h3]
      exact hr
    · intro hp
      refine Ev.succ ?_
      unfold grX at hp
      simp only [spec_AreGrants.l0, h1, h2, if_true, hrd, h4, spec_HasKind_eq, spec_IsTime_eq, spec_l1In_eq, Option.bind_some]
      by_cases c1 : x.f0 = (i : Int) + 1
      rotate_left
      · simp only [if_neg c1]; exact bad
      simp only [if_pos c1]
      cases c2 : kindB x.f1 1 with
      | false => simp only [Bool.false_eq_true, if_false]; exact bad
      | true =>
      cases c3 : kindB x.f2 1 with
      | false => simp only [Bool.false_eq_true, if_false, if_true]; exact bad
      | true =>
      by_cases c4 : x.f1 = x.f2
      · simp only [if_pos c4, if_true]; exact bad
      cases c5 : timeB x.f4 with
      | false => simp only [if_neg c4, Bool.false_eq_true, if_false, if_true]; exact bad
      | true =>
      cases c6 : inB x.f5 0 (i : Int) with
      | false => simp only [if_neg c4, Bool.not_false, if_true]; exact bad
      | true =>
      simp only [if_neg c4, Bool.not_true, if_true]
      have p7 : allN x.f3.length (ascG x.f3) = false := by
        simpa [c1, c2, c3, c4, c5, c6] using hp
      exact good _ (ev_allF x.f3.length (ascG x.f3) (fun k j => spec_AreGrants.l1 k l (i : Int) j x.f0 x.f1 x.f2 x.f3 x.f4 x.f5 x.f6) false p7 (fun j hj => ⟨fun hpj hr' => (step j hj).1 hpj _ hr', (step j hj).2⟩))

def addE (l : List S51) (g : S51) : List S51 := l ++ [⟨(l.length : Int) + 1, g.f1, g.f2, g.f3, g.f4, g.f5, false⟩]
def addGV (l : List S51) (g : S51) : List S51 × Bool := if grantsB l = true ∧ grantsB (addE l g) = true then (addE l g, true) else (l, false)
theorem addE_size (l : List S51) (g : S51) : (addE l g).length + ((addE l g).map n51).sum = l.length + (l.map n51).sum + 1 + g.f3.length := by
  unfold addE
  rw [List.length_append, List.length_singleton, List.map_append, List.sum_append, List.map_cons, List.map_nil, List.sum_cons, List.sum_nil]
  unfold n51
  dsimp only
  omega
theorem addGV_size (l : List S51) (g : S51) : (addGV l g).1.length + ((addGV l g).1.map n51).sum ≤ l.length + (l.map n51).sum + 1 + g.f3.length := by
  unfold addGV
  split
  · rw [addE_size]; exact Nat.le_refl _
  · show l.length + (l.map n51).sum ≤ _; omega
theorem spec_AddGrant_ev (l : List S51) (g : S51) (h : l.length + (l.map n51).sum + g.f3.length ≤ 1048575 + 1) : Ev (fun k => spec_AddGrant.f k l g.f0 g.f1 g.f2 g.f3 g.f4 g.f5 g.f6) (addGV l g) := by
  unfold spec_AddGrant.f addGV
  have h0 : (([] : List S51).length + l.length < 1954687338268) = True := eq_true (by rw [List.length_nil]; omega)
  have h1 : (l.length + ([(⟨wrap64 ((l.length : Int) + 1), g.f1, g.f2, g.f3, g.f4, g.f5, false⟩ : S51)] : List S51).length < 1954687338268) = True := eq_true (by rw [List.length_singleton]; omega)
  simp only [Option.bind_some, h0, if_true, List.nil_append, h1]
  rw [wr (x := (l.length : Int) + 1) (by omega) (by omega)]
  have hE := addE_size l g
  have h2 : (addE l g).length + ((addE l g).map n51).sum ≤ 1048575 + 2 := by omega
  refine Ev.bind (spec_l30Copy_ev (addE l g) (by omega)) ?_
  refine Ev.bind (spec_AreGrants_ev l (by omega)) ?_
  by_cases c : grantsB l = true
  · refine Ev.pos c ?_
    refine Ev.bind (spec_AreGrants_ev (addE l g) (by omega)) ?_
    by_cases c2 : grantsB (addE l g) = true
    · rw [if_pos ⟨c, c2⟩]; exact Ev.pos c2 (Ev.now _)
    · rw [if_neg (fun h => c2 h.2)]
      refine Ev.neg c2 ?_
      refine Ev.bind (spec_l30Copy_ev l (by omega)) ?_
      exact Ev.now _
  · rw [if_neg (fun h => c h.1)]
    refine Ev.neg c ?_
    refine Ev.bind (spec_l30Copy_ev l (by omega)) ?_
    exact Ev.now _

theorem impl_copyGrants_ev (l : List S51) (h : l.length + (l.map n51).sum ≤ 2097152) : Ev (fun k => impl_copyGrants.f k l) l := by
  unfold impl_copyGrants.f
  have e : l = l.foldl (fun s x => s ++ [x]) [] := by rw [foldl_snoc]; rfl
  conv => rhs; rw [e]
  refine ev_fold l (fun s x => s ++ [x]) id (fun i s => s.length = i) (fun k s i => impl_copyGrants.l0 k s l (l.length : Int) i) ?_ ?_ ?_ [] rfl
  · intro s _
    refine Ev.succ ?_
    simp only [impl_copyGrants.l0, Int.lt_irrefl, if_false]
    exact Ev.now _
  · intro i x s hx hs
    simp [hs]
  · intro i x s r hx hs hr
    have hi := lt_of_get hx
    have hn := le_sum n51 hx
    unfold n51 at hn
    have hs' : s.length = i := hs
    have h1 : ((i : Int) < (l.length : Int)) = True := eq_true (by omega)
    have h2 : (0 ≤ (i : Int)) = True := eq_true (by omega)
    have h3 : (s.length < 1954687338268) = True := eq_true (by omega)
    have h4 : (([] : List Int).length + x.f3.length < 17592186044416) = True := eq_true (by rw [List.length_nil]; unfold n51 at h; omega)
    refine Ev.succ ?_
    simp only [impl_copyGrants.l0, h1, h2, h3, h4, if_true, rd_at_T51 hx, wr1 hi (by omega), Option.bind_some, List.nil_append]
    exact hr

theorem impl_InRange_eq (a b c : Int) : impl_InRange.f a b c = some (inB a b c) := by
  unfold impl_InRange.f
  rw [ite_dand]; rfl

theorem impl_IsName_eq (a : Int) : impl_IsName.f a = some (nameB a) := by
  unfold impl_IsName.f
  rw [impl_InRange_eq]; rfl

theorem impl_KindOf_eq (a : Int) : impl_KindOf.f a = some (if nameB a = true then a / 10 else 0) := by
  unfold impl_KindOf.f
  rw [impl_IsName_eq, Option.bind_some]
  cases h : nameB a with
  | true => simp only [if_true, name_div h]
  | false => rfl

theorem impl_HasKind_eq (a b : Int) : impl_HasKind.f a b = some (kindB a b) := by
  unfold impl_HasKind.f kindB
  rw [impl_IsName_eq, impl_KindOf_eq, Option.bind_some]
  cases h : nameB a with
  | true => simp only [if_true, Option.bind_some, Bool.true_and]
  | false => rfl

theorem impl_IsTime_eq (a : Int) : impl_IsTime.f a = some (timeB a) := by
  unfold impl_IsTime.f
  rw [impl_InRange_eq]; rfl

/-- Strictly ascending, and all in a range. -/
def ascP (l : List Int) (a b : Int) (i : Nat) : Bool := inB (rd l (i : Int)) a b && (decide (i = 0) || decide (rd l ((i - 1 : Nat) : Int) < rd l (i : Int)))
theorem impl_isAscending_ev (l : List Int) (a b : Int) (h : l.length ≤ 9223372036854775807) : Ev (fun k => impl_isAscending.f k l a b) (allN l.length (ascP l a b) && true) := by
  unfold impl_isAscending.f
  refine ev_all l.length (ascP l a b) true (fun k i => impl_isAscending.l0 k l a b l (l.length : Int) i) ?_ ?_
  · refine Ev.succ ?_
    simp only [impl_isAscending.l0, Int.lt_irrefl, if_false]
    exact Ev.now _
  · intro i hi
    have h1 : ((i : Int) < (l.length : Int)) = True := eq_true (by omega)
    have h2 : (0 ≤ (i : Int)) = True := eq_true (by omega)
    constructor
    · intro hp r hr
      simp only [ascP, Bool.and_eq_true, Bool.or_eq_true, decide_eq_true_eq] at hp
      refine Ev.succ ?_
      simp only [impl_isAscending.l0, h1, h2, if_true, impl_InRange_eq, Option.bind_some, hp.1, wr1 hi h]
      by_cases c : i = 0
      · exact Ev.neg (by omega) hr
      · simp only [if_pos (show (i : Int) > 0 by omega), wrm (show 0 < i by omega) (by omega), if_pos (show 0 ≤ ((i - 1 : Nat) : Int) by omega), if_pos (show ((i - 1 : Nat) : Int) < (l.length : Int) by omega)]
        exact Ev.neg (by have := hp.2; omega) hr
    · intro hp
      refine Ev.succ ?_
      simp only [impl_isAscending.l0, h1, h2, if_true, impl_InRange_eq, Option.bind_some, wr1 hi h]
      cases c0 : inB (rd l (i : Int)) a b with
      | false => exact Ev.now _
      | true =>
        simp only [ascP, c0, Bool.true_and, Bool.or_eq_false_iff, decide_eq_false_iff_not] at hp
        simp only [if_true, if_pos (show (i : Int) > 0 by omega), wrm (show 0 < i by omega) (by omega), if_pos (show 0 ≤ ((i - 1 : Nat) : Int) by omega), if_pos (show ((i - 1 : Nat) : Int) < (l.length : Int) by omega)]
        exact Ev.pos (by omega) (Ev.now _)

theorem impl_AreGrants_ev (l : List S51) (h : l.length + (l.map n51).sum ≤ 2097152) : Ev (fun k => impl_AreGrants.f k l) (grantsB l) := by
  unfold impl_AreGrants.f grantsB
  refine ev_all l.length (grP l) _ (fun k i => impl_AreGrants.l0 k l l (l.length : Int) i) ?_ ?_
  · refine Ev.succ ?_
    simp only [impl_AreGrants.l0, Int.lt_irrefl, if_false]
    exact Ev.now _
  · intro i hi
    have h1 : ((i : Int) < (l.length : Int)) = True := eq_true (by omega)
    have h2 : (0 ≤ (i : Int)) = True := eq_true (by omega)
    have h3 := wr1 hi (show l.length ≤ 9223372036854775807 by omega)
    have h4 : wrap64 ((i : Int) + 1) = (i : Int) + 1 := by rw [h3]; omega
    obtain ⟨x, hx⟩ := getAt hi
    have hrd : rd_T51 l (i : Int) = x := rd_at_T51 hx
    have hn : x.f3.length ≤ 2097152 := by have := le_sum n51 hx; have e : n51 x = x.f3.length := rfl; omega
    have hasc : Ev (fun k => impl_isAscending.f k x.f3 0 5) (allN x.f3.length (ascG x.f3)) := by
      have := impl_isAscending_ev x.f3 0 5 (by omega)
      rwa [Bool.and_true] at this
    unfold grP
    rw [hrd]
    have key : ∀ r, (grX x i = true → Ev (fun k => impl_AreGrants.l0 k l l (l.length : Int) ((i + 1 : Nat) : Int)) r) → Ev (fun k => impl_AreGrants.l0 k l l (l.length : Int) (i : Int)) (if grX x i = true then r else false) := by
      intro r hr
      refine Ev.succ ?_
      unfold grX at hr ⊢
      simp only [impl_AreGrants.l0, h1, h2, if_true, hrd, h3, impl_HasKind_eq, impl_IsTime_eq, impl_InRange_eq, Option.bind_some]
      by_cases c1 : x.f0 = ((i + 1 : Nat) : Int)
      rotate_left
      · have d1 : decide (x.f0 = (i : Int) + 1) = false := decide_eq_false (by omega)
        simp only [if_neg c1, d1, Bool.false_and, Bool.false_eq_true, if_false]; exact Ev.now _
      have d1 : decide (x.f0 = (i : Int) + 1) = true := decide_eq_true (by omega)
      simp only [d1, Bool.true_and] at hr
      simp only [if_pos c1, d1, Bool.true_and]
      cases c2 : kindB x.f1 1 with
      | false => simp only [Bool.false_and, Bool.false_eq_true, if_false]; exact Ev.now _
      | true =>
      cases c3 : kindB x.f2 1 with
      | false => simp only [Bool.true_and, Bool.false_and, Bool.false_eq_true, if_false, if_true]; exact Ev.now _
      | true =>
      by_cases c4 : x.f1 = x.f2
      · simp only [if_pos c4, decide_eq_true c4, Bool.not_true, Bool.true_and, Bool.false_and, Bool.false_eq_true, if_false, if_true]; exact Ev.now _
      simp only [if_neg c4, decide_eq_false c4, Bool.not_false, Bool.true_and, if_true]
      refine Ev.bind hasc ?_
      simp only [c2, c3, c4, decide_false, Bool.not_false, Bool.true_and] at hr
      cases c7 : allN x.f3.length (ascG x.f3) with
      | false => simp only [Bool.and_false, Bool.false_eq_true, if_false]; exact Ev.now _
      | true =>
      cases c5 : timeB x.f4 with
      | false => simp only [Bool.false_and, Bool.false_eq_true, if_false, if_true]; exact Ev.now _
      | true =>
      cases c6 : inB x.f5 0 (i : Int) with
      | false => simp only [Bool.true_and, Bool.false_and, Bool.false_eq_true, if_false, if_true]; exact Ev.now _
      | true =>
      simp only [Bool.true_and, if_true]
      exact hr (by rw [c5, c6, c7]; rfl)
    constructor
    · intro hp r hr
      have := key r (fun _ => hr)
      rwa [if_pos hp] at this
    · intro hp
      have := key false (fun h => by rw [hp] at h; cases h)
      rwa [hp] at this

theorem impl_AddGrant_ev (l : List S51) (g : S51) (h : l.length + (l.map n51).sum + g.f3.length ≤ 1048575 + 1) : Ev (fun k => impl_AddGrant.f k l g.f0 g.f1 g.f2 g.f3 g.f4 g.f5 g.f6) (addGV l g) := by
  unfold impl_AddGrant.f addGV
  rw [wr (x := (l.length : Int) + 1) (by omega) (by omega)]
  have hE := addE_size l g
  have hone : ([(⟨(l.length : Int) + 1, g.f1, g.f2, g.f3, g.f4, g.f5, false⟩ : S51)].map n51).sum = g.f3.length := by
    rw [List.map_cons, List.map_nil, List.sum_cons, List.sum_nil]; rfl
  refine Ev.bind (impl_copyGrants_ev l (by omega)) ?_
  refine Ev.bind (impl_copyGrants_ev [(⟨(l.length : Int) + 1, g.f1, g.f2, g.f3, g.f4, g.f5, false⟩ : S51)] (by rw [hone, List.length_singleton]; omega)) ?_
  have h1 : (l.length + ([(⟨(l.length : Int) + 1, g.f1, g.f2, g.f3, g.f4, g.f5, false⟩ : S51)] : List S51).length < 1954687338268) = True := eq_true (by rw [List.length_singleton]; omega)
  simp only [h1, if_true, Option.bind_some]
  refine Ev.bind (impl_AreGrants_ev l (by omega)) ?_
  by_cases c : grantsB l = true
  · refine Ev.pos c ?_
    refine Ev.bind (impl_AreGrants_ev (addE l g) (by omega)) ?_
    by_cases c2 : grantsB (addE l g) = true
    · rw [if_pos ⟨c, c2⟩]; exact Ev.pos c2 (Ev.now _)
    · rw [if_neg (fun h => c2 h.2)]
      refine Ev.neg c2 ?_
      refine Ev.bind (impl_copyGrants_ev l (by omega)) ?_
      exact Ev.now _
  · rw [if_neg (fun h => c h.1)]
    refine Ev.neg c ?_
    refine Ev.bind (impl_copyGrants_ev l (by omega)) ?_
    exact Ev.now _

theorem laws_markGrant_ev (x : S51) (n : Int) (h : x.f3.length ≤ 9223372036854775807) : Ev (fun k => laws_markGrant.f k x.f0 x.f1 x.f2 x.f3 x.f4 x.f5 x.f6 n) ((acc mkI x.f3 n).2, (acc mkI x.f3 n).1) := by
  unfold laws_markGrant.f
  refine Ev.bind (laws_markIntS_ev x.f3 h n) ?_
  exact Ev.now _

theorem FnExactAddGrant : laws_FnExactAddGrant.Pure := by
  intro l x h1 h2 hx
  refine Ev.rounds ?_
  unfold laws_FnExactAddGrant.f
  obtain ⟨r, e, hr1, hr⟩ := laws_szGrantS_le l h1 h2 1048576 (by omega) (by omega)
  refine Ev.bind e ?_
  by_cases c : r < 0
  · simp only [if_pos c]; exact Ev.now _
  simp only [if_neg c]
  have hb := hr (by omega)
  obtain ⟨r2, e2, hr3, hr4⟩ := laws_szGrant_le x hx r (by omega) (by omega)
  simp only [e2, Option.bind_some]
  by_cases c2 : r2 < 0
  · simp only [if_pos c2]; exact Ev.now _
  simp only [if_neg c2]
  have hb2 := hr4 (by omega)
  have hnx : n51 (cv48 x) = n48 x := rfl
  have hfx : (cv48 x).f3.length = n48 x := rfl
  have hs : ((l.map cv48).map n51).sum = (l.map n48).sum := by rw [List.map_map]; rfl
  have hm : (l.map cv48).length + ((l.map cv48).map n51).sum + (cv48 x).f3.length ≤ 1048576 := by rw [List.length_map, hs, hfx]; omega
  have hm0 : (l.map cv48).length + ((l.map cv48).map n51).sum ≤ 2097152 := by omega
  have hS := spec_AddGrant_ev (l.map cv48) (cv48 x) (by omega)
  have hI := impl_AddGrant_ev (l.map cv48) (cv48 x) (by omega)
  have hl := addGV_size (l.map cv48) (cv48 x)
  generalize addGV (l.map cv48) (cv48 x) = v at hS hI hl
  have hv : v.1.length + (v.1.map n51).sum ≤ 2097152 := by omega
  have hup : (acc mk51 (l.map cv48) 1).2 = 1 + (((l.map cv48).map fun y => 6 + y.f3.length).sum : Nat) := acc_count _ _ _ mk51_up _ _ (by omega) (by rw [sum_add]; unfold n51 at hm0; omega)
  have hn1 : ((acc mkI (cv48 x).f3 (acc mk51 (l.map cv48) 1).2).2 < 0) = False := acc_nonneg2 _ _ _ mkI_up _ _ (by rw [hup]; omega) (by rw [hup, sum_add, sum_const]; unfold n51 at hm0; omega)
  have hn2 : ((acc mk51 v.1 1).2 < 0) = False := acc_nonneg _ _ _ mk51_up _ (by rw [sum_add]; unfold n51 at hv; omega)
  repeat (first
    | exact Ev.now _
    | ((first | refine Ev.bind (laws_toGrantS_ev l (by omega)) ?_ | refine Ev.bind (laws_toGrant_ev x (by omega)) ?_ | refine Ev.bind (hS) ?_ | refine Ev.bind (hI) ?_ | refine Ev.bind (laws_eqGrantS_refl _ (by omega)) ?_ | refine Ev.bind (laws_eqGrant_refl (cv48 x) (by rw [hnx]; omega)) ?_ | refine Ev.bind (laws_markGrantS_ev _ (by omega) _) ?_ | refine Ev.bind (laws_markGrant_ev (cv48 x) _ (by rw [hfx]; omega)) ?_ | refine Ev.bind (laws_heldGrantS_ev _ (by omega) 1 (by omega) (by rw [sum_add]; unfold n51 at hv; omega)) ?_); try simp only [if_true, if_false, bne_self_eq_false, Bool.false_eq_true, Bool.not_true, hn1, hn2])
    | simp only [if_true, if_false, bne_self_eq_false, Bool.false_eq_true, Bool.not_true, hn1, hn2])

end Go.Proofs.Ytplfbjbbnjlnkaa.Pure
