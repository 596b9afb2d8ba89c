/- The law FnExactUsersOf answers true for all arguments, over numbers and lists alone: what each function computes, and that program and reference compute the same. No condition. -/
import Derived.Test.YtplfbjbbnjlnkaaQFnExactUsersOfx3
import Derived.Test.YtplfbjbbnjlnkaaL
namespace Go.Proofs.Ytplfbjbbnjlnkaa.Pure
open Go.RowKit Go.Proofs.Ytplfbjbbnjlnkaa.QFnExactUsersOf Go.Proofs.YtplfbjbbnjlnkaaL Go.Proofs.YtplfbjbbnjlnkaaW.PrintWords Go.Proofs.YtplfbjbbnjlnkaaW.PrintLast
set_option linter.unusedVariables false
set_option linter.unusedSimpArgs false

def cv133 (x : S133) : S117 := ⟨x.f0, x.f1, x.f2, x.f3⟩
theorem rd_at_T133 {l : List S133} {i : Nat} {x : S133} (h : l[i]? = some x) : rd_T133 l (i : Int) = x := getD_nat l _ i x h
theorem rd_at_T117 {l : List S117} {i : Nat} {x : S117} (h : l[i]? = some x) : rd_T117 l (i : Int) = x := getD_nat l _ i x h
def eqT117 (x y : S117) : Bool := (x.f0 == y.f0) && ((x.f1 == y.f1) && ((x.f2 == y.f2) && ((x.f3 == y.f3))))

theorem laws_szUseS_le (l : List (S133)) (hl : l.length ≤ maxLen) (a : Int) (h0 : 0 ≤ a) (ha : a ≤ 1048576) : ∃ r, laws_szUseS.f l a = some r ∧ r ≤ 1048576 ∧ (0 ≤ r → r + (l.length : Nat) ≤ a) := by
  unfold laws_szUseS.f
  unfold maxLen at hl
  rw [wr (by omega) (by omega)]
  split
  · exact ⟨_, rfl, by omega, by omega⟩
  · exact ⟨_, rfl, by omega, by omega⟩

theorem laws_toUse_eq (x : S133) : laws_toUse.f x.f0 x.f1 x.f2 x.f3 = some ((cv133 x).f0, (cv133 x).f1, (cv133 x).f2, (cv133 x).f3) := by
  unfold laws_toUse.f
  first | rfl | (simp only [Option.bind_some]; rfl)

theorem laws_toUseS_ev (l : List (S133)) (h : l.length ≤ 1048576) : Ev (fun k => laws_toUseS.f k l) (l.map cv133) := by
  unfold laws_toUseS.f
  refine Ev.pos (by omega) (Ev.pos (by omega) ?_)
  refine ev_fill l cv133 (fun k out i => laws_toUseS.l0 k l out i) ?_ ?_ _ (by simp)
  · intro out ho
    refine Ev.succ ?_
    simp only [laws_toUseS.l0, Int.lt_irrefl, if_false]
    exact Ev.now _
  · intro i x out r hx ho hr
    have hi := lt_of_get hx
    have h1 : ((i : Int) < (l.length : Int)) = True := eq_true (by omega)
    have h2 : (0 ≤ (i : Int)) = True := eq_true (by omega)
    have h3 : ((i : Int) < (out.length : Int)) = True := eq_true (by omega)
    refine Ev.succ ?_
    simp only [laws_toUseS.l0, h1, h2, h3, if_true, rd_at_T133 hx, wr1 hi (by omega), Int.toNat_natCast, laws_toUse_eq x, Option.bind_some]
    exact hr

theorem laws_eqUse_refl (x : S117) : laws_eqUse.f x.f0 x.f1 x.f2 x.f3 x.f0 x.f1 x.f2 x.f3 = some true := by
  unfold laws_eqUse.f
  simp

theorem laws_eqUseS_refl (l : List (S117)) (h : l.length ≤ 1048576) : Ev (fun k => laws_eqUseS.f k l l) true := by
  unfold laws_eqUseS.f
  refine Ev.pos rfl ?_
  refine ev_walk l (fun k i => laws_eqUseS.l0 k l l i) true ?_ ?_
  · refine Ev.succ ?_
    simp only [laws_eqUseS.l0, Int.lt_irrefl, if_false]
    exact Ev.now _
  · intro i x hx hr
    have hi := lt_of_get hx
    have h1 : ((i : Int) < (l.length : Int)) = True := eq_true (by omega)
    have h2 : (0 ≤ (i : Int)) = True := eq_true (by omega)
    refine Ev.succ ?_
    simp only [laws_eqUseS.l0, h1, h2, if_true, rd_at_T117 hx, wr1 hi (by omega), laws_eqUse_refl x, Option.bind_some]
    exact hr

def mk117 (x : S117) (n : Int) : S117 × Int := ((⟨n, wrap64 (n + 1), wrap64 ((wrap64 (n + 1)) + 1), wrap64 ((wrap64 ((wrap64 (n + 1)) + 1)) + 1)⟩ : S117), wrap64 ((wrap64 ((wrap64 ((wrap64 (n + 1)) + 1)) + 1)) + 1))
theorem mk117_up (x : S117) (n : Int) (h0 : 0 ≤ n) (h : n + (4 : Nat) ≤ 4611686018427387904) : (mk117 x n).2 = n + (4 : Nat) := by
  have e0 : wrap64 (n + 1) = n + 1 := wr (by omega) (by omega)
  have e1 : wrap64 (n + 1 + 1) = n + 1 + 1 := wr (by omega) (by omega)
  have e2 : wrap64 (n + 1 + 1 + 1) = n + 1 + 1 + 1 := wr (by omega) (by omega)
  have e3 : wrap64 (n + 1 + 1 + 1 + 1) = n + 1 + 1 + 1 + 1 := wr (by omega) (by omega)
  simp only [mk117, e0, e1, e2, e3]
  omega
theorem laws_markUseS_ev (l : List (S117)) (h : l.length ≤ 9223372036854775807) (n : Int) : Ev (fun k => laws_markUseS.f k l n) ((acc mk117 l n).2, (acc mk117 l n).1) := by
  unfold laws_markUseS.f
  refine ev_mark mk117 (fun k l n i => laws_markUseS.l0 k l n i) l.length ?_ ?_ l rfl n
  · intro l' n hl
    refine Ev.succ ?_
    simp only [laws_markUseS.l0, hl, Int.lt_irrefl, if_false]
    exact Ev.now _
  · intro l' i x n r hl hx hr
    have hi := lt_of_get hx
    have h1 : ((i : Int) < (l'.length : Int)) = True := eq_true (by omega)
    have h2 : (0 ≤ (i : Int)) = True := eq_true (by omega)
    refine Ev.succ ?_
    simp only [laws_markUseS.l0, h1, h2, if_true, wr1 hi (by omega), Int.toNat_natCast, Option.bind_some, List.set_set, rd_T117, List.getD_eq_getElem?_getD, List.getElem?_set_self hi, Option.getD_some, hx]
    exact hr

theorem mem_compactUpTo (d : Array Int) (x : Int) : ∀ m, x ∈ Go.Lib.compactUpTo d m ↔ ∃ j, j < m ∧ d[j]! = x
  | 0 => by simp [Go.Lib.compactUpTo]
  | m + 1 => by
    rw [Go.Lib.compactUpTo_succ, List.mem_append, mem_compactUpTo d x m]
    constructor
    · rintro (⟨j, hj, e⟩ | h)
      · exact ⟨j, by omega, e⟩
      · split at h
        · exact ⟨m, by omega, (List.mem_singleton.1 h).symm⟩
        · simp at h
    · rintro ⟨j, hj, e⟩
      by_cases hm : j = m
      · subst hm
        by_cases hk : Go.Lib.keeps d j = true
        · rw [if_pos hk]; exact .inr (by simp [e])
        · left
          unfold Go.Lib.keeps at hk
          have h0 : j ≠ 0 ∧ d[j]! = d[j - 1]! := by simpa using hk
          exact ⟨j - 1, by omega, by rw [← h0.2, e]⟩
      · exact .inl ⟨j, by omega, e⟩
theorem asc_compactUpTo (d : Array Int) (n : Nat) (hs : ∀ i j, i ≤ j → j < n → d[i]! ≤ d[j]!) : ∀ m, m ≤ n → (Go.Lib.compactUpTo d m).Pairwise (· < ·)
  | 0, _ => by simp [Go.Lib.compactUpTo]
  | m + 1, hm => by
    rw [Go.Lib.compactUpTo_succ, List.pairwise_append]
    refine ⟨asc_compactUpTo d n hs m (by omega), by split <;> simp, ?_⟩
    intro a ha b hb
    split at hb
    case isFalse => simp at hb
    case isTrue hk =>
    obtain rfl := List.mem_singleton.1 hb
    obtain ⟨j, hj, rfl⟩ := (mem_compactUpTo d a m).1 ha
    unfold Go.Lib.keeps at hk
    have h0 : m = 0 ∨ d[m]! ≠ d[m - 1]! := of_decide_eq_true hk
    have h1 := hs j (m - 1) (by omega) (by omega)
    have h2 := hs (m - 1) m (by omega) (by omega)
    rcases h0 with h0 | h0
    · omega
    · omega
theorem asc_ext : ∀ (a b : List Int), a.Pairwise (· < ·) → b.Pairwise (· < ·) → (∀ x, x ∈ a ↔ x ∈ b) → a = b
  | [], [], _, _, _ => rfl
  | [], y :: b, _, _, h => by have := (h y).2 (by simp); simp at this
  | x :: a, [], _, _, h => by have := (h x).1 (by simp); simp at this
  | x :: a, y :: b, ha, hb, h => by
    rw [List.pairwise_cons] at ha hb
    have hxy : x = y := by
      have h1 := (h x).1 (by simp)
      have h2 := (h y).2 (by simp)
      rcases List.mem_cons.1 h1 with e | e
      · exact e
      · rcases List.mem_cons.1 h2 with e2 | e2
        · exact e2.symm
        · have := hb.1 x e; have := ha.1 y e2; omega
    subst hxy
    rw [asc_ext a b ha.2 hb.2 (fun z => ⟨fun hz => ?_, fun hz => ?_⟩)]
    · rcases List.mem_cons.1 ((h z).1 (by simp [hz])) with e | e
      · have := ha.1 z hz; omega
      · exact e
    · rcases List.mem_cons.1 ((h z).2 (by simp [hz])) with e | e
      · have := hb.1 z hz; omega
      · exact e
theorem asc_sorted (l : List Int) : (Go.Lib.compact (l.mergeSort fun x y => decide (x ≤ y))).Pairwise (· < ·) ∧ ∀ x, x ∈ Go.Lib.compact (l.mergeSort fun x y => decide (x ≤ y)) ↔ x ∈ l := by
  have hp : (l.mergeSort fun x y => decide (x ≤ y)).Pairwise fun x y => decide (x ≤ y) = true := List.pairwise_mergeSort (fun a b c h1 h2 => by simp at h1 h2 ⊢; omega) (fun a b => by simp; omega) l
  have hm : ∀ x, x ∈ (l.mergeSort fun x y => decide (x ≤ y)) ↔ x ∈ l := fun x => List.mem_mergeSort
  generalize (l.mergeSort fun x y => decide (x ≤ y)) = s at hp hm
  unfold Go.Lib.compact
  have hs : ∀ i j, i ≤ j → j < s.length → s.toArray[i]! ≤ s.toArray[j]! := by
    intro i j hij hj
    rw [getElem!_pos _ _ (by simp; omega), getElem!_pos _ _ (by simpa using hj)]
    rcases Nat.lt_or_eq_of_le hij with h | h
    · have := List.pairwise_iff_getElem.1 hp i j (by omega) hj h
      simpa using this
    · subst h; exact Int.le_refl _
  refine ⟨asc_compactUpTo _ s.length hs _ (Nat.le_refl _), fun x => ?_⟩
  rw [mem_compactUpTo, ← hm x]
  constructor
  · rintro ⟨j, hj, rfl⟩
    rw [getElem!_pos _ _ (by simpa using hj)]; simp
  · intro h
    obtain ⟨j, hj, rfl⟩ := List.getElem_of_mem h
    exact ⟨j, hj, by rw [getElem!_pos _ _ (by simpa using hj)]; simp⟩
def usersN (f : Int → Bool) : Nat → List Int
  | 0 => []
  | d + 1 => if f (19 - d) = true then (19 - (d : Int)) :: usersN f d else usersN f d
theorem mem_usersN (f : Int → Bool) (x : Int) : ∀ d, x ∈ usersN f d ↔ 20 - (d : Int) ≤ x ∧ x ≤ 19 ∧ f x = true
  | 0 => by simp [usersN]; intros; omega
  | d + 1 => by
    unfold usersN
    split
    · rename_i h
      rw [List.mem_cons, mem_usersN f x d]
      constructor
      · rintro (rfl | ⟨h1, h2, h3⟩)
        · exact ⟨by omega, by omega, h⟩
        · exact ⟨by omega, h2, h3⟩
      · rintro ⟨h1, h2, h3⟩
        by_cases e : x = 19 - (d : Int)
        · exact .inl e
        · exact .inr ⟨by omega, h2, h3⟩
    · rename_i h
      rw [mem_usersN f x d]
      constructor
      · rintro ⟨h1, h2, h3⟩; exact ⟨by omega, h2, h3⟩
      · rintro ⟨h1, h2, h3⟩
        refine ⟨?_, h2, h3⟩
        by_cases e : x = 19 - (d : Int)
        · subst e; exact absurd h3 h
        · omega
theorem asc_usersN (f : Int → Bool) : ∀ d, (usersN f d).Pairwise (· < ·)
  | 0 => by simp [usersN]
  | d + 1 => by
    unfold usersN
    split
    · rw [List.pairwise_cons]
      exact ⟨fun x hx => by have := (mem_usersN f x d).1 hx; omega, asc_usersN f d⟩
    · exact asc_usersN f d
theorem usersN_len (f : Int → Bool) : ∀ d, (usersN f d).length ≤ d
  | 0 => by simp [usersN]
  | d + 1 => by unfold usersN; have := usersN_len f d; split <;> (try simp only [List.length_cons]) <;> omega
def useIs (a o p : Int) (u : S117) : Bool := decide (u.f0 = p) && (decide (u.f1 = a) && decide (u.f2 = o))
def hasU (l : List S117) (a o p : Int) : Bool := l.any (useIs a o p)
def usersV (l : List S117) (a o : Int) : List Int := usersN (hasU l a o) 10
theorem spec_UsersOf_in (l : List S117) (a o p : Int) (out r : List Int) (hl : l.length ≤ 1048576) (ho : out.length < 100) :
    ∀ d i : Nat, l.length - i = d → i ≤ l.length → Ev (fun k => spec_UsersOf.l0 k l a o (if (l.drop i).any (useIs a o p) = true then out ++ [p] else out) (wrap64 (p + 1))) r → Ev (fun k => spec_UsersOf.l1 k l a o out p (i : Int)) r := by
  intro d
  induction d with
  | zero =>
    intro i hd hi h
    obtain rfl : i = l.length := by omega
    refine Ev.succ ?_
    simp only [spec_UsersOf.l1, Int.lt_irrefl, if_false]
    simpa using h
  | succ d ih =>
    intro i hd hi h
    have hi' : i < l.length := by omega
    have hx : l[i]? = some l[i] := List.getElem?_eq_getElem hi'
    have h1 : ((i : Int) < (l.length : Int)) = True := eq_true (by omega)
    have h2 : (0 ≤ (i : Int)) = True := eq_true (by omega)
    have h3 : (out.length < 17592186044416) = True := eq_true (by omega)
    rw [List.drop_eq_getElem_cons hi', List.any_cons] at h
    generalize l[i] = x at hx h
    have no : useIs a o p x = false → Ev (fun k => spec_UsersOf.l1 k l a o out p ((i + 1 : Nat) : Int)) r := by
      intro e
      refine ih (i + 1) (by omega) (by omega) ?_
      rw [e] at h
      simpa only [Bool.false_or] using h
    have yes : useIs a o p x = true → Ev (fun k => spec_UsersOf.l0 k l a o (out ++ [p]) (wrap64 (p + 1))) r := by
      intro e
      rw [e] at h
      simpa only [Bool.true_or, if_true] using h
    refine Ev.succ ?_
    simp only [spec_UsersOf.l1, h1, h2, h3, if_true, rd_at_T117 hx, wr1 hi' (by omega)]
    unfold useIs at no yes
    by_cases c1 : x.f0 = p
    · by_cases c2 : x.f1 = a
      · by_cases c3 : x.f2 = o
        · simp only [c1, c2, c3, if_true]; exact yes (by simp [c1, c2, c3])
        · simp only [c1, c2, if_true, if_neg c3]; exact no (by simp [c3])
      · simp only [c1, if_true, if_neg c2]; exact no (by simp [c2])
    · simp only [if_neg c1]; exact no (by simp [c1])
theorem spec_UsersOf_ev (l : List S117) (a o : Int) (hl : l.length ≤ 1048576) : Ev (fun k => spec_UsersOf.f k l a o) (usersV l a o) := by
  unfold spec_UsersOf.f usersV
  have key : ∀ (d : Nat) (out : List Int), d ≤ 10 → out.length + d ≤ 10 → Ev (fun k => spec_UsersOf.l0 k l a o out (20 - (d : Int))) (out ++ usersN (hasU l a o) d) := by
    intro d
    induction d with
    | zero =>
      intro out _ _
      refine Ev.succ ?_
      have h : (((20 : Int) - ((0 : Nat) : Int)) ≤ 19) = False := eq_false (by omega)
      simp only [spec_UsersOf.l0, h, if_false, usersN, List.append_nil]
      exact Ev.now _
    | succ d ih =>
      intro out hd ho
      refine Ev.succ ?_
      have h : (((20 : Int) - ((d + 1 : Nat) : Int)) ≤ 19) = True := eq_true (by omega)
      simp only [spec_UsersOf.l0, h, if_true]
      refine spec_UsersOf_in l a o _ out _ hl (by omega) l.length 0 (by omega) (by omega) ?_
      rw [List.drop_zero, wr (show (-9223372036854775808 : Int) ≤ 20 - ((d + 1 : Nat) : Int) + 1 by omega) (by omega), show (20 : Int) - ((d + 1 : Nat) : Int) + 1 = 20 - (d : Int) by omega, show (20 : Int) - ((d + 1 : Nat) : Int) = 19 - (d : Int) by omega]
      change Ev (fun k => spec_UsersOf.l0 k l a o (if hasU l a o (19 - (d : Int)) = true then out ++ [19 - (d : Int)] else out) (20 - (d : Int))) _
      unfold usersN
      by_cases c : hasU l a o (19 - (d : Int)) = true
      · simp only [if_pos c]
        have := ih (out ++ [19 - (d : Int)]) (by omega) (by rw [List.length_append, List.length_singleton]; omega)
        rwa [List.append_assoc, List.singleton_append] at this
      · simp only [if_neg c]
        exact ih out (by omega) (by omega)
  have := key 10 [] (by omega) (by simp)
  rwa [List.nil_append, show (20 : Int) - ((10 : Nat) : Int) = 10 by decide] at this

theorem impl_InRange_eq (a b c : Int) : impl_InRange.f a b c = some (inB a b c) := by
  unfold impl_InRange.f
  rw [ite_dand]; rfl

theorem slices_Sort_int_int_eq (l : List Int) (h : l.length < 2199023255552) : slices_Sort_int_int.f l = some (l.mergeSort fun x y => decide (x ≤ y)) := by
  unfold slices_Sort_int_int.f
  rw [if_pos h]

theorem slices_Compact_int_int_eq (l : List Int) (h : l.length < 2199023255552) : slices_Compact_int_int.f l = some (Go.Lib.compact l) := by
  unfold slices_Compact_int_int.f
  rw [if_pos h]

def userStep (a o : Int) (s : List Int) (x : S117) : List Int := if x.f1 = a then (if x.f2 = o then (if inB x.f0 10 19 = true then s ++ [x.f0] else s) else s) else s
theorem userStep_len (a o : Int) (s : List Int) (x : S117) : (userStep a o s x).length ≤ s.length + 1 := by
  unfold userStep
  repeat' split
  all_goals (try rw [List.length_append, List.length_singleton]) <;> omega
theorem mem_userStep (a o : Int) (s : List Int) (x : S117) (p : Int) : p ∈ userStep a o s x ↔ p ∈ s ∨ (useIs a o p x = true ∧ 10 ≤ p ∧ p ≤ 19) := by
  unfold userStep useIs inB
  simp only [Bool.and_eq_true, decide_eq_true_eq]
  by_cases c1 : x.f1 = a
  · by_cases c2 : x.f2 = o
    · simp only [c1, c2, if_true, and_true]
      by_cases c3 : 10 ≤ x.f0 ∧ x.f0 ≤ 19
      · simp only [c3, and_self, if_true, List.mem_append, List.mem_singleton]
        constructor
        · rintro (h | rfl)
          · exact .inl h
          · exact .inr ⟨rfl, c3⟩
        · rintro (h | ⟨rfl, _⟩)
          · exact .inl h
          · exact .inr rfl
      · simp only [c3, if_false]
        constructor
        · exact fun h => .inl h
        · rintro (h | ⟨rfl, h⟩)
          · exact h
          · exact absurd h c3
    · simp only [c1, c2, if_true, if_false, and_false, false_and, or_false]
  · simp only [c1, if_false, false_and, and_false, or_false]
theorem mem_users (a o p : Int) : ∀ (l : List S117) (s : List Int), p ∈ l.foldl (userStep a o) s ↔ p ∈ s ∨ (l.any (useIs a o p) = true ∧ 10 ≤ p ∧ p ≤ 19)
  | [], s => by simp
  | x :: l, s => by
    rw [List.foldl_cons, mem_users a o p l, mem_userStep, List.any_cons, Bool.or_eq_true]
    constructor
    · rintro ((h | ⟨h, g⟩) | ⟨h, g⟩)
      · exact .inl h
      · exact .inr ⟨.inl h, g⟩
      · exact .inr ⟨.inr h, g⟩
    · rintro (h | ⟨h | h, g⟩)
      · exact .inl (.inl h)
      · exact .inl (.inr ⟨h, g⟩)
      · exact .inr ⟨h, g⟩
theorem users_eq (l : List S117) (a o : Int) : Go.Lib.compact ((l.foldl (userStep a o) []).mergeSort fun x y => decide (x ≤ y)) = usersV l a o := by
  obtain ⟨h1, h2⟩ := asc_sorted (l.foldl (userStep a o) [])
  refine asc_ext _ _ h1 (asc_usersN _ _) (fun p => ?_)
  rw [h2 p, mem_users a o p l []]
  unfold usersV
  rw [mem_usersN]
  unfold hasU
  constructor
  · rintro (h | ⟨h, g1, g2⟩)
    · simp at h
    · exact ⟨by omega, g2, h⟩
  · rintro ⟨g1, g2, h⟩
    exact .inr ⟨h, by omega, g2⟩
theorem impl_UsersOf_ev (l : List S117) (a o : Int) (h : l.length ≤ 1048576) : Ev (fun k => impl_UsersOf.f k l a o) (usersV l a o) := by
  rw [← users_eq]
  unfold impl_UsersOf.f
  refine ev_fold l (userStep a o) (fun s => Go.Lib.compact (s.mergeSort fun x y => decide (x ≤ y))) (fun i s => s.length ≤ i) (fun k s i => impl_UsersOf.l0 k a o s l (l.length : Int) i) ?_ ?_ ?_ [] (by simp)
  · intro s hs
    have hs' : s.length ≤ l.length := hs
    refine Ev.succ ?_
    simp only [impl_UsersOf.l0, Int.lt_irrefl, if_false]
    rw [slices_Sort_int_int_eq s (by omega), Option.bind_some, slices_Compact_int_int_eq _ (by rw [List.length_mergeSort]; omega), Option.bind_some]
    exact Ev.now _
  · intro i x s hx hs
    have := userStep_len a o s x
    show (userStep a o s x).length ≤ i + 1
    have hs' : s.length ≤ i := hs
    omega
  · intro i x s r hx hs hr
    have hi := lt_of_get hx
    have hs' : s.length ≤ i := hs
    have h1 : ((i : Int) < (l.length : Int)) = True := eq_true (by omega)
    have h2 : (0 ≤ (i : Int)) = True := eq_true (by omega)
    have h3 : (s.length < 17592186044416) = True := eq_true (by omega)
    refine Ev.succ ?_
    simp only [impl_UsersOf.l0, h1, h2, h3, if_true, rd_at_T117 hx, wr1 hi (by omega), impl_InRange_eq, Option.bind_some]
    unfold userStep at hr
    by_cases c : x.f1 = a
    · by_cases c2 : x.f2 = o
      · by_cases c3 : inB x.f0 10 19 = true
        · simp only [if_pos c, if_pos c2, if_pos c3] at hr ⊢; exact hr
        · simp only [if_pos c, if_pos c2, if_neg c3] at hr ⊢; exact hr
      · simp only [if_pos c, if_neg c2] at hr ⊢; exact hr
    · simp only [if_neg c] at hr ⊢; exact hr

theorem laws_eqIntS_refl (l : List Int) (h : l.length ≤ 1048576) : Ev (fun k => laws_eqIntS.f k l l) true := by
  unfold laws_eqIntS.f
  refine Ev.pos rfl ?_
  refine ev_walk l (fun k i => laws_eqIntS.l0 k l l i) true ?_ ?_
  · refine Ev.succ ?_
    simp only [laws_eqIntS.l0, Int.lt_irrefl, if_false]
    exact Ev.now _
  · intro i x hx hr
    have hi := lt_of_get hx
    have h1 : ((i : Int) < (l.length : Int)) = True := eq_true (by omega)
    have h2 : (0 ≤ (i : Int)) = True := eq_true (by omega)
    refine Ev.succ ?_
    simp only [laws_eqIntS.l0, h1, h2, if_true, rd_nat l i x hx, wr1 hi (by omega)]
    exact hr

def mkI (x : Int) (n : Int) : Int × Int := (n, wrap64 (n + 1))
theorem mkI_up (x : Int) (n : Int) (h0 : 0 ≤ n) (h : n + (1 : Nat) ≤ 4611686018427387904) : (mkI x n).2 = n + (1 : Nat) := by
  have e0 : wrap64 (n + 1) = n + 1 := wr (by omega) (by omega)
  simp only [mkI, e0]
  omega
theorem laws_markIntS_ev (l : List Int) (h : l.length ≤ 9223372036854775807) (n : Int) : Ev (fun k => laws_markIntS.f k l n) ((acc mkI l n).2, (acc mkI l n).1) := by
  unfold laws_markIntS.f
  refine ev_mark mkI (fun k l n i => laws_markIntS.l0 k l n i) l.length ?_ ?_ l rfl n
  · intro l' n hl
    refine Ev.succ ?_
    simp only [laws_markIntS.l0, hl, Int.lt_irrefl, if_false]
    exact Ev.now _
  · intro l' i x n r hl hx hr
    have hi := lt_of_get hx
    have h1 : ((i : Int) < (l'.length : Int)) = True := eq_true (by omega)
    have h2 : (0 ≤ (i : Int)) = True := eq_true (by omega)
    refine Ev.succ ?_
    simp only [laws_markIntS.l0, h1, h2, if_true, wr1 hi (by omega), Int.toNat_natCast, Option.bind_some, List.set_set, rd, List.getD_eq_getElem?_getD, List.getElem?_set_self hi, Option.getD_some, hx]
    exact hr

theorem laws_heldIntS_ev (l : List Int) (n : Int) (h0 : 0 ≤ n) (hB : n + ((l.map fun _ => 1).sum : Nat) ≤ 4611686018427387904) (h : l.length ≤ 9223372036854775807) : Ev (fun k => laws_heldIntS.f k (acc mkI l n).1 n) (acc mkI l n).2 := by
  unfold laws_heldIntS.f
  refine ev_held mkI (fun _ => 1) 4611686018427387904 mkI_up (fun k l n i => laws_heldIntS.l0 k l n i) l.length ?_ ?_ l rfl n h0 hB
  · intro l' n hl
    refine Ev.succ ?_
    simp only [laws_heldIntS.l0, hl, Int.lt_irrefl, if_false]
    exact Ev.now _
  · intro l' i x n r hl h0 hB hx hr
    have hi := lt_of_get hx
    have h1 : ((i : Int) < (l'.length : Int)) = True := eq_true (by omega)
    have h2 : (0 ≤ (i : Int)) = True := eq_true (by omega)
    refine Ev.succ ?_
    simp only [laws_heldIntS.l0, h1, h2, if_true, wr1 hi (by omega), rd_nat l' i _ hx]
    simp only [mkI, if_true]
    exact hr

theorem FnExactUsersOf : laws_FnExactUsersOf.Pure := by
  intro l a o h1 h2 _ _
  refine Ev.rounds ?_
  unfold laws_FnExactUsersOf.f
  obtain ⟨r, e, hr1, hr⟩ := laws_szUseS_le l h1 1048576 (by omega) (by omega)
  simp only [e, Option.bind_some]
  by_cases c : r < 0
  · simp only [if_pos c]; exact Ev.now _
  simp only [if_neg c]
  have hb := hr (by omega)
  have hm : (l.map cv133).length ≤ 1048576 := by rw [List.length_map]; omega
  have hS := spec_UsersOf_ev (l.map cv133) a o hm
  have hI := impl_UsersOf_ev (l.map cv133) a o hm
  have hl : (usersV (l.map cv133) a o).length ≤ 10 := usersN_len _ 10
  generalize usersV (l.map cv133) a o = v at hS hI hl
  have hv : v.length ≤ 1048576 := by omega
  have hn1 : ((acc mk117 (l.map cv133) 1).2 < 0) = False := acc_nonneg _ _ _ mk117_up _ (by rw [sum_const]; omega)
  have hn2 : ((acc mkI v 1).2 < 0) = False := acc_nonneg _ _ _ mkI_up _ (by rw [sum_const]; omega)
  repeat (first
    | exact Ev.now _
    | ((first | refine Ev.bind (laws_toUseS_ev l (by omega)) ?_ | refine Ev.bind (hS) ?_ | refine Ev.bind (hI) ?_ | refine Ev.bind (laws_eqUseS_refl _ hm) ?_ | refine Ev.bind (laws_eqIntS_refl _ hv) ?_ | refine Ev.bind (laws_markUseS_ev _ (by omega) _) ?_ | refine Ev.bind (laws_markIntS_ev _ (by omega) _) ?_ | refine Ev.bind (laws_heldIntS_ev _ 1 (by omega) (by rw [sum_const]; omega) (by omega)) ?_); try simp only [if_true, if_false, bne_self_eq_false, Bool.false_eq_true, Bool.not_true, hn1, hn2])
    | simp only [if_true, if_false, bne_self_eq_false, Bool.false_eq_true, Bool.not_true, hn1, hn2])

end Go.Proofs.Ytplfbjbbnjlnkaa.Pure
