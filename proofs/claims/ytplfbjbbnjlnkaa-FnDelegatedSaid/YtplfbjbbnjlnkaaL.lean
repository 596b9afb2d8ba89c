import Derived.Test.YtplfbjbbnjlnkaaWWords
import Derived.Test.YtplfbjbbnjlnkaaH
/- Plain lemmas on rounds, loops over lists and 64-bit sums: no program in sight. -/
namespace Go.Proofs.YtplfbjbbnjlnkaaL
open Go.RowKit Go.Proofs.YtplfbjbbnjlnkaaW.PrintWords Go.Proofs.YtplfbjbbnjlnkaaH
set_option linter.unusedVariables false

theorem wr {x : Int} (h1 : -9223372036854775808 ≤ x) (h2 : x ≤ 9223372036854775807) : wrap64 x = x := by unfold wrap64; omega
theorem wr1 {i n : Nat} (h : i < n) (hn : n ≤ 9223372036854775807) : wrap64 ((i : Int) + 1) = ((i + 1 : Nat) : Int) := by rw [wr (by omega) (by omega)]; omega
theorem wrm {i : Nat} (h : 0 < i) (hn : i ≤ 9223372036854775807) : wrap64 ((i : Int) - 1) = ((i - 1 : Nat) : Int) := by rw [wr (by omega) (by omega)]; omega
theorem rd_nat (l : List Int) (i : Nat) (x : Int) (h : l[i]? = some x) : rd l (i : Int) = x := by
  simp [rd, List.getD_eq_getElem?_getD, h]
theorem getD_nat {α : Type} (l : List α) (z : α) (i : Nat) (x : α) (h : l[i]? = some x) : l.getD (i : Int).toNat z = x := by
  simp [List.getD_eq_getElem?_getD, h]
theorem lt_of_get {α : Type} {l : List α} {i : Nat} {x : α} (h : l[i]? = some x) : i < l.length := (List.getElem?_eq_some_iff.1 h).1
theorem getAt {α : Type} {l : List α} {i : Nat} (h : i < l.length) : ∃ x, l[i]? = some x := ⟨_, List.getElem?_eq_getElem h⟩

section
variable {ρ α β : Type}
/-- One more round: the next is as f tells. -/
theorem Ev.next {g f : Nat → Option ρ} {r : ρ} (h : ∀ k, g (k + 1) = f k) (k : Ev f r) : Ev g r := Ev.step h k
theorem Ev.succ {g : Nat → Option ρ} {r : ρ} (h : Ev (fun k => g (k + 1)) r) : Ev g r := Ev.step (f := fun k => g (k + 1)) (fun _ => rfl) h
theorem le_sum (n : α → Nat) {l : List α} {i : Nat} {x : α} (h : l[i]? = some x) : n x ≤ (l.map n).sum := by
  have := List.mem_of_getElem? h
  induction l generalizing i with
  | nil => simp at this
  | cons y l ih =>
    simp only [List.map_cons, List.sum_cons]
    rcases List.mem_cons.1 this with rfl | hm
    · omega
    · obtain ⟨j, hj⟩ := List.getElem?_of_mem hm
      have := ih hj hm
      omega
theorem Ev.pos {c : Prop} [Decidable c] {g f : Nat → Option ρ} {r : ρ} (h : c) (h1 : Ev g r) : Ev (fun k => if c then g k else f k) r := by
  simp only [if_pos h]; exact h1
theorem Ev.neg {c : Prop} [Decidable c] {g f : Nat → Option ρ} {r : ρ} (h : ¬ c) (h1 : Ev f r) : Ev (fun k => if c then g k else f k) r := by
  simp only [if_neg h]; exact h1
/-- A loop with a state: R tells the end from the state and what is left; I holds of the state at each index. -/
theorem ev_loop {σ : Type} (l : List α) (L : Nat → σ → Int → Option ρ) (R : σ → List α → ρ) (I : Nat → σ → Prop)
    (hend : ∀ s, I l.length s → Ev (fun k => L k s (l.length : Int)) (R s []))
    (hstep : ∀ (i : Nat) (x : α) (s : σ), l[i]? = some x → I i s → (∀ s', I (i + 1) s' → Ev (fun k => L k s' ((i + 1 : Nat) : Int)) (R s' (l.drop (i + 1)))) → Ev (fun k => L k s (i : Int)) (R s (x :: l.drop (i + 1)))) :
    ∀ s, I 0 s → Ev (fun k => L k s 0) (R s l) := by
  have key : ∀ d i : Nat, l.length - i = d → i ≤ l.length → ∀ s, I i s → Ev (fun k => L k s (i : Int)) (R s (l.drop i)) := by
    intro d
    induction d with
    | zero => intro i hd hi s hs; obtain rfl : i = l.length := by omega
              rw [List.drop_length]; exact hend s hs
    | succ d ih =>
      intro i hd hi s hs
      obtain ⟨x, hx⟩ := getAt (l := l) (i := i) (by omega)
      have hd2 : l.drop i = x :: l.drop (i + 1) := by
        rw [List.drop_eq_getElem_cons (lt_of_get hx)]
        congr 1
        exact (List.getElem?_eq_some_iff.1 hx).2
      rw [hd2]
      exact hstep i x s hx hs (fun s' hs' => ih (i + 1) (by omega) (by omega) s' hs')
  intro s hs
  have := key l.length 0 (by omega) (by omega) s hs
  rwa [List.drop_zero] at this

/-- The first index at which p holds, or none. -/
def findB (n : Nat) (p : Nat → Bool) (hit : Nat → ρ) (miss : ρ) : ρ := match (List.range n).find? p with | some i => hit i | none => miss
theorem ev_find (n : Nat) (p : Nat → Bool) (hit : Nat → ρ) (miss : ρ) (L : Nat → Int → Option ρ) (hend : Ev (fun k => L k (n : Int)) miss)
    (hstep : ∀ i, i < n → (p i = false → ∀ r, Ev (fun k => L k ((i + 1 : Nat) : Int)) r → Ev (fun k => L k (i : Int)) r) ∧ (p i = true → Ev (fun k => L k (i : Int)) (hit i))) : Ev (fun k => L k 0) (findB n p hit miss) := by
  have key : ∀ d i : Nat, n - i = d → i ≤ n → (∀ j, j < i → p j = false) → Ev (fun k => L k (i : Int)) (findB n p hit miss) := by
    intro d
    induction d with
    | zero =>
      intro i hd hi hp
      obtain rfl : i = n := by omega
      have e : findB i p hit miss = miss := by
        unfold findB
        rw [List.find?_eq_none.2 (fun x hx => by rw [hp x (List.mem_range.1 hx)]; simp)]
      rw [e]; exact hend
    | succ d ih =>
      intro i hd hi hp
      obtain ⟨h1, h2⟩ := hstep i (by omega)
      cases hq : p i with
      | false => exact h1 hq _ (ih (i + 1) (by omega) (by omega) (fun j hj => by
          rcases Nat.lt_succ_iff_lt_or_eq.1 hj with h | h
          · exact hp j h
          · rw [h]; exact hq))
      | true =>
        have e : findB n p hit miss = hit i := by
          unfold findB
          rw [show (List.range n).find? p = some i from by
            rw [List.find?_range_eq_some]
            exact ⟨hq, List.mem_range.2 (by omega), fun j hj => by rw [hp j hj]; rfl⟩]
        rw [e]; exact h2 hq
  exact key n 0 (by omega) (by omega) (fun j hj => absurd hj (by omega))
def allN (n : Nat) (p : Nat → Bool) : Bool := (List.range n).all p
def anyN (n : Nat) (p : Nat → Bool) : Bool := (List.range n).any p
theorem allN_iff (n : Nat) (p : Nat → Bool) : allN n p = true ↔ ∀ i, i < n → p i = true := by
  unfold allN
  simp [List.all_eq_true]
theorem findB_all (n : Nat) (p : Nat → Bool) (b : Bool) : findB n (fun i => !p i) (fun _ => false) b = (allN n p && b) := by
  unfold findB allN
  split
  · rename_i i h
    have := List.find?_some h
    have hm := List.mem_of_find?_eq_some h
    have : (List.range n).all p = false := by
      rw [List.all_eq_false]; exact ⟨i, hm, by simpa using this⟩
    rw [this]; rfl
  · rename_i h
    have : (List.range n).all p = true := by
      rw [List.all_eq_true]; intro i hi
      have := List.find?_eq_none.1 h i hi
      simpa using this
    rw [this]; rfl
theorem findB_any (n : Nat) (p : Nat → Bool) : findB n p (fun _ => true) false = anyN n p := by
  unfold findB anyN
  split
  · rename_i i h
    exact (List.any_eq_true.2 ⟨i, List.mem_of_find?_eq_some h, List.find?_some h⟩).symm
  · rename_i h
    symm
    rw [List.any_eq_false]
    intro i hi
    exact List.find?_eq_none.1 h i hi
theorem ev_all (n : Nat) (p : Nat → Bool) (b : Bool) (L : Nat → Int → Option Bool) (hend : Ev (fun k => L k (n : Int)) b)
    (hstep : ∀ i, i < n → (p i = true → ∀ r, Ev (fun k => L k ((i + 1 : Nat) : Int)) r → Ev (fun k => L k (i : Int)) r) ∧ (p i = false → Ev (fun k => L k (i : Int)) false)) : Ev (fun k => L k 0) (allN n p && b) := by
  rw [← findB_all]
  exact ev_find n (fun i => !p i) _ _ L hend (fun i hi => ⟨fun h => (hstep i hi).1 (by simpa using h), fun h => (hstep i hi).2 (by simpa using h)⟩)
theorem ev_allT (n : Nat) (p : Nat → Bool) (L : Nat → Int → Option ρ) (r : ρ) (h : allN n p = true) (hend : Ev (fun k => L k (n : Int)) r)
    (hstep : ∀ i, i < n → p i = true → Ev (fun k => L k ((i + 1 : Nat) : Int)) r → Ev (fun k => L k (i : Int)) r) : Ev (fun k => L k 0) r := by
  have hp : ∀ i, i < n → p i = true := by
    unfold allN at h
    simpa [List.all_eq_true] using h
  have key : ∀ d i : Nat, n - i = d → i ≤ n → Ev (fun k => L k (i : Int)) r := by
    intro d
    induction d with
    | zero => intro i hd hi; obtain rfl : i = n := by omega
              exact hend
    | succ d ih => intro i hd hi; exact hstep i (by omega) (hp i (by omega)) (ih (i + 1) (by omega) (by omega))
  exact key n 0 (by omega) (by omega)
theorem ev_allF (n : Nat) (p : Nat → Bool) (L : Nat → Int → Option ρ) (r : ρ) (h : allN n p = false)
    (hstep : ∀ i, i < n → (p i = true → Ev (fun k => L k ((i + 1 : Nat) : Int)) r → Ev (fun k => L k (i : Int)) r) ∧ (p i = false → Ev (fun k => L k (i : Int)) r)) : Ev (fun k => L k 0) r := by
  have hex : ∃ i, i < n ∧ p i = false := by
    unfold allN at h
    rw [List.all_eq_false] at h
    obtain ⟨i, hi, hp⟩ := h
    exact ⟨i, List.mem_range.1 hi, by simpa using hp⟩
  obtain ⟨m, hm, hpm⟩ := hex
  have key : ∀ d i : Nat, m - i = d → i ≤ m → Ev (fun k => L k (i : Int)) r := by
    intro d
    induction d with
    | zero => intro i hd hi; obtain rfl : i = m := by omega
              exact (hstep i hm).2 hpm
    | succ d ih =>
      intro i hd hi
      cases hq : p i with
      | true => exact (hstep i (by omega)).1 hq (ih (i + 1) (by omega) (by omega))
      | false => exact (hstep i (by omega)).2 hq
  exact key m 0 (by omega) (by omega)
theorem ev_fold {σ : Type} (l : List α) (step : σ → α → σ) (fin : σ → ρ) (I : Nat → σ → Prop) (L : Nat → σ → Int → Option ρ) (hend : ∀ s, I l.length s → Ev (fun k => L k s (l.length : Int)) (fin s))
    (hI : ∀ (i : Nat) x s, l[i]? = some x → I i s → I (i + 1) (step s x))
    (hstep : ∀ (i : Nat) x s r, l[i]? = some x → I i s → Ev (fun k => L k (step s x) ((i + 1 : Nat) : Int)) r → Ev (fun k => L k s (i : Int)) r) : ∀ s, I 0 s → Ev (fun k => L k s 0) (fin (l.foldl step s)) :=
  ev_loop l L (fun s rest => fin (rest.foldl step s)) I hend (fun i x s hx hs ih => hstep i x s _ hx hs (ih _ (hI i x s hx hs)))

/-! ### the first place at which a predicate holds -/
def idxV (p : α → Bool) : List α → Int → Int
  | [], _ => -1
  | x :: xs, i => if p x = true then i else idxV p xs (i + 1)
theorem ev_idxO (q : Nat → α → Option Bool) (p : α → Bool) : ∀ (l : List α) (i : Int), (∀ x ∈ l, Ev (fun k => q k x) (p x)) → Ev (fun k => idxO (q k) l i) (idxV p l i)
  | [], _, _ => Ev.now _
  | x :: xs, i, h => by
    simp only [idxO, idxV]
    refine Ev.bind (h x List.mem_cons_self) ?_
    cases hp : p x with
    | true => exact Ev.now _
    | false => exact ev_idxO q p xs (i + 1) (fun y hy => h y (List.mem_cons_of_mem _ hy))
theorem idxV_from (p : α → Bool) : ∀ (l : List α) (i : Int), (idxV p l i = -1 ∧ ∀ x ∈ l, p x = false) ∨ ∃ (j : Nat) (x : α), idxV p l i = i + j ∧ l[j]? = some x ∧ p x = true ∧ ∀ (m : Nat) (y : α), m < j → l[m]? = some y → p y = false
  | [], _ => .inl ⟨rfl, fun x hx => by simp at hx⟩
  | x :: xs, i => by
    simp only [idxV]
    cases hp : p x with
    | true => exact .inr ⟨0, x, by simp, rfl, hp, fun m y hm => absurd hm (by omega)⟩
    | false =>
      simp only [Bool.false_eq_true, if_false]
      rcases idxV_from p xs (i + 1) with ⟨h1, h2⟩ | ⟨j, y, h1, h2, h3, h4⟩
      · exact .inl ⟨h1, fun z hz => (List.mem_cons.1 hz).elim (fun e => by rw [e]; exact hp) (h2 z)⟩
      · refine .inr ⟨j + 1, y, by omega, by simpa using h2, h3, fun m z hm hz => ?_⟩
        cases m with
        | zero => simp at hz; rw [← hz]; exact hp
        | succ m => exact h4 m z (by omega) (by simpa using hz)
theorem idxV_spec (p : α → Bool) (l : List α) : (idxV p l 0 = -1 ∧ ∀ x ∈ l, p x = false) ∨ ∃ (j : Nat) (x : α), idxV p l 0 = j ∧ l[j]? = some x ∧ p x = true ∧ ∀ (m : Nat) (y : α), m < j → l[m]? = some y → p y = false := by
  rcases idxV_from p l 0 with h | ⟨j, x, h1, h⟩
  · exact .inl h
  · exact .inr ⟨j, x, by omega, h⟩
theorem idxV_any (p : α → Bool) (l : List α) : decide (idxV p l 0 ≥ 0) = l.any p := by
  rcases idxV_spec p l with ⟨h1, h2⟩ | ⟨j, x, h1, h2, h3, _⟩
  · rw [h1, show l.any p = false from List.any_eq_false.2 (fun x hx => by rw [h2 x hx]; simp)]; rfl
  · rw [h1, show l.any p = true from List.any_eq_true.2 ⟨x, List.mem_of_getElem? h2, h3⟩]; exact decide_eq_true (by omega)
theorem ev_idx (l : List α) (p : α → Bool) (hit : Int → ρ) (L : Nat → Int → Option ρ) (hend : Ev (fun k => L k (l.length : Int)) (hit (-1)))
    (hstep : ∀ (i : Nat) (x : α), l[i]? = some x → (p x = false → ∀ r, Ev (fun k => L k ((i + 1 : Nat) : Int)) r → Ev (fun k => L k (i : Int)) r) ∧ (p x = true → Ev (fun k => L k (i : Int)) (hit i))) : Ev (fun k => L k 0) (hit (idxV p l 0)) := by
  have key : ∀ (b a : List α), a ++ b = l → Ev (fun k => L k (a.length : Int)) (hit (idxV p b a.length)) := by
    intro b
    induction b with
    | nil => intro a h; have : a = l := by simpa using h
             subst this; exact hend
    | cons x b ih =>
      intro a h
      obtain ⟨h1, h2⟩ := hstep a.length x (by rw [← h]; simp)
      simp only [idxV]
      cases hp : p x with
      | true => exact h2 hp
      | false =>
        have := ih (a ++ [x]) (by simpa using h)
        simp only [List.length_append, List.length_singleton] at this
        exact h1 hp _ this
  exact key l [] rfl

/-! ### two lists, element by element -/
def allZ (p : α → β → Bool) : List α → List β → Bool
  | x :: xs, y :: ys => p x y && allZ p xs ys
  | _, _ => true
/-! ### ladders of tests, and two rows element by element -/
/-! ### numbers, times, names -/
theorem ite_dand {p : Prop} [Decidable p] (c : Bool) : (if p then some c else some false) = some (decide p && c) := by by_cases h : p <;> simp [h]
def inB (n a b : Int) : Bool := decide (a ≤ n) && decide (n ≤ b)
def timeB (t : Int) : Bool := inB t 0 10000
def nameB (n : Int) : Bool := inB n 10 49
def kindB (n k : Int) : Bool := nameB n && (n / 10 == k)
theorem inB_iff {n a b : Int} : inB n a b = true ↔ a ≤ n ∧ n ≤ b := by simp [inB]
theorem name_div {n : Int} (h : nameB n = true) : wrap64 (Int.tdiv n 10) = n / 10 := by
  have := inB_iff.1 h
  rw [Int.tdiv_eq_ediv_of_nonneg (by omega), wr (by omega) (by omega)]

/-- Elements are marked one after the other, with a counter. -/
def acc (m : α → Int → α × Int) : List α → Int → List α × Int
  | [], n => ([], n)
  | x :: xs, n => ((m x n).1 :: (acc m xs (m x n).2).1, (acc m xs (m x n).2).2)
end
end Go.Proofs.YtplfbjbbnjlnkaaL
