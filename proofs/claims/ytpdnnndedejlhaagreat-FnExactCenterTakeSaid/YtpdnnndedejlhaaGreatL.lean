import Derived.Test.YtpdnnndedejlhaaGreatWWords
import Derived.Test.YtpdnnndedejlhaaGreatH
/- Plain lemmas on rounds, loops over lists and 64-bit sums: no program in sight. -/
namespace Go.Proofs.YtpdnnndedejlhaaGreatL
open Go.RowKit Go.Proofs.YtpdnnndedejlhaaGreatW.PrintWords Go.Proofs.YtpdnnndedejlhaaGreatH
set_option linter.unusedVariables false
theorem wr {x : Int} (h1 : -9223372036854775808 ≤ x) (h2 : x ≤ 9223372036854775807) : wrap64 x = x := by unfold wrap64; omega
theorem wr1 {i n : Nat} (h : i < n) (hn : n ≤ 9223372036854775807) : wrap64 ((i : Int) + 1) = ((i + 1 : Nat) : Int) := by rw [wr (by omega) (by omega)]; omega
theorem wrm {i : Nat} (h : 0 < i) (hn : i ≤ 9223372036854775807) : wrap64 ((i : Int) - 1) = ((i - 1 : Nat) : Int) := by rw [wr (by omega) (by omega)]; omega
theorem rd_nat (l : List Int) (i : Nat) (x : Int) (h : l[i]? = some x) : rd l (i : Int) = x := by
  simp [rd, List.getD_eq_getElem?_getD, h]
theorem getD_nat {α : Type} (l : List α) (z : α) (i : Nat) (x : α) (h : l[i]? = some x) : l.getD (i : Int).toNat z = x := by
  simp [List.getD_eq_getElem?_getD, h]
theorem lt_of_get {α : Type} {l : List α} {i : Nat} {x : α} (h : l[i]? = some x) : i < l.length := (List.getElem?_eq_some_iff.1 h).1
theorem getAt {α : Type} {l : List α} {i : Nat} (h : i < l.length) : ∃ x, l[i]? = some x := ⟨_, List.getElem?_eq_getElem h⟩
section
variable {ρ α β : Type}
theorem Ev.next {g f : Nat → Option ρ} {r : ρ} (h : ∀ k, g (k + 1) = f k) (k : Ev f r) : Ev g r := Ev.step h k
theorem Ev.succ {g : Nat → Option ρ} {r : ρ} (h : Ev (fun k => g (k + 1)) r) : Ev g r := Ev.step (f := fun k => g (k + 1)) (fun _ => rfl) h
theorem le_sum (n : α → Nat) {l : List α} {i : Nat} {x : α} (h : l[i]? = some x) : n x ≤ (l.map n).sum := by
  have := List.mem_of_getElem? h
  induction l generalizing i with
  | nil => simp at this
  | cons y l ih =>
    simp only [List.map_cons, List.sum_cons]
    rcases List.mem_cons.1 this with rfl | hm
    · omega
    · obtain ⟨j, hj⟩ := List.getElem?_of_mem hm
      have := ih hj hm
      omega
theorem Ev.ite {c : Prop} [Decidable c] {g f : Nat → Option ρ} {r : ρ} (h1 : c → Ev g r) (h2 : ¬ c → Ev f r) : Ev (fun k => if c then g k else f k) r := by
  by_cases h : c
  · simp only [if_pos h]; exact h1 h
  · simp only [if_neg h]; exact h2 h
theorem Ev.pos {c : Prop} [Decidable c] {g f : Nat → Option ρ} {r : ρ} (h : c) (h1 : Ev g r) : Ev (fun k => if c then g k else f k) r := by
  simp only [if_pos h]; exact h1
theorem Ev.neg {c : Prop} [Decidable c] {g f : Nat → Option ρ} {r : ρ} (h : ¬ c) (h1 : Ev f r) : Ev (fun k => if c then g k else f k) r := by
  simp only [if_neg h]; exact h1
theorem ev_walk (l : List α) (L : Nat → Int → Option ρ) (r : ρ) (hend : Ev (fun k => L k (l.length : Int)) r)
    (hstep : ∀ (i : Nat) (x : α), l[i]? = some x → Ev (fun k => L k ((i + 1 : Nat) : Int)) r → Ev (fun k => L k (i : Int)) r) : Ev (fun k => L k 0) r := by
  have key : ∀ d i : Nat, l.length - i = d → i ≤ l.length → Ev (fun k => L k (i : Int)) r := by
    intro d
    induction d with
    | zero => intro i hd hi; obtain rfl : i = l.length := by omega
              exact hend
    | succ d ih =>
      intro i hd hi
      obtain ⟨x, hx⟩ := getAt (l := l) (i := i) (by omega)
      exact hstep i x hx (ih (i + 1) (by omega) (by omega))
  exact key l.length 0 (by omega) (by omega)
theorem ev_loop {σ : Type} (l : List α) (L : Nat → σ → Int → Option ρ) (R : σ → List α → ρ) (I : Nat → σ → Prop)
    (hend : ∀ s, I l.length s → Ev (fun k => L k s (l.length : Int)) (R s []))
    (hstep : ∀ (i : Nat) (x : α) (s : σ), l[i]? = some x → I i s → (∀ s', I (i + 1) s' → Ev (fun k => L k s' ((i + 1 : Nat) : Int)) (R s' (l.drop (i + 1)))) → Ev (fun k => L k s (i : Int)) (R s (x :: l.drop (i + 1)))) :
    ∀ s, I 0 s → Ev (fun k => L k s 0) (R s l) := by
  have key : ∀ d i : Nat, l.length - i = d → i ≤ l.length → ∀ s, I i s → Ev (fun k => L k s (i : Int)) (R s (l.drop i)) := by
    intro d
    induction d with
    | zero => intro i hd hi s hs; obtain rfl : i = l.length := by omega
              rw [List.drop_length]; exact hend s hs
    | succ d ih =>
      intro i hd hi s hs
      obtain ⟨x, hx⟩ := getAt (l := l) (i := i) (by omega)
      have hd2 : l.drop i = x :: l.drop (i + 1) := by
        rw [List.drop_eq_getElem_cons (lt_of_get hx)]
        congr 1
        exact (List.getElem?_eq_some_iff.1 hx).2
      rw [hd2]
      exact hstep i x s hx hs (fun s' hs' => ih (i + 1) (by omega) (by omega) s' hs')
  intro s hs
  have := key l.length 0 (by omega) (by omega) s hs
  rwa [List.drop_zero] at this
theorem ev_fill (l : List α) (conv : α → β) (L : Nat → List β → Int → Option (List β)) (hend : ∀ out, out.length = l.length → Ev (fun k => L k out (l.length : Int)) out)
    (hstep : ∀ (i : Nat) (x : α) (out : List β) (r : List β), l[i]? = some x → out.length = l.length → Ev (fun k => L k (out.set i (conv x)) ((i + 1 : Nat) : Int)) r → Ev (fun k => L k out (i : Int)) r)
    (out : List β) (ho : out.length = l.length) : Ev (fun k => L k out 0) (l.map conv) := by
  have key : ∀ d i : Nat, l.length - i = d → i ≤ l.length → ∀ out : List β, out.length = l.length → Ev (fun k => L k out (i : Int)) (out.take i ++ (l.drop i).map conv) := by
    intro d
    induction d with
    | zero => intro i hd hi out ho; obtain rfl : i = l.length := by omega
              rw [List.drop_length, List.map_nil, List.append_nil, ← ho, List.take_length, ho]; exact hend out ho
    | succ d ih =>
      intro i hd hi out ho
      obtain ⟨x, hx⟩ := getAt (l := l) (i := i) (by omega)
      refine hstep i x out _ hx ho ?_
      have h2 := ih (i + 1) (by omega) (by omega) (out.set i (conv x)) (by simpa using ho)
      have e : (out.set i (conv x)).take (i + 1) ++ (l.drop (i + 1)).map conv = out.take i ++ (l.drop i).map conv := by
        have hd2 : l.drop i = x :: l.drop (i + 1) := by
          rw [List.drop_eq_getElem_cons (lt_of_get hx)]
          congr 1
          exact (List.getElem?_eq_some_iff.1 hx).2
        rw [hd2, List.map_cons, List.take_succ_eq_append_getElem (by rw [List.length_set]; omega), List.getElem_set_self, List.take_set_of_le (Nat.le_refl i), List.append_assoc]
        rfl
      rw [e] at h2
      exact h2
  have := key l.length 0 (by omega) (by omega) out ho
  simpa using this
theorem ev_sz (n : α → Nat) (l : List α) (L : Nat → Int → Int → Option Int) (B : Int) (hend : ∀ a, Ev (fun k => L k a (l.length : Int)) a)
    (hstep : ∀ (i : Nat) (x : α) (a : Int), l[i]? = some x → 0 ≤ a → a ≤ B → (∃ r, Ev (fun k => L k a (i : Int)) r ∧ r < 0) ∨ ∃ a', 0 ≤ a' ∧ a' + n x ≤ a ∧ ∀ r, Ev (fun k => L k a' ((i + 1 : Nat) : Int)) r → Ev (fun k => L k a (i : Int)) r) :
    ∀ a, 0 ≤ a → a ≤ B → ∃ r, Ev (fun k => L k a 0) r ∧ r ≤ B ∧ (0 ≤ r → r + ((l.map n).sum : Nat) ≤ a) := by
  have key : ∀ d i : Nat, l.length - i = d → i ≤ l.length → ∀ a, 0 ≤ a → a ≤ B → ∃ r, Ev (fun k => L k a (i : Int)) r ∧ r ≤ B ∧ (0 ≤ r → r + (((l.drop i).map n).sum : Nat) ≤ a) := by
    intro d
    induction d with
    | zero => intro i hd hi a h0 ha; obtain rfl : i = l.length := by omega
              exact ⟨a, hend a, ha, fun _ => by simp⟩
    | succ d ih =>
      intro i hd hi a h0 ha
      obtain ⟨x, hx⟩ := getAt (l := l) (i := i) (by omega)
      have hd2 : l.drop i = x :: l.drop (i + 1) := by
        rw [List.drop_eq_getElem_cons (lt_of_get hx)]
        congr 1
        exact (List.getElem?_eq_some_iff.1 hx).2
      rcases hstep i x a hx h0 ha with ⟨r, h1, h2⟩ | ⟨a', h1, h2, h3⟩
      · exact ⟨r, h1, by omega, fun h => by omega⟩
      · obtain ⟨r, h4, h5, h6⟩ := ih (i + 1) (by omega) (by omega) a' h1 (by omega)
        refine ⟨r, h3 r h4, h5, fun h => ?_⟩
        have := h6 h
        rw [hd2, List.map_cons, List.sum_cons]
        omega
  intro a h0 ha
  have := key l.length 0 (by omega) (by omega) a h0 ha
  simpa using this
def findB (n : Nat) (p : Nat → Bool) (hit : Nat → ρ) (miss : ρ) : ρ := match (List.range n).find? p with | some i => hit i | none => miss
theorem ev_find (n : Nat) (p : Nat → Bool) (hit : Nat → ρ) (miss : ρ) (L : Nat → Int → Option ρ) (hend : Ev (fun k => L k (n : Int)) miss)
    (hstep : ∀ i, i < n → (p i = false → ∀ r, Ev (fun k => L k ((i + 1 : Nat) : Int)) r → Ev (fun k => L k (i : Int)) r) ∧ (p i = true → Ev (fun k => L k (i : Int)) (hit i))) : Ev (fun k => L k 0) (findB n p hit miss) := by
  have key : ∀ d i : Nat, n - i = d → i ≤ n → (∀ j, j < i → p j = false) → Ev (fun k => L k (i : Int)) (findB n p hit miss) := by
    intro d
    induction d with
    | zero =>
      intro i hd hi hp
      obtain rfl : i = n := by omega
      have e : findB i p hit miss = miss := by
        unfold findB
        rw [List.find?_eq_none.2 (fun x hx => by rw [hp x (List.mem_range.1 hx)]; simp)]
      rw [e]; exact hend
    | succ d ih =>
      intro i hd hi hp
      obtain ⟨h1, h2⟩ := hstep i (by omega)
      cases hq : p i with
      | false => exact h1 hq _ (ih (i + 1) (by omega) (by omega) (fun j hj => by
          rcases Nat.lt_succ_iff_lt_or_eq.1 hj with h | h
          · exact hp j h
          · rw [h]; exact hq))
      | true =>
        have e : findB n p hit miss = hit i := by
          unfold findB
          rw [show (List.range n).find? p = some i from by
            rw [List.find?_range_eq_some]
            exact ⟨hq, List.mem_range.2 (by omega), fun j hj => by rw [hp j hj]; rfl⟩]
        rw [e]; exact h2 hq
  exact key n 0 (by omega) (by omega) (fun j hj => absurd hj (by omega))
def allN (n : Nat) (p : Nat → Bool) : Bool := (List.range n).all p
def anyN (n : Nat) (p : Nat → Bool) : Bool := (List.range n).any p
theorem findB_all (n : Nat) (p : Nat → Bool) (b : Bool) : findB n (fun i => !p i) (fun _ => false) b = (allN n p && b) := by
  unfold findB allN
  split
  · rename_i i h
    have := List.find?_some h
    have hm := List.mem_of_find?_eq_some h
    have : (List.range n).all p = false := by
      rw [List.all_eq_false]; exact ⟨i, hm, by simpa using this⟩
    rw [this]; rfl
  · rename_i h
    have : (List.range n).all p = true := by
      rw [List.all_eq_true]; intro i hi
      have := List.find?_eq_none.1 h i hi
      simpa using this
    rw [this]; rfl
theorem ev_all (n : Nat) (p : Nat → Bool) (b : Bool) (L : Nat → Int → Option Bool) (hend : Ev (fun k => L k (n : Int)) b)
    (hstep : ∀ i, i < n → (p i = true → ∀ r, Ev (fun k => L k ((i + 1 : Nat) : Int)) r → Ev (fun k => L k (i : Int)) r) ∧ (p i = false → Ev (fun k => L k (i : Int)) false)) : Ev (fun k => L k 0) (allN n p && b) := by
  rw [← findB_all]
  exact ev_find n (fun i => !p i) _ _ L hend (fun i hi => ⟨fun h => (hstep i hi).1 (by simpa using h), fun h => (hstep i hi).2 (by simpa using h)⟩)
theorem Ev.bifT {b r : Bool} {g : Nat → Option Bool} (h : b = true → Ev g r) : Ev (fun k => if b = true then g k else some false) (b && r) := by
  cases b with
  | false => simp only [Bool.false_eq_true, if_false, Bool.false_and]; exact Ev.now _
  | true => simp only [if_true, Bool.true_and]; exact h rfl
theorem Ev.eqv {g : Nat → Option ρ} {a b : ρ} (e : a = b) (h : Ev g a) : Ev g b := e ▸ h
theorem ev_fold {σ : Type} (l : List α) (step : σ → α → σ) (fin : σ → ρ) (I : Nat → σ → Prop) (L : Nat → σ → Int → Option ρ) (hend : ∀ s, I l.length s → Ev (fun k => L k s (l.length : Int)) (fin s))
    (hI : ∀ (i : Nat) x s, l[i]? = some x → I i s → I (i + 1) (step s x))
    (hstep : ∀ (i : Nat) x s r, l[i]? = some x → I i s → Ev (fun k => L k (step s x) ((i + 1 : Nat) : Int)) r → Ev (fun k => L k s (i : Int)) r) : ∀ s, I 0 s → Ev (fun k => L k s 0) (fin (l.foldl step s)) :=
  ev_loop l L (fun s rest => fin (rest.foldl step s)) I hend (fun i x s hx hs ih => hstep i x s _ hx hs (ih _ (hI i x s hx hs)))
def idxV (p : α → Bool) : List α → Int → Int
  | [], _ => -1
  | x :: xs, i => if p x = true then i else idxV p xs (i + 1)
theorem idxV_from (p : α → Bool) : ∀ (l : List α) (i : Int), (idxV p l i = -1 ∧ ∀ x ∈ l, p x = false) ∨ ∃ (j : Nat) (x : α), idxV p l i = i + j ∧ l[j]? = some x ∧ p x = true ∧ ∀ (m : Nat) (y : α), m < j → l[m]? = some y → p y = false
  | [], _ => .inl ⟨rfl, fun x hx => by simp at hx⟩
  | x :: xs, i => by
    simp only [idxV]
    cases hp : p x with
    | true => exact .inr ⟨0, x, by simp, rfl, hp, fun m y hm => absurd hm (by omega)⟩
    | false =>
      simp only [Bool.false_eq_true, if_false]
      rcases idxV_from p xs (i + 1) with ⟨h1, h2⟩ | ⟨j, y, h1, h2, h3, h4⟩
      · exact .inl ⟨h1, fun z hz => (List.mem_cons.1 hz).elim (fun e => by rw [e]; exact hp) (h2 z)⟩
      · refine .inr ⟨j + 1, y, by omega, by simpa using h2, h3, fun m z hm hz => ?_⟩
        cases m with
        | zero => simp at hz; rw [← hz]; exact hp
        | succ m => exact h4 m z (by omega) (by simpa using hz)
theorem idxV_spec (p : α → Bool) (l : List α) : (idxV p l 0 = -1 ∧ ∀ x ∈ l, p x = false) ∨ ∃ (j : Nat) (x : α), idxV p l 0 = j ∧ l[j]? = some x ∧ p x = true ∧ ∀ (m : Nat) (y : α), m < j → l[m]? = some y → p y = false := by
  rcases idxV_from p l 0 with h | ⟨j, x, h1, h⟩
  · exact .inl h
  · exact .inr ⟨j, x, by omega, h⟩
theorem ev_idx (l : List α) (p : α → Bool) (hit : Int → ρ) (L : Nat → Int → Option ρ) (hend : Ev (fun k => L k (l.length : Int)) (hit (-1)))
    (hstep : ∀ (i : Nat) (x : α), l[i]? = some x → (p x = false → ∀ r, Ev (fun k => L k ((i + 1 : Nat) : Int)) r → Ev (fun k => L k (i : Int)) r) ∧ (p x = true → Ev (fun k => L k (i : Int)) (hit i))) : Ev (fun k => L k 0) (hit (idxV p l 0)) := by
  have key : ∀ (b a : List α), a ++ b = l → Ev (fun k => L k (a.length : Int)) (hit (idxV p b a.length)) := by
    intro b
    induction b with
    | nil => intro a h; have : a = l := by simpa using h
             subst this; exact hend
    | cons x b ih =>
      intro a h
      obtain ⟨h1, h2⟩ := hstep a.length x (by rw [← h]; simp)
      simp only [idxV]
      cases hp : p x with
      | true => exact h2 hp
      | false =>
        have := ih (a ++ [x]) (by simpa using h)
        simp only [List.length_append, List.length_singleton] at this
        exact h1 hp _ this
  exact key l [] rfl
def allZ (p : α → β → Bool) : List α → List β → Bool
  | x :: xs, y :: ys => p x y && allZ p xs ys
  | _, _ => true
theorem Ev.band {g f : Nat → Option Bool} {c b : Bool} (hg : Ev g c) (hf : c = true → Ev f b) : Ev (fun k => (g k).bind fun t => if t = true then f k else some false) (c && b) := by
  refine Ev.bind hg ?_
  cases c with
  | false => simp only [Bool.false_eq_true, if_false, Bool.false_and]; exact Ev.now _
  | true => simp only [if_true, Bool.true_and]; exact hf rfl
theorem ite_and (b c : Bool) : (if b = true then some c else some false) = some (b && c) := by cases b <;> rfl
theorem ite_dand {p : Prop} [Decidable p] (c : Bool) : (if p then some c else some false) = some (decide p && c) := by by_cases h : p <;> simp [h]
def inB (n a b : Int) : Bool := decide (a ≤ n) && decide (n ≤ b)
def timeB (t : Int) : Bool := inB t 0 10000
def nameB (n : Int) : Bool := inB n 10 49
def kindB (n k : Int) : Bool := nameB n && (n / 10 == k)
theorem inB_iff {n a b : Int} : inB n a b = true ↔ a ≤ n ∧ n ≤ b := by simp [inB]
theorem name_div {n : Int} (h : nameB n = true) : wrap64 (Int.tdiv n 10) = n / 10 := by
  have := inB_iff.1 h
  rw [Int.tdiv_eq_ediv_of_nonneg (by omega), wr (by omega) (by omega)]
def acc (m : α → Int → α × Int) : List α → Int → List α × Int
  | [], n => ([], n)
  | x :: xs, n => ((m x n).1 :: (acc m xs (m x n).2).1, (acc m xs (m x n).2).2)
theorem acc_length (m : α → Int → α × Int) : ∀ (l : List α) (n : Int), (acc m l n).1.length = l.length
  | [], _ => rfl
  | x :: xs, n => by simp [acc, acc_length m xs]
theorem ev_held2 (m : α → Int → α × Int) (c : α → Nat) (B : Int) (hm : ∀ x n, 0 ≤ n → n + c x ≤ B → (m x n).2 = n + c x) (L : Nat → List α → Int → Int → Option Int) (l0 : List α) (hend : ∀ (l : List α) n, l.length = l0.length → Ev (fun k => L k l n (l0.length : Int)) n)
    (hstep : ∀ (l : List α) (i : Nat) (x : α) (n : Int) (r : Int), l.length = l0.length → x ∈ l0 → 0 ≤ n → n + c x ≤ B → l[i]? = some (m x n).1 → Ev (fun k => L k l (m x n).2 ((i + 1 : Nat) : Int)) r → Ev (fun k => L k l n (i : Int)) r)
    (n : Int) (h0 : 0 ≤ n) (hB : n + ((l0.map c).sum : Nat) ≤ B) : Ev (fun k => L k (acc m l0 n).1 n 0) (acc m l0 n).2 := by
  have key : ∀ (b : List α) (a : List α) (n : Int), 0 ≤ n → n + ((b.map c).sum : Nat) ≤ B → (∀ x ∈ b, x ∈ l0) → (a ++ (acc m b n).1).length = l0.length → Ev (fun k => L k (a ++ (acc m b n).1) n (a.length : Int)) (acc m b n).2 := by
    intro b
    induction b with
    | nil => intro a n _ _ _ h; have h' : a.length = l0.length := by simpa [acc] using h
             have := hend (a ++ []) n (by simpa using h'); rw [← h'] at this; simpa [acc] using this
    | cons x b ih =>
      intro a n h0 hB hb h
      simp only [List.map_cons, List.sum_cons] at hB
      refine hstep _ a.length x n _ h (hb x List.mem_cons_self) h0 (by omega) (by simp [acc]) ?_
      have h1 := hm x n h0 (by omega)
      have h2 := ih (a ++ [(m x n).1]) (m x n).2 (by rw [h1]; omega) (by rw [h1]; omega) (fun y hy => hb y (List.mem_cons_of_mem _ hy)) (by simpa [acc] using h)
      simpa [acc] using h2
  have := key l0 [] n h0 hB (fun _ h => h) (by simp [acc_length])
  simpa using this
theorem acc_up (m : α → Int → α × Int) (c : α → Nat) (hm : ∀ x n, (m x n).2 = n + (c x : Nat)) : ∀ (l : List α) (n : Int), (acc m l n).2 = n + ((l.map c).sum : Nat)
  | [], n => by simp [acc]
  | x :: l, n => by
    simp only [acc, acc_up m c hm l, hm, List.map_cons, List.sum_cons]
    omega
theorem sum_ct (c : α → Nat) (l : List α) {f : α → Nat} (h : ∀ x, c x ≤ 8 + 8 * f x) : (l.map c).sum ≤ 8 * (l.length + (l.map f).sum) := by
  induction l with
  | nil => simp
  | cons x l ih =>
    have := h x
    simp only [List.map_cons, List.sum_cons, List.length_cons]
    omega
theorem sum_ct0 (c : α → Nat) (l : List α) (h : ∀ x, c x ≤ 8) : (l.map c).sum ≤ 8 * l.length := by
  induction l with
  | nil => simp
  | cons x l ih =>
    have := h x
    simp only [List.map_cons, List.sum_cons, List.length_cons]
    omega
theorem ev_markB (m : α → Int → α × Int) (c : α → Nat) (B : Int) (hm : ∀ x n, (m x n).2 = n + (c x : Nat)) (L : Nat → List α → Int → Int → Option (Int × List α)) (l0 : List α) (hend : ∀ (l : List α) n, l.length = l0.length → Ev (fun k => L k l n (l0.length : Int)) (n, l))
    (hstep : ∀ (l : List α) (i : Nat) (x : α) (n : Int) (r : Int × List α), l.length = l0.length → x ∈ l0 → l[i]? = some x → 0 ≤ n → n + (c x : Nat) ≤ B → Ev (fun k => L k (l.set i (m x n).1) (m x n).2 ((i + 1 : Nat) : Int)) r → Ev (fun k => L k l n (i : Int)) r)
    (n : Int) (h0 : 0 ≤ n) (hB : n + ((l0.map c).sum : Nat) ≤ B) : Ev (fun k => L k l0 n 0) ((acc m l0 n).2, (acc m l0 n).1) := by
  have key : ∀ (b a : List α) (n : Int), (a ++ b).length = l0.length → (∀ x ∈ b, x ∈ l0) → 0 ≤ n → n + ((b.map c).sum : Nat) ≤ B → Ev (fun k => L k (a ++ b) n (a.length : Int)) ((acc m b n).2, a ++ (acc m b n).1) := by
    intro b
    induction b with
    | nil => intro a n h _ _ _; have h' : a.length = l0.length := by simpa using h
             have := hend (a ++ []) n h; rw [← h'] at this; simpa [acc] using this
    | cons x b ih =>
      intro a n h hb h0 hB
      simp only [List.map_cons, List.sum_cons] at hB
      refine hstep _ a.length x n _ h (hb x List.mem_cons_self) (by simp) h0 (by omega) ?_
      have e : (a ++ x :: b).set a.length (m x n).1 = (a ++ [(m x n).1]) ++ b := by simp
      have h2 := ih (a ++ [(m x n).1]) (m x n).2 (by simpa using h) (fun y hy => hb y (List.mem_cons_of_mem _ hy)) (by rw [hm]; omega) (by rw [hm]; omega)
      rw [e]
      simpa [acc] using h2
  have := key l0 [] n (by simp) (fun _ h => h) h0 hB
  simpa using this
end
end Go.Proofs.YtpdnnndedejlhaaGreatL
