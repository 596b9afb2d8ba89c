import Derived.Test.YtineejdlpcgnkaaWWords
import Derived.Test.YtineejdlpcgnkaaH
/- Plain lemmas on rounds, loops over lists and 64-bit sums: no program in sight. -/
namespace Go.Proofs.YtineejdlpcgnkaaL
open Go.RowKit Go.Proofs.YtineejdlpcgnkaaW.PrintWords Go.Proofs.YtineejdlpcgnkaaH
set_option linter.unusedVariables false

theorem wr {x : Int} (h1 : -9223372036854775808 ≤ x) (h2 : x ≤ 9223372036854775807) : wrap64 x = x := by unfold wrap64; omega
theorem wr1 {i n : Nat} (h : i < n) (hn : n ≤ 9223372036854775807) : wrap64 ((i : Int) + 1) = ((i + 1 : Nat) : Int) := by rw [wr (by omega) (by omega)]; omega
theorem rd_nat (l : List Int) (i : Nat) (x : Int) (h : l[i]? = some x) : rd l (i : Int) = x := by
  simp [rd, List.getD_eq_getElem?_getD, h]
theorem getD_nat {α : Type} (l : List α) (z : α) (i : Nat) (x : α) (h : l[i]? = some x) : l.getD (i : Int).toNat z = x := by
  simp [List.getD_eq_getElem?_getD, h]
theorem lt_of_get {α : Type} {l : List α} {i : Nat} {x : α} (h : l[i]? = some x) : i < l.length := (List.getElem?_eq_some_iff.1 h).1
theorem getAt {α : Type} {l : List α} {i : Nat} (h : i < l.length) : ∃ x, l[i]? = some x := ⟨_, List.getElem?_eq_getElem h⟩

section
variable {ρ α β : Type}
/-- One more round: the next is as f tells. -/
theorem Ev.next {g f : Nat → Option ρ} {r : ρ} (h : ∀ k, g (k + 1) = f k) (k : Ev f r) : Ev g r := Ev.step h k
theorem Ev.succ {g : Nat → Option ρ} {r : ρ} (h : Ev (fun k => g (k + 1)) r) : Ev g r := Ev.step (f := fun k => g (k + 1)) (fun _ => rfl) h
theorem le_sum (n : α → Nat) {l : List α} {i : Nat} {x : α} (h : l[i]? = some x) : n x ≤ (l.map n).sum := by
  have := List.mem_of_getElem? h
  induction l generalizing i with
  | nil => simp at this
  | cons y l ih =>
    simp only [List.map_cons, List.sum_cons]
    rcases List.mem_cons.1 this with rfl | hm
    · omega
    · obtain ⟨j, hj⟩ := List.getElem?_of_mem hm
      have := ih hj hm
      omega
theorem Ev.pos {c : Prop} [Decidable c] {g f : Nat → Option ρ} {r : ρ} (h : c) (h1 : Ev g r) : Ev (fun k => if c then g k else f k) r := by
  simp only [if_pos h]; exact h1
theorem Ev.neg {c : Prop} [Decidable c] {g f : Nat → Option ρ} {r : ρ} (h : ¬ c) (h1 : Ev f r) : Ev (fun k => if c then g k else f k) r := by
  simp only [if_neg h]; exact h1
/-- A loop that passes each element of a list. -/
theorem ev_walk (l : List α) (L : Nat → Int → Option ρ) (r : ρ) (hend : Ev (fun k => L k (l.length : Int)) r)
    (hstep : ∀ (i : Nat) (x : α), l[i]? = some x → Ev (fun k => L k ((i + 1 : Nat) : Int)) r → Ev (fun k => L k (i : Int)) r) : Ev (fun k => L k 0) r := by
  have key : ∀ d i : Nat, l.length - i = d → i ≤ l.length → Ev (fun k => L k (i : Int)) r := by
    intro d
    induction d with
    | zero => intro i hd hi; obtain rfl : i = l.length := by omega
              exact hend
    | succ d ih =>
      intro i hd hi
      obtain ⟨x, hx⟩ := getAt (l := l) (i := i) (by omega)
      exact hstep i x hx (ih (i + 1) (by omega) (by omega))
  exact key l.length 0 (by omega) (by omega)

/-- A loop that fills a row, element by element. -/
theorem ev_fill (l : List α) (conv : α → β) (L : Nat → List β → Int → Option (List β)) (hend : ∀ out, out.length = l.length → Ev (fun k => L k out (l.length : Int)) out)
    (hstep : ∀ (i : Nat) (x : α) (out : List β) (r : List β), l[i]? = some x → out.length = l.length → Ev (fun k => L k (out.set i (conv x)) ((i + 1 : Nat) : Int)) r → Ev (fun k => L k out (i : Int)) r)
    (out : List β) (ho : out.length = l.length) : Ev (fun k => L k out 0) (l.map conv) := by
  have key : ∀ d i : Nat, l.length - i = d → i ≤ l.length → ∀ out : List β, out.length = l.length → Ev (fun k => L k out (i : Int)) (out.take i ++ (l.drop i).map conv) := by
    intro d
    induction d with
    | zero => intro i hd hi out ho; obtain rfl : i = l.length := by omega
              rw [List.drop_length, List.map_nil, List.append_nil, ← ho, List.take_length, ho]; exact hend out ho
    | succ d ih =>
      intro i hd hi out ho
      obtain ⟨x, hx⟩ := getAt (l := l) (i := i) (by omega)
      refine hstep i x out _ hx ho ?_
      have h2 := ih (i + 1) (by omega) (by omega) (out.set i (conv x)) (by simpa using ho)
      have e : (out.set i (conv x)).take (i + 1) ++ (l.drop (i + 1)).map conv = out.take i ++ (l.drop i).map conv := by
        have hd2 : l.drop i = x :: l.drop (i + 1) := by
          rw [List.drop_eq_getElem_cons (lt_of_get hx)]
          congr 1
          exact (List.getElem?_eq_some_iff.1 hx).2
        rw [hd2, List.map_cons, List.take_succ_eq_append_getElem (by rw [List.length_set]; omega), List.getElem_set_self, List.take_set_of_le (Nat.le_refl i), List.append_assoc]
        rfl
      rw [e] at h2
      exact h2
  have := key l.length 0 (by omega) (by omega) out ho
  simpa using this

/-- A loop that counts down by what each element holds. -/
theorem ev_sz (n : α → Nat) (l : List α) (L : Nat → Int → Int → Option Int) (B : Int) (hend : ∀ a, Ev (fun k => L k a (l.length : Int)) a)
    (hstep : ∀ (i : Nat) (x : α) (a : Int), l[i]? = some x → 0 ≤ a → a ≤ B → (∃ r, Ev (fun k => L k a (i : Int)) r ∧ r < 0) ∨ ∃ a', 0 ≤ a' ∧ a' + n x ≤ a ∧ ∀ r, Ev (fun k => L k a' ((i + 1 : Nat) : Int)) r → Ev (fun k => L k a (i : Int)) r) :
    ∀ a, 0 ≤ a → a ≤ B → ∃ r, Ev (fun k => L k a 0) r ∧ r ≤ B ∧ (0 ≤ r → r + ((l.map n).sum : Nat) ≤ a) := by
  have key : ∀ d i : Nat, l.length - i = d → i ≤ l.length → ∀ a, 0 ≤ a → a ≤ B → ∃ r, Ev (fun k => L k a (i : Int)) r ∧ r ≤ B ∧ (0 ≤ r → r + (((l.drop i).map n).sum : Nat) ≤ a) := by
    intro d
    induction d with
    | zero => intro i hd hi a h0 ha; obtain rfl : i = l.length := by omega
              exact ⟨a, hend a, ha, fun _ => by simp⟩
    | succ d ih =>
      intro i hd hi a h0 ha
      obtain ⟨x, hx⟩ := getAt (l := l) (i := i) (by omega)
      have hd2 : l.drop i = x :: l.drop (i + 1) := by
        rw [List.drop_eq_getElem_cons (lt_of_get hx)]
        congr 1
        exact (List.getElem?_eq_some_iff.1 hx).2
      rcases hstep i x a hx h0 ha with ⟨r, h1, h2⟩ | ⟨a', h1, h2, h3⟩
      · exact ⟨r, h1, by omega, fun h => by omega⟩
      · obtain ⟨r, h4, h5, h6⟩ := ih (i + 1) (by omega) (by omega) a' h1 (by omega)
        refine ⟨r, h3 r h4, h5, fun h => ?_⟩
        have := h6 h
        rw [hd2, List.map_cons, List.sum_cons]
        omega
  intro a h0 ha
  have := key l.length 0 (by omega) (by omega) a h0 ha
  simpa using this

/-- The first index at which p holds, or none. -/
def findB (n : Nat) (p : Nat → Bool) (hit : Nat → ρ) (miss : ρ) : ρ := match (List.range n).find? p with | some i => hit i | none => miss
theorem ev_find (n : Nat) (p : Nat → Bool) (hit : Nat → ρ) (miss : ρ) (L : Nat → Int → Option ρ) (hend : Ev (fun k => L k (n : Int)) miss)
    (hstep : ∀ i, i < n → (p i = false → ∀ r, Ev (fun k => L k ((i + 1 : Nat) : Int)) r → Ev (fun k => L k (i : Int)) r) ∧ (p i = true → Ev (fun k => L k (i : Int)) (hit i))) : Ev (fun k => L k 0) (findB n p hit miss) := by
  have key : ∀ d i : Nat, n - i = d → i ≤ n → (∀ j, j < i → p j = false) → Ev (fun k => L k (i : Int)) (findB n p hit miss) := by
    intro d
    induction d with
    | zero =>
      intro i hd hi hp
      obtain rfl : i = n := by omega
      have e : findB i p hit miss = miss := by
        unfold findB
        rw [List.find?_eq_none.2 (fun x hx => by rw [hp x (List.mem_range.1 hx)]; simp)]
      rw [e]; exact hend
    | succ d ih =>
      intro i hd hi hp
      obtain ⟨h1, h2⟩ := hstep i (by omega)
      cases hq : p i with
      | false => exact h1 hq _ (ih (i + 1) (by omega) (by omega) (fun j hj => by
          rcases Nat.lt_succ_iff_lt_or_eq.1 hj with h | h
          · exact hp j h
          · rw [h]; exact hq))
      | true =>
        have e : findB n p hit miss = hit i := by
          unfold findB
          rw [show (List.range n).find? p = some i from by
            rw [List.find?_range_eq_some]
            exact ⟨hq, List.mem_range.2 (by omega), fun j hj => by rw [hp j hj]; rfl⟩]
        rw [e]; exact h2 hq
  exact key n 0 (by omega) (by omega) (fun j hj => absurd hj (by omega))
def allN (n : Nat) (p : Nat → Bool) : Bool := (List.range n).all p
def anyN (n : Nat) (p : Nat → Bool) : Bool := (List.range n).any p
theorem allN_iff (n : Nat) (p : Nat → Bool) : allN n p = true ↔ ∀ i, i < n → p i = true := by
  unfold allN
  simp [List.all_eq_true]
theorem findB_all (n : Nat) (p : Nat → Bool) (b : Bool) : findB n (fun i => !p i) (fun _ => false) b = (allN n p && b) := by
  unfold findB allN
  split
  · rename_i i h
    have := List.find?_some h
    have hm := List.mem_of_find?_eq_some h
    have : (List.range n).all p = false := by
      rw [List.all_eq_false]; exact ⟨i, hm, by simpa using this⟩
    rw [this]; rfl
  · rename_i h
    have : (List.range n).all p = true := by
      rw [List.all_eq_true]; intro i hi
      have := List.find?_eq_none.1 h i hi
      simpa using this
    rw [this]; rfl
theorem ev_all (n : Nat) (p : Nat → Bool) (b : Bool) (L : Nat → Int → Option Bool) (hend : Ev (fun k => L k (n : Int)) b)
    (hstep : ∀ i, i < n → (p i = true → ∀ r, Ev (fun k => L k ((i + 1 : Nat) : Int)) r → Ev (fun k => L k (i : Int)) r) ∧ (p i = false → Ev (fun k => L k (i : Int)) false)) : Ev (fun k => L k 0) (allN n p && b) := by
  rw [← findB_all]
  exact ev_find n (fun i => !p i) _ _ L hend (fun i hi => ⟨fun h => (hstep i hi).1 (by simpa using h), fun h => (hstep i hi).2 (by simpa using h)⟩)
/-! ### the first place at which a predicate holds -/
def idxV (p : α → Bool) : List α → Int → Int
  | [], _ => -1
  | x :: xs, i => if p x = true then i else idxV p xs (i + 1)
/-! ### two lists, element by element -/
def allZ (p : α → β → Bool) : List α → List β → Bool
  | x :: xs, y :: ys => p x y && allZ p xs ys
  | _, _ => true
theorem ev_allO (q : Nat → α → β → Option Bool) (p : α → β → Bool) : ∀ (l : List α) (m : List β), (∀ x ∈ l, ∀ y, Ev (fun k => q k x y) (p x y)) → Ev (fun k => allO (q k) l m) (allZ p l m)
  | [], _, _ => by unfold allO allZ; exact Ev.now _
  | _ :: _, [], _ => by unfold allO allZ; exact Ev.now _
  | x :: xs, y :: ys, h => by
    unfold allO allZ
    refine Ev.bind (h x List.mem_cons_self y) ?_
    cases p x y with
    | false => exact Ev.now _
    | true =>
      simp only [if_true, Bool.true_and]
      exact ev_allO q p xs ys (fun z hz => h z (List.mem_cons_of_mem _ hz))
theorem ev_eqO (q : Nat → α → β → Option Bool) (p : α → β → Bool) (l : List α) (m : List β) (h : ∀ x ∈ l, ∀ y, Ev (fun k => q k x y) (p x y)) : Ev (fun k => eqO (q k) l m) (decide (l.length = m.length) && allZ p l m) := by
  unfold eqO
  by_cases c : l.length = m.length
  · simp only [if_pos c, decide_eq_true c, Bool.true_and]; exact ev_allO q p l m h
  · simp only [if_neg c, decide_eq_false c, Bool.false_and]; exact Ev.now _
/-! ### ladders of tests, and two rows element by element -/
theorem Ev.dand {p : Prop} [Decidable p] {g : Nat → Option Bool} {b : Bool} (h : p → Ev g b) : Ev (fun k => if p then g k else some false) (decide p && b) := by
  by_cases c : p
  · simp only [if_pos c, decide_eq_true c, Bool.true_and]; exact h c
  · simp only [if_neg c, decide_eq_false c, Bool.false_and]; exact Ev.now _
theorem Ev.dlen {a c : Nat} {g : Nat → Option Bool} {b : Bool} (h : a = c → Ev g b) : Ev (fun k => if (a : Int) = (c : Int) then g k else some false) (decide (a = c) && b) := by
  by_cases e : a = c
  · rw [decide_eq_true e, Bool.true_and]; exact Ev.pos (by omega) (h e)
  · rw [decide_eq_false e, Bool.false_and]; exact Ev.neg (by omega) (Ev.now _)
theorem Ev.band {g f : Nat → Option Bool} {c b : Bool} (hg : Ev g c) (hf : c = true → Ev f b) : Ev (fun k => (g k).bind fun t => if t = true then f k else some false) (c && b) := by
  refine Ev.bind hg ?_
  cases c with
  | false => simp only [Bool.false_eq_true, if_false, Bool.false_and]; exact Ev.now _
  | true => simp only [if_true, Bool.true_and]; exact hf rfl
theorem Ev.bid {g : Nat → Option Bool} {c : Bool} (hg : Ev g c) : Ev (fun k => (g k).bind fun t => some t) c := Ev.bind hg (Ev.now _)
theorem ev_ne {g : Nat → Option Bool} {b c r : Bool} (h : b = !c) (hr : Ev g r) : Ev (fun k => if b = true then some false else g k) (c && r) := by
  subst h
  cases c with
  | false => simp only [Bool.not_false, if_true, Bool.false_and]; exact Ev.now _
  | true => simp only [Bool.not_true, Bool.false_eq_true, if_false, Bool.true_and]; exact hr
theorem ev_allz (p : α → β → Bool) (l : List α) (m : List β) (hlen : l.length = m.length) (L : Nat → Int → Option Bool) (hend : Ev (fun k => L k (l.length : Int)) true)
    (hstep : ∀ (i : Nat) (x : α) (y : β) (r : Bool), l[i]? = some x → m[i]? = some y → Ev (fun k => L k ((i + 1 : Nat) : Int)) r → Ev (fun k => L k (i : Int)) (p x y && r)) : Ev (fun k => L k 0) (allZ p l m) := by
  have key : ∀ d i : Nat, l.length - i = d → i ≤ l.length → Ev (fun k => L k (i : Int)) (allZ p (l.drop i) (m.drop i)) := by
    intro d
    induction d with
    | zero =>
      intro i hd hi
      obtain rfl : i = l.length := by omega
      rw [List.drop_length, show allZ p ([] : List α) (m.drop l.length) = true from by cases m.drop l.length <;> rfl]
      exact hend
    | succ d ih =>
      intro i hd hi
      obtain ⟨x, hx⟩ := getAt (l := l) (i := i) (by omega)
      obtain ⟨y, hy⟩ := getAt (l := m) (i := i) (by omega)
      have e1 : l.drop i = x :: l.drop (i + 1) := by
        rw [List.drop_eq_getElem_cons (lt_of_get hx)]; congr 1; exact (List.getElem?_eq_some_iff.1 hx).2
      have e2 : m.drop i = y :: m.drop (i + 1) := by
        rw [List.drop_eq_getElem_cons (lt_of_get hy)]; congr 1; exact (List.getElem?_eq_some_iff.1 hy).2
      rw [e1, e2]
      exact hstep i x y _ hx hy (ih (i + 1) (by omega) (by omega))
  have := key l.length 0 (by omega) (by omega)
  rwa [List.drop_zero, List.drop_zero] at this
theorem ev_allzE (p : α → β → Bool) (l : List α) (m : List β) (hlen : l.length = m.length) (L : Nat → Int → Option Bool) (e : Bool) (hend : Ev (fun k => L k (l.length : Int)) e)
    (hstep : ∀ (i : Nat) (x : α) (y : β) (r : Bool), l[i]? = some x → m[i]? = some y → Ev (fun k => L k ((i + 1 : Nat) : Int)) r → Ev (fun k => L k (i : Int)) (p x y && r)) : Ev (fun k => L k 0) (allZ p l m && e) := by
  have key : ∀ d i : Nat, l.length - i = d → i ≤ l.length → Ev (fun k => L k (i : Int)) (allZ p (l.drop i) (m.drop i) && e) := by
    intro d
    induction d with
    | zero =>
      intro i hd hi
      obtain rfl : i = l.length := by omega
      rw [List.drop_length, show allZ p ([] : List α) (m.drop l.length) = true from by cases m.drop l.length <;> rfl, Bool.true_and]
      exact hend
    | succ d ih =>
      intro i hd hi
      obtain ⟨x, hx⟩ := getAt (l := l) (i := i) (by omega)
      obtain ⟨y, hy⟩ := getAt (l := m) (i := i) (by omega)
      have e1 : l.drop i = x :: l.drop (i + 1) := by
        rw [List.drop_eq_getElem_cons (lt_of_get hx)]; congr 1; exact (List.getElem?_eq_some_iff.1 hx).2
      have e2 : m.drop i = y :: m.drop (i + 1) := by
        rw [List.drop_eq_getElem_cons (lt_of_get hy)]; congr 1; exact (List.getElem?_eq_some_iff.1 hy).2
      rw [e1, e2, show allZ p (x :: l.drop (i + 1)) (y :: m.drop (i + 1)) = (p x y && allZ p (l.drop (i + 1)) (m.drop (i + 1))) from rfl, Bool.and_assoc]
      exact hstep i x y _ hx hy (ih (i + 1) (by omega) (by omega))
  have := key l.length 0 (by omega) (by omega)
  rwa [List.drop_zero, List.drop_zero] at this
theorem allZ_iff (p : α → β → Bool) : ∀ (l : List α) (m : List β), l.length = m.length → (allZ p l m = true ↔ ∀ (i : Nat) x y, l[i]? = some x → m[i]? = some y → p x y = true)
  | [], [], _ => by simp [allZ]
  | [], _ :: _, h => by simp at h
  | _ :: _, [], h => by simp at h
  | x :: xs, y :: ys, h => by
    have ih := allZ_iff p xs ys (by simpa using h)
    unfold allZ
    rw [Bool.and_eq_true, ih]
    constructor
    · rintro ⟨h1, h2⟩ i a b ha hb
      cases i with
      | zero => simp at ha hb; rw [← ha, ← hb]; exact h1
      | succ i => exact h2 i a b (by simpa using ha) (by simpa using hb)
    · intro h
      exact ⟨h 0 x y rfl rfl, fun i a b ha hb => h (i + 1) a b (by simpa using ha) (by simpa using hb)⟩
theorem allZ_allN (p : α → β → Bool) (l : List α) (m : List β) (z : α) (z' : β) (h : l.length = m.length) : allZ p l m = allN l.length (fun i => p (l.getD i z) (m.getD i z')) := by
  rw [Bool.eq_iff_iff, allZ_iff p l m h, allN_iff]
  constructor
  · intro h1 i hi
    exact h1 i _ _ (by rw [List.getD_eq_getElem?_getD, List.getElem?_eq_getElem hi]; rfl) (by rw [List.getD_eq_getElem?_getD, List.getElem?_eq_getElem (by omega)]; rfl)
  · intro h1 i x y hx hy
    have := h1 i (List.getElem?_eq_some_iff.1 hx).1
    rwa [List.getD_eq_getElem?_getD, hx, List.getD_eq_getElem?_getD, hy] at this
theorem allZ_eq [DecidableEq α] : ∀ (l m : List α), l.length = m.length → allZ (fun x y => decide (x = y)) l m = decide (l = m)
  | [], [], _ => rfl
  | [], _ :: _, h => by simp at h
  | _ :: _, [], h => by simp at h
  | x :: xs, y :: ys, h => by
    unfold allZ
    rw [allZ_eq xs ys (by simpa using h), Bool.eq_iff_iff]
    simp

/-! ### numbers, times, names -/
def inB (n a b : Int) : Bool := decide (a ≤ n) && decide (n ≤ b)
def timeB (t : Int) : Bool := inB t 0 10000
def nameB (n : Int) : Bool := inB n 10 49
def kindB (n k : Int) : Bool := nameB n && (n / 10 == k)
/-- Elements are marked one after the other, with a counter. -/
def acc (m : α → Int → α × Int) : List α → Int → List α × Int
  | [], n => ([], n)
  | x :: xs, n => ((m x n).1 :: (acc m xs (m x n).2).1, (acc m xs (m x n).2).2)
end
end Go.Proofs.YtineejdlpcgnkaaL
