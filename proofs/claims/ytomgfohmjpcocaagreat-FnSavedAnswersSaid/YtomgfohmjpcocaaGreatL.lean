import Derived.Test.YtomgfohmjpcocaaGreatWWords
import Derived.Test.YtomgfohmjpcocaaGreatH
/- Plain lemmas on rounds, loops over lists and 64-bit sums: no program in sight. -/
namespace Go.Proofs.YtomgfohmjpcocaaGreatL
open Go.RowKit Go.Proofs.YtomgfohmjpcocaaGreatW.PrintWords Go.Proofs.YtomgfohmjpcocaaGreatH
set_option linter.unusedVariables false
theorem wr {x : Int} (h1 : -9223372036854775808 ≤ x) (h2 : x ≤ 9223372036854775807) : wrap64 x = x := by unfold wrap64; omega
theorem wr1 {i n : Nat} (h : i < n) (hn : n ≤ 9223372036854775807) : wrap64 ((i : Int) + 1) = ((i + 1 : Nat) : Int) := by rw [wr (by omega) (by omega)]; omega
theorem rd_nat (l : List Int) (i : Nat) (x : Int) (h : l[i]? = some x) : rd l (i : Int) = x := by
  simp [rd, List.getD_eq_getElem?_getD, h]
theorem getD_nat {α : Type} (l : List α) (z : α) (i : Nat) (x : α) (h : l[i]? = some x) : l.getD (i : Int).toNat z = x := by
  simp [List.getD_eq_getElem?_getD, h]
theorem lt_of_get {α : Type} {l : List α} {i : Nat} {x : α} (h : l[i]? = some x) : i < l.length := (List.getElem?_eq_some_iff.1 h).1
theorem getAt {α : Type} {l : List α} {i : Nat} (h : i < l.length) : ∃ x, l[i]? = some x := ⟨_, List.getElem?_eq_getElem h⟩
section
variable {ρ α β : Type}
theorem Ev.next {g f : Nat → Option ρ} {r : ρ} (h : ∀ k, g (k + 1) = f k) (k : Ev f r) : Ev g r := Ev.step h k
theorem Ev.succ {g : Nat → Option ρ} {r : ρ} (h : Ev (fun k => g (k + 1)) r) : Ev g r := Ev.step (f := fun k => g (k + 1)) (fun _ => rfl) h
theorem le_sum (n : α → Nat) {l : List α} {i : Nat} {x : α} (h : l[i]? = some x) : n x ≤ (l.map n).sum := by
  have := List.mem_of_getElem? h
  induction l generalizing i with
  | nil => simp at this
  | cons y l ih =>
    simp only [List.map_cons, List.sum_cons]
    rcases List.mem_cons.1 this with rfl | hm
    · omega
    · obtain ⟨j, hj⟩ := List.getElem?_of_mem hm
      have := ih hj hm
      omega
theorem Ev.ite {c : Prop} [Decidable c] {g f : Nat → Option ρ} {r : ρ} (h1 : c → Ev g r) (h2 : ¬ c → Ev f r) : Ev (fun k => if c then g k else f k) r := by
  by_cases h : c
  · simp only [if_pos h]; exact h1 h
  · simp only [if_neg h]; exact h2 h
theorem Ev.pos {c : Prop} [Decidable c] {g f : Nat → Option ρ} {r : ρ} (h : c) (h1 : Ev g r) : Ev (fun k => if c then g k else f k) r := by
  simp only [if_pos h]; exact h1
theorem Ev.neg {c : Prop} [Decidable c] {g f : Nat → Option ρ} {r : ρ} (h : ¬ c) (h1 : Ev f r) : Ev (fun k => if c then g k else f k) r := by
  simp only [if_neg h]; exact h1
theorem ev_loop {σ : Type} (l : List α) (L : Nat → σ → Int → Option ρ) (R : σ → List α → ρ) (I : Nat → σ → Prop)
    (hend : ∀ s, I l.length s → Ev (fun k => L k s (l.length : Int)) (R s []))
    (hstep : ∀ (i : Nat) (x : α) (s : σ), l[i]? = some x → I i s → (∀ s', I (i + 1) s' → Ev (fun k => L k s' ((i + 1 : Nat) : Int)) (R s' (l.drop (i + 1)))) → Ev (fun k => L k s (i : Int)) (R s (x :: l.drop (i + 1)))) :
    ∀ s, I 0 s → Ev (fun k => L k s 0) (R s l) := by
  have key : ∀ d i : Nat, l.length - i = d → i ≤ l.length → ∀ s, I i s → Ev (fun k => L k s (i : Int)) (R s (l.drop i)) := by
    intro d
    induction d with
    | zero => intro i hd hi s hs; obtain rfl : i = l.length := by omega
              rw [List.drop_length]; exact hend s hs
    | succ d ih =>
      intro i hd hi s hs
      obtain ⟨x, hx⟩ := getAt (l := l) (i := i) (by omega)
      have hd2 : l.drop i = x :: l.drop (i + 1) := by
        rw [List.drop_eq_getElem_cons (lt_of_get hx)]
        congr 1
        exact (List.getElem?_eq_some_iff.1 hx).2
      rw [hd2]
      exact hstep i x s hx hs (fun s' hs' => ih (i + 1) (by omega) (by omega) s' hs')
  intro s hs
  have := key l.length 0 (by omega) (by omega) s hs
  rwa [List.drop_zero] at this
def findB (n : Nat) (p : Nat → Bool) (hit : Nat → ρ) (miss : ρ) : ρ := match (List.range n).find? p with | some i => hit i | none => miss
def allN (n : Nat) (p : Nat → Bool) : Bool := (List.range n).all p
def anyN (n : Nat) (p : Nat → Bool) : Bool := (List.range n).any p
theorem Ev.bifT {b r : Bool} {g : Nat → Option Bool} (h : b = true → Ev g r) : Ev (fun k => if b = true then g k else some false) (b && r) := by
  cases b with
  | false => simp only [Bool.false_eq_true, if_false, Bool.false_and]; exact Ev.now _
  | true => simp only [if_true, Bool.true_and]; exact h rfl
theorem Ev.eqv {g : Nat → Option ρ} {a b : ρ} (e : a = b) (h : Ev g a) : Ev g b := e ▸ h
theorem ev_fold {σ : Type} (l : List α) (step : σ → α → σ) (fin : σ → ρ) (I : Nat → σ → Prop) (L : Nat → σ → Int → Option ρ) (hend : ∀ s, I l.length s → Ev (fun k => L k s (l.length : Int)) (fin s))
    (hI : ∀ (i : Nat) x s, l[i]? = some x → I i s → I (i + 1) (step s x))
    (hstep : ∀ (i : Nat) x s r, l[i]? = some x → I i s → Ev (fun k => L k (step s x) ((i + 1 : Nat) : Int)) r → Ev (fun k => L k s (i : Int)) r) : ∀ s, I 0 s → Ev (fun k => L k s 0) (fin (l.foldl step s)) :=
  ev_loop l L (fun s rest => fin (rest.foldl step s)) I hend (fun i x s hx hs ih => hstep i x s _ hx hs (ih _ (hI i x s hx hs)))
def idxV (p : α → Bool) : List α → Int → Int
  | [], _ => -1
  | x :: xs, i => if p x = true then i else idxV p xs (i + 1)
def allZ (p : α → β → Bool) : List α → List β → Bool
  | x :: xs, y :: ys => p x y && allZ p xs ys
  | _, _ => true
theorem Ev.dand {p : Prop} [Decidable p] {g : Nat → Option Bool} {b : Bool} (h : p → Ev g b) : Ev (fun k => if p then g k else some false) (decide p && b) := by
  by_cases c : p
  · simp only [if_pos c, decide_eq_true c, Bool.true_and]; exact h c
  · simp only [if_neg c, decide_eq_false c, Bool.false_and]; exact Ev.now _
theorem Ev.bid {g : Nat → Option Bool} {c : Bool} (hg : Ev g c) : Ev (fun k => (g k).bind fun t => some t) c := Ev.bind hg (Ev.now _)
theorem ite_and (b c : Bool) : (if b = true then some c else some false) = some (b && c) := by cases b <;> rfl
theorem ite_dand {p : Prop} [Decidable p] (c : Bool) : (if p then some c else some false) = some (decide p && c) := by by_cases h : p <;> simp [h]
def inB (n a b : Int) : Bool := decide (a ≤ n) && decide (n ≤ b)
def timeB (t : Int) : Bool := inB t 0 10000
def nameB (n : Int) : Bool := inB n 10 49
def kindB (n k : Int) : Bool := nameB n && (n / 10 == k)
theorem inB_iff {n a b : Int} : inB n a b = true ↔ a ≤ n ∧ n ≤ b := by simp [inB]
theorem name_div {n : Int} (h : nameB n = true) : wrap64 (Int.tdiv n 10) = n / 10 := by
  have := inB_iff.1 h
  rw [Int.tdiv_eq_ediv_of_nonneg (by omega), wr (by omega) (by omega)]
def acc (m : α → Int → α × Int) : List α → Int → List α × Int
  | [], n => ([], n)
  | x :: xs, n => ((m x n).1 :: (acc m xs (m x n).2).1, (acc m xs (m x n).2).2)
end
end Go.Proofs.YtomgfohmjpcocaaGreatL
