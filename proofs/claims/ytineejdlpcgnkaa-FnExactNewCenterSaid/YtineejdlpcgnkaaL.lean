import Derived.Test.YtineejdlpcgnkaaWWords
import Derived.Test.YtineejdlpcgnkaaH
/- Plain lemmas on rounds, loops over lists and 64-bit sums: no program in sight. -/
namespace Go.Proofs.YtineejdlpcgnkaaL
open Go.RowKit Go.Proofs.YtineejdlpcgnkaaW.PrintWords Go.Proofs.YtineejdlpcgnkaaH
set_option linter.unusedVariables false

theorem wr {x : Int} (h1 : -9223372036854775808 ≤ x) (h2 : x ≤ 9223372036854775807) : wrap64 x = x := by unfold wrap64; omega
theorem getD_nat {α : Type} (l : List α) (z : α) (i : Nat) (x : α) (h : l[i]? = some x) : l.getD (i : Int).toNat z = x := by
  simp [List.getD_eq_getElem?_getD, h]
section
variable {ρ α β : Type}
/-- One more round: the next is as f tells. -/
theorem Ev.next {g f : Nat → Option ρ} {r : ρ} (h : ∀ k, g (k + 1) = f k) (k : Ev f r) : Ev g r := Ev.step h k
theorem Ev.succ {g : Nat → Option ρ} {r : ρ} (h : Ev (fun k => g (k + 1)) r) : Ev g r := Ev.step (f := fun k => g (k + 1)) (fun _ => rfl) h
theorem Ev.neg {c : Prop} [Decidable c] {g f : Nat → Option ρ} {r : ρ} (h : ¬ c) (h1 : Ev f r) : Ev (fun k => if c then g k else f k) r := by
  simp only [if_neg h]; exact h1
/-- The first index at which p holds, or none. -/
def findB (n : Nat) (p : Nat → Bool) (hit : Nat → ρ) (miss : ρ) : ρ := match (List.range n).find? p with | some i => hit i | none => miss
def allN (n : Nat) (p : Nat → Bool) : Bool := (List.range n).all p
def anyN (n : Nat) (p : Nat → Bool) : Bool := (List.range n).any p
/-! ### the first place at which a predicate holds -/
def idxV (p : α → Bool) : List α → Int → Int
  | [], _ => -1
  | x :: xs, i => if p x = true then i else idxV p xs (i + 1)
/-! ### two lists, element by element -/
def allZ (p : α → β → Bool) : List α → List β → Bool
  | x :: xs, y :: ys => p x y && allZ p xs ys
  | _, _ => true
/-! ### numbers, times, names -/
def inB (n a b : Int) : Bool := decide (a ≤ n) && decide (n ≤ b)
def timeB (t : Int) : Bool := inB t 0 10000
def nameB (n : Int) : Bool := inB n 10 49
def kindB (n k : Int) : Bool := nameB n && (n / 10 == k)
/-- Elements are marked one after the other, with a counter. -/
def acc (m : α → Int → α × Int) : List α → Int → List α × Int
  | [], n => ([], n)
  | x :: xs, n => ((m x n).1 :: (acc m xs (m x n).2).1, (acc m xs (m x n).2).2)
end
end Go.Proofs.YtineejdlpcgnkaaL
