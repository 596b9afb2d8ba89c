import Derived.Test.YtineejdlpcgnkaaWApart
import Derived.Test.YtineejdlpcgnkaaWKept
import Derived.Test.YtineejdlpcgnkaaWMore
import Derived.Test.YtineejdlpcgnkaaWQPut
/- Rows whose elements lead to rows of their own, written element by element; and facts of rows told by the interval of blocks that they lie in. -/
namespace Go.Proofs.YtineejdlpcgnkaaM
open Go.RowKit Go.Proofs.YtineejdlpcgnkaaW.PrintWords Go.Proofs.YtineejdlpcgnkaaW.PrintWords.Kd
set_option linter.unusedVariables false
section
variable {α : Type} {d : Kd α} {e g n cap base : Nat} {ok oki : Nat → Prop} {W w2 : World} {xs : List α} {i : Int} {c c' : List Value} {x' : α}
end
section
variable {α : Type} {d : Kd α} {e n c base lo hi lo' hi' : Nat} {ok : Nat → Prop} {w0 w w1 : World} {A : Option Addr} {v : Value} {xs : List α}
theorem R_len (h : d.R e w base ok (.slice A n c) xs) : xs.length ≤ c := by have h_ := R_reads' h; rw [← h_.1]; exact h_.2.1
theorem R_C (h : d.R e w base ok (.slice A n c) xs) : d.C w A xs.length xs := (R_reads' h).2.2
theorem R_n (h : d.R e w base ok (.slice A n c) xs) : xs.length = n := (R_reads' h).1.symm
theorem R_made (h : d.R e w1 w.heap.size ok v xs) (hb : w0.heap.size ≤ w.heap.size) : ∃ A n c, v = .slice A n c ∧ n = xs.length ∧ d.R e w1 w0.heap.size (fun k_ => w.heap.size ≤ k_ ∧ k_ < w1.heap.size) (.slice A n c) xs := by
  obtain ⟨A, c, rfl, _, _⟩ := R_reads h
  exact ⟨A, _, c, rfl, rfl, R_mono (R_lower (R_bound h) hb) (fun _ h_ => ⟨h_.2.1, h_.2.2.1⟩)⟩
theorem R_else (h : d.R e w base (fun k_ => lo ≤ k_ ∧ k_ < hi) v xs) (hk : Kept w w1 (fun k_ => lo' ≤ k_ ∧ k_ < hi')) (hd : hi ≤ lo' ∨ hi' ≤ lo) : d.R e w1 base (fun k_ => lo ≤ k_ ∧ k_ < hi) v xs :=
  R_step h (fun k h1 h2 => hk.2 k h2 (fun h3 => by have := h1.1; have := h1.2; have := h3.1; have := h3.2; omega))
/-- An empty row: what its value leads to is never looked at. -/
def Em (A : Option Addr) (n c : Nat) (xs : List α) : Prop := xs = [] ∧ n = 0
theorem E_C (h : Em A n c xs) : d.C w A xs.length xs := by
  obtain ⟨rfl, _⟩ := h
  exact ⟨rfl, Nat.zero_le _, fun h_ => absurd h_ (by simp)⟩
theorem E_len (h : Em A n c xs) : xs.length ≤ c := by
  obtain ⟨rfl, _⟩ := h
  exact Nat.zero_le _
end
section
variable {P : Program} {ops : Array Oper} {rest : List Oper} {o : Oper} {a : Act} {Q : Exit → Act → World → Prop} {Kc : Act → World → Prop} {α : Type}
end
end Go.Proofs.YtineejdlpcgnkaaM
