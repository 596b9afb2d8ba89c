import Derived.Test.YtineejdlpcgnkaaWApart
import Derived.Test.YtineejdlpcgnkaaWKept
import Derived.Test.YtineejdlpcgnkaaWMore
import Derived.Test.YtineejdlpcgnkaaWQPut
/- Rows whose elements lead to rows of their own, written element by element; and facts of rows told by the interval of blocks that they lie in. -/
namespace Go.Proofs.YtineejdlpcgnkaaM
open Go.RowKit Go.Proofs.YtineejdlpcgnkaaW.PrintWords Go.Proofs.YtineejdlpcgnkaaW.PrintWords.Kd
set_option linter.unusedVariables false
section
variable {α : Type} {d : Kd α} {e g n cap base : Nat} {ok oki : Nat → Prop} {W w2 : World} {xs : List α} {i : Int} {c c' : List Value} {x' : α}
end
section
variable {α : Type} {d : Kd α} {e n c base lo hi lo' hi' : Nat} {ok : Nat → Prop} {w0 w w1 : World} {A : Option Addr} {v : Value} {xs : List α}
theorem S_len (h : S d e w base ok (.slice A n c) xs) : xs.length ≤ c := by have h_ := S_reads' h; rw [← h_.1]; exact h_.2.1
theorem R_len (h : d.R e w base ok (.slice A n c) xs) : xs.length ≤ c := by have h_ := R_reads' h; rw [← h_.1]; exact h_.2.1
theorem S_C (h : S d e w base ok (.slice A n c) xs) : d.C w A xs.length xs := (S_reads' h).2.2
theorem R_C (h : d.R e w base ok (.slice A n c) xs) : d.C w A xs.length xs := (R_reads' h).2.2
theorem S_n (h : S d e w base ok (.slice A n c) xs) : xs.length = n := (S_reads' h).1.symm
theorem R_n (h : d.R e w base ok (.slice A n c) xs) : xs.length = n := (R_reads' h).1.symm
/-- What a call made lies between the worlds' sizes. -/
theorem S_made (h : S d e w1 w.heap.size ok v xs) (hb : w0.heap.size ≤ w.heap.size) : ∃ A n c, v = .slice A n c ∧ n = xs.length ∧ S d e w1 w0.heap.size (fun k_ => w.heap.size ≤ k_ ∧ k_ < w1.heap.size) (.slice A n c) xs := by
  obtain ⟨A, c, rfl, _, _⟩ := S_reads h
  exact ⟨A, _, c, rfl, rfl, S_mono (S_lower (S_bound h) hb) (fun _ h_ => ⟨h_.2.1, h_.2.2.1⟩)⟩
theorem R_made (h : d.R e w1 w.heap.size ok v xs) (hb : w0.heap.size ≤ w.heap.size) : ∃ A n c, v = .slice A n c ∧ n = xs.length ∧ d.R e w1 w0.heap.size (fun k_ => w.heap.size ≤ k_ ∧ k_ < w1.heap.size) (.slice A n c) xs := by
  obtain ⟨A, c, rfl, _, _⟩ := R_reads h
  exact ⟨A, _, c, rfl, rfl, R_mono (R_lower (R_bound h) hb) (fun _ h_ => ⟨h_.2.1, h_.2.2.1⟩)⟩
end
end Go.Proofs.YtineejdlpcgnkaaM
