import Derived.Test.YtplfbjbbnjlnkaaWApart
import Derived.Test.YtplfbjbbnjlnkaaWKept
import Derived.Test.YtplfbjbbnjlnkaaWMore
import Derived.Test.YtplfbjbbnjlnkaaWQPut
/- Rows whose elements lead to rows of their own, written element by element; and facts of rows told by the interval of blocks that they lie in. -/
namespace Go.Proofs.YtplfbjbbnjlnkaaM
open Go.RowKit Go.Proofs.YtplfbjbbnjlnkaaW.PrintWords Go.Proofs.YtplfbjbbnjlnkaaW.PrintWords.Kd
set_option linter.unusedVariables false
section
variable {α : Type} {d : Kd α} {e g n cap base : Nat} {ok oki : Nat → Prop} {W w2 : World} {xs : List α} {i : Int} {c c' : List Value} {x' : α}
theorem set_seg {c : List Value} {j : Nat} (u : Value) (hj : j < c.length) : c.take j ++ [u] ++ c.drop (j + [u].length) = c.set j u := by
  apply List.ext_getElem?
  intro m
  rw [List.append_assoc, List.getElem?_append, List.length_take, Nat.min_eq_left (Nat.le_of_lt hj)]
  by_cases h1 : m < j
  · rw [if_pos h1, List.getElem?_take, if_pos h1, List.getElem?_set_ne (by omega)]
  · rw [if_neg h1]
    by_cases h2 : m = j
    · subst h2; rw [List.getElem?_set_self hj]; simp
    · rw [List.getElem?_set_ne (by omega), List.getElem?_append_right (by simp; omega), List.getElem?_drop]
      congr 1; simp; omega
/-- One cell of the element that is out is written. -/
theorem H_cell (h : H d e W base ok (.slice (some ⟨g, 0, none⟩) n cap) xs i oki c) (h0 : 0 ≤ i) (h1 : i < n) (j : Nat) (u : Value) (hj : j < d.sz) (hc : c.length = d.sz) (hu : u.oneCell' = true) :
    H d e (W.setCell ⟨g, i.toNat * d.sz + j, none⟩ u) base ok (.slice (some ⟨g, 0, none⟩) n cap) xs i oki (c.set j u) := by
  have h2 := (H_seg h h0 h1 (seg := [u]) (j := j) (by simp; omega) (fun q hq => by rw [List.mem_singleton.1 hq]; exact hu)).1
  rw [set_seg u (by omega)] at h2
  exact h2
theorem H_cells (h : H d e W base ok (.slice (some ⟨g, 0, none⟩) n cap) xs i oki c) (h0 : 0 ≤ i) (h1 : i < n) (j : Nat) {u : Value} (hu : c[j]? = some u) :
    W.cell? ⟨g, i.toNat * d.sz + j, none⟩ = some u := by
  obtain ⟨_, _, _, _, _, hcc, _⟩ := H_raw h h0 h1
  exact hcc j u hu
theorem H_fr (h : H d e W base ok (.slice (some ⟨g, 0, none⟩) n cap) xs i oki c) (h0 : 0 ≤ i) (h1 : i < n) (j : Nat) : W.frozen? ⟨g, i.toNat * d.sz + j, none⟩ = false := by
  obtain ⟨_, hfr⟩ := H_at h h0 h1
  exact hfr j
/-- A row of the element that is out has been written, by a call that keeps all else. -/
theorem H_call (h : H d e W base ok (.slice (some ⟨g, 0, none⟩) n cap) xs i oki c) (hk : Kept W w2 oki) : H d e w2 base ok (.slice (some ⟨g, 0, none⟩) n cap) xs i oki c :=
  H_step h (fun k _ hn hlt => hk.2 k hlt hn)
end
section
variable {α : Type} {d : Kd α} {e n c base lo hi lo' hi' : Nat} {ok : Nat → Prop} {w0 w w1 : World} {A : Option Addr} {v : Value} {xs : List α}
theorem S_len (h : S d e w base ok (.slice A n c) xs) : xs.length ≤ c := by have h_ := S_reads' h; rw [← h_.1]; exact h_.2.1
theorem R_len (h : d.R e w base ok (.slice A n c) xs) : xs.length ≤ c := by have h_ := R_reads' h; rw [← h_.1]; exact h_.2.1
theorem S_C (h : S d e w base ok (.slice A n c) xs) : d.C w A xs.length xs := (S_reads' h).2.2
theorem R_C (h : d.R e w base ok (.slice A n c) xs) : d.C w A xs.length xs := (R_reads' h).2.2
theorem S_n (h : S d e w base ok (.slice A n c) xs) : xs.length = n := (S_reads' h).1.symm
theorem R_n (h : d.R e w base ok (.slice A n c) xs) : xs.length = n := (R_reads' h).1.symm
/-- What a call made lies between the worlds' sizes. -/
theorem S_made (h : S d e w1 w.heap.size ok v xs) (hb : w0.heap.size ≤ w.heap.size) : ∃ A n c, v = .slice A n c ∧ n = xs.length ∧ S d e w1 w0.heap.size (fun k_ => w.heap.size ≤ k_ ∧ k_ < w1.heap.size) (.slice A n c) xs := by
  obtain ⟨A, c, rfl, _, _⟩ := S_reads h
  exact ⟨A, _, c, rfl, rfl, S_mono (S_lower (S_bound h) hb) (fun _ h_ => ⟨h_.2.1, h_.2.2.1⟩)⟩
theorem R_made (h : d.R e w1 w.heap.size ok v xs) (hb : w0.heap.size ≤ w.heap.size) : ∃ A n c, v = .slice A n c ∧ n = xs.length ∧ d.R e w1 w0.heap.size (fun k_ => w.heap.size ≤ k_ ∧ k_ < w1.heap.size) (.slice A n c) xs := by
  obtain ⟨A, c, rfl, _, _⟩ := R_reads h
  exact ⟨A, _, c, rfl, rfl, R_mono (R_lower (R_bound h) hb) (fun _ h_ => ⟨h_.2.1, h_.2.2.1⟩)⟩
/-- What lies elsewhere stays. -/
theorem S_else (h : S d e w base (fun k_ => lo ≤ k_ ∧ k_ < hi) v xs) (hk : Kept w w1 (fun k_ => lo' ≤ k_ ∧ k_ < hi')) (hd : hi ≤ lo' ∨ hi' ≤ lo) : S d e w1 base (fun k_ => lo ≤ k_ ∧ k_ < hi) v xs :=
  S_step h (fun k h1 h2 => hk.2 k h2 (fun h3 => by have := h1.1; have := h1.2; have := h3.1; have := h3.2; omega))
theorem R_else (h : d.R e w base (fun k_ => lo ≤ k_ ∧ k_ < hi) v xs) (hk : Kept w w1 (fun k_ => lo' ≤ k_ ∧ k_ < hi')) (hd : hi ≤ lo' ∨ hi' ≤ lo) : d.R e w1 base (fun k_ => lo ≤ k_ ∧ k_ < hi) v xs :=
  R_step h (fun k h1 h2 => hk.2 k h2 (fun h3 => by have := h1.1; have := h1.2; have := h3.1; have := h3.2; omega))
theorem Q_len (h : d.Q e w base ok (.slice A n c) xs) : xs.length ≤ c := by have h_ := Q_reads' h; rw [← h_.1]; exact h_.2.1
theorem Q_C (h : d.Q e w base ok (.slice A n c) xs) : d.C w A xs.length xs := (Q_reads' h).2.2
theorem Q_n (h : d.Q e w base ok (.slice A n c) xs) : xs.length = n := (Q_reads' h).1.symm
theorem Q_made (h : d.Q e w1 w.heap.size ok v xs) (hb : w0.heap.size ≤ w.heap.size) : ∃ A n c, v = .slice A n c ∧ n = xs.length ∧ d.Q e w1 w0.heap.size (fun k_ => w.heap.size ≤ k_ ∧ k_ < w1.heap.size) (.slice A n c) xs := by
  obtain ⟨A, c, rfl, _, _⟩ := Q_reads h
  exact ⟨A, _, c, rfl, rfl, Q_mono (Q_lower (Q_bound h) hb) (fun _ h_ => ⟨h_.2.1, h_.2.2.1⟩)⟩
theorem Q_else (h : d.Q e w base (fun k_ => lo ≤ k_ ∧ k_ < hi) v xs) (hk : Kept w w1 (fun k_ => lo' ≤ k_ ∧ k_ < hi')) (hd : hi ≤ lo' ∨ hi' ≤ lo) : d.Q e w1 base (fun k_ => lo ≤ k_ ∧ k_ < hi) v xs :=
  Q_step h (fun k h1 h2 => hk.2 k h2 (fun h3 => by have := h1.1; have := h1.2; have := h3.1; have := h3.2; omega))
end
end Go.Proofs.YtplfbjbbnjlnkaaM
