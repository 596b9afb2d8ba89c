import Derived.Test.YtineejdlpcgnkaaWApart
import Derived.Test.YtineejdlpcgnkaaWKept
import Derived.Test.YtineejdlpcgnkaaWMore
import Derived.Test.YtineejdlpcgnkaaWQPut
/- Rows whose elements lead to rows of their own, written element by element; and facts of rows told by the interval of blocks that they lie in. -/
namespace Go.Proofs.YtineejdlpcgnkaaM
open Go.RowKit Go.Proofs.YtineejdlpcgnkaaW.PrintWords Go.Proofs.YtineejdlpcgnkaaW.PrintWords.Kd
set_option linter.unusedVariables false
section
variable {α : Type} {d : Kd α} {e g n cap base : Nat} {ok oki : Nat → Prop} {W w2 : World} {xs : List α} {i : Int} {c c' : List Value} {x' : α}
theorem set_seg {c : List Value} {j : Nat} (u : Value) (hj : j < c.length) : c.take j ++ [u] ++ c.drop (j + [u].length) = c.set j u := by
  apply List.ext_getElem?
  intro m
  rw [List.append_assoc, List.getElem?_append, List.length_take, Nat.min_eq_left (Nat.le_of_lt hj)]
  by_cases h1 : m < j
  · rw [if_pos h1, List.getElem?_take, if_pos h1, List.getElem?_set_ne (by omega)]
  · rw [if_neg h1]
    by_cases h2 : m = j
    · subst h2; rw [List.getElem?_set_self hj]; simp
    · rw [List.getElem?_set_ne (by omega), List.getElem?_append_right (by simp; omega), List.getElem?_drop]
      congr 1; simp; omega
/-- One cell of the element that is out is written. -/
theorem H_cell (h : H d e W base ok (.slice (some ⟨g, 0, none⟩) n cap) xs i oki c) (h0 : 0 ≤ i) (h1 : i < n) (j : Nat) (u : Value) (hj : j < d.sz) (hc : c.length = d.sz) (hu : u.oneCell' = true) :
    H d e (W.setCell ⟨g, i.toNat * d.sz + j, none⟩ u) base ok (.slice (some ⟨g, 0, none⟩) n cap) xs i oki (c.set j u) := by
  have h2 := (H_seg h h0 h1 (seg := [u]) (j := j) (by simp; omega) (fun q hq => by rw [List.mem_singleton.1 hq]; exact hu)).1
  rw [set_seg u (by omega)] at h2
  exact h2
theorem H_cells (h : H d e W base ok (.slice (some ⟨g, 0, none⟩) n cap) xs i oki c) (h0 : 0 ≤ i) (h1 : i < n) (j : Nat) {u : Value} (hu : c[j]? = some u) :
    W.cell? ⟨g, i.toNat * d.sz + j, none⟩ = some u := by
  obtain ⟨_, _, _, _, _, hcc, _⟩ := H_raw h h0 h1
  exact hcc j u hu
theorem H_fr (h : H d e W base ok (.slice (some ⟨g, 0, none⟩) n cap) xs i oki c) (h0 : 0 ≤ i) (h1 : i < n) (j : Nat) : W.frozen? ⟨g, i.toNat * d.sz + j, none⟩ = false := by
  obtain ⟨_, hfr⟩ := H_at h h0 h1
  exact hfr j
/-- A row of the element that is out has been written, by a call that keeps all else. -/
theorem H_call (h : H d e W base ok (.slice (some ⟨g, 0, none⟩) n cap) xs i oki c) (hk : Kept W w2 oki) : H d e w2 base ok (.slice (some ⟨g, 0, none⟩) n cap) xs i oki c :=
  H_step h (fun k _ hn hlt => hk.2 k hlt hn)
end
section
variable {α : Type} {d : Kd α} {e n c base lo hi lo' hi' : Nat} {ok : Nat → Prop} {w0 w w1 : World} {A : Option Addr} {v : Value} {xs : List α}
theorem S_len (h : S d e w base ok (.slice A n c) xs) : xs.length ≤ c := by have h_ := S_reads' h; rw [← h_.1]; exact h_.2.1
theorem R_len (h : d.R e w base ok (.slice A n c) xs) : xs.length ≤ c := by have h_ := R_reads' h; rw [← h_.1]; exact h_.2.1
theorem S_C (h : S d e w base ok (.slice A n c) xs) : d.C w A xs.length xs := (S_reads' h).2.2
theorem R_C (h : d.R e w base ok (.slice A n c) xs) : d.C w A xs.length xs := (R_reads' h).2.2
theorem S_n (h : S d e w base ok (.slice A n c) xs) : xs.length = n := (S_reads' h).1.symm
theorem R_n (h : d.R e w base ok (.slice A n c) xs) : xs.length = n := (R_reads' h).1.symm
/-- What a call made lies between the worlds' sizes. -/
theorem S_made (h : S d e w1 w.heap.size ok v xs) (hb : w0.heap.size ≤ w.heap.size) : ∃ A n c, v = .slice A n c ∧ n = xs.length ∧ S d e w1 w0.heap.size (fun k_ => w.heap.size ≤ k_ ∧ k_ < w1.heap.size) (.slice A n c) xs := by
  obtain ⟨A, c, rfl, _, _⟩ := S_reads h
  exact ⟨A, _, c, rfl, rfl, S_mono (S_lower (S_bound h) hb) (fun _ h_ => ⟨h_.2.1, h_.2.2.1⟩)⟩
theorem R_made (h : d.R e w1 w.heap.size ok v xs) (hb : w0.heap.size ≤ w.heap.size) : ∃ A n c, v = .slice A n c ∧ n = xs.length ∧ d.R e w1 w0.heap.size (fun k_ => w.heap.size ≤ k_ ∧ k_ < w1.heap.size) (.slice A n c) xs := by
  obtain ⟨A, c, rfl, _, _⟩ := R_reads h
  exact ⟨A, _, c, rfl, rfl, R_mono (R_lower (R_bound h) hb) (fun _ h_ => ⟨h_.2.1, h_.2.2.1⟩)⟩
/-- What lies elsewhere stays. -/
theorem S_else (h : S d e w base (fun k_ => lo ≤ k_ ∧ k_ < hi) v xs) (hk : Kept w w1 (fun k_ => lo' ≤ k_ ∧ k_ < hi')) (hd : hi ≤ lo' ∨ hi' ≤ lo) : S d e w1 base (fun k_ => lo ≤ k_ ∧ k_ < hi) v xs :=
  S_step h (fun k h1 h2 => hk.2 k h2 (fun h3 => by have := h1.1; have := h1.2; have := h3.1; have := h3.2; omega))
theorem R_else (h : d.R e w base (fun k_ => lo ≤ k_ ∧ k_ < hi) v xs) (hk : Kept w w1 (fun k_ => lo' ≤ k_ ∧ k_ < hi')) (hd : hi ≤ lo' ∨ hi' ≤ lo) : d.R e w1 base (fun k_ => lo ≤ k_ ∧ k_ < hi) v xs :=
  R_step h (fun k h1 h2 => hk.2 k h2 (fun h3 => by have := h1.1; have := h1.2; have := h3.1; have := h3.2; omega))
/-- An empty row: what its value leads to is never looked at. -/
def Em (A : Option Addr) (n c : Nat) (xs : List α) : Prop := xs = [] ∧ n = 0
theorem E_C (h : Em A n c xs) : d.C w A xs.length xs := by
  obtain ⟨rfl, _⟩ := h
  exact ⟨rfl, Nat.zero_le _, fun h_ => absurd h_ (by simp)⟩
theorem E_len (h : Em A n c xs) : xs.length ≤ c := by
  obtain ⟨rfl, _⟩ := h
  exact Nat.zero_le _
theorem E_n (h : Em A n c xs) : xs.length = n := by
  obtain ⟨rfl, rfl⟩ := h
  rfl
end
section
variable {P : Program} {ops : Array Oper} {rest : List Oper} {o : Oper} {a : Act} {Q : Exit → Act → World → Prop} {Kc : Act → World → Prop} {α : Type}
end
section
variable {P : Program} {ops : Array Oper} {rest : List Oper} {o : Oper} {a : Act} {Q : Exit → Act → World → Prop} {α : Type}
/-- A literal of elements that lead to elder rows of the call's own, told by what it leaves of the world before it. -/
theorem S_lits_rel (d : Kd α) {W : World} (base e : Nat) (hgd : o.guard = none) {N : Tmp} (_hd : o.dst = some N) {xs : List α} {inner : List Value} {ok : Nat → Prop} (okj : Nat → Nat → Prop)
    (hrun : (execOp a.eval o).run P W = .ok (.value (.slice (some ⟨W.heap.size, 0, none⟩) xs.length xs.length)) (W.alloc (.cells inner.toArray e)))
    (hl : inner.length = xs.length * d.sz) (hrep : ∀ j x, xs[j]? = some x → d.M W base (okj j) x ((inner.drop (j * d.sz)).take d.sz)) (hap : ∀ i j k, okj i k → okj j k → i = j) (hok : ∀ j k, okj j k → ok k) (hfresh : ok W.heap.size) (hbase : base ≤ W.heap.size) (hm : xs.length ≤ 9223372036854775807)
    (h : ∀ v1 w1, S d e w1 base ok v1 xs → Below W.heap.size W w1 → wpList P ops Q rest (a.put o.dst v1) w1) : wpList P ops Q (o :: rest) a W :=
  S_lits d (w0 := W) base e hgd _hd okj hrun hl hrep hap hok hfresh (Below.refl _ _) hbase hm (fun v1 w1 h1 hb hg _ => h v1 w1 h1 ⟨hb.os, hb.tape, hb.output, hb.size, fun k hk => hg.block k hk (by simp)⟩)
end
end Go.Proofs.YtineejdlpcgnkaaM
