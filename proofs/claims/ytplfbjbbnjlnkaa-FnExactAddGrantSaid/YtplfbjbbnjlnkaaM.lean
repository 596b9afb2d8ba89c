import Derived.Test.YtplfbjbbnjlnkaaWApart
import Derived.Test.YtplfbjbbnjlnkaaWKept
import Derived.Test.YtplfbjbbnjlnkaaWMore
import Derived.Test.YtplfbjbbnjlnkaaWQPut
/- Rows whose elements lead to rows of their own, written element by element; and facts of rows told by the interval of blocks that they lie in. -/
namespace Go.Proofs.YtplfbjbbnjlnkaaM
open Go.RowKit Go.Proofs.YtplfbjbbnjlnkaaW.PrintWords Go.Proofs.YtplfbjbbnjlnkaaW.PrintWords.Kd
set_option linter.unusedVariables false
section
variable {α : Type} {d : Kd α} {e g n cap base : Nat} {ok oki : Nat → Prop} {W w2 : World} {xs : List α} {i : Int} {c c' : List Value} {x' : α}
theorem set_seg {c : List Value} {j : Nat} (u : Value) (hj : j < c.length) : c.take j ++ [u] ++ c.drop (j + [u].length) = c.set j u := by
  apply List.ext_getElem?
  intro m
  rw [List.append_assoc, List.getElem?_append, List.length_take, Nat.min_eq_left (Nat.le_of_lt hj)]
  by_cases h1 : m < j
  · rw [if_pos h1, List.getElem?_take, if_pos h1, List.getElem?_set_ne (by omega)]
  · rw [if_neg h1]
    by_cases h2 : m = j
    · subst h2; rw [List.getElem?_set_self hj]; simp
    · rw [List.getElem?_set_ne (by omega), List.getElem?_append_right (by simp; omega), List.getElem?_drop]
      congr 1; simp; omega
/-- One cell of the element that is out is written. -/
theorem H_cell (h : H d e W base ok (.slice (some ⟨g, 0, none⟩) n cap) xs i oki c) (h0 : 0 ≤ i) (h1 : i < n) (j : Nat) (u : Value) (hj : j < d.sz) (hc : c.length = d.sz) (hu : u.oneCell' = true) :
    H d e (W.setCell ⟨g, i.toNat * d.sz + j, none⟩ u) base ok (.slice (some ⟨g, 0, none⟩) n cap) xs i oki (c.set j u) := by
  have h2 := (H_seg h h0 h1 (seg := [u]) (j := j) (by simp; omega) (fun q hq => by rw [List.mem_singleton.1 hq]; exact hu)).1
  rw [set_seg u (by omega)] at h2
  exact h2
theorem H_cells (h : H d e W base ok (.slice (some ⟨g, 0, none⟩) n cap) xs i oki c) (h0 : 0 ≤ i) (h1 : i < n) (j : Nat) {u : Value} (hu : c[j]? = some u) :
    W.cell? ⟨g, i.toNat * d.sz + j, none⟩ = some u := by
  obtain ⟨_, _, _, _, _, hcc, _⟩ := H_raw h h0 h1
  exact hcc j u hu
theorem H_fr (h : H d e W base ok (.slice (some ⟨g, 0, none⟩) n cap) xs i oki c) (h0 : 0 ≤ i) (h1 : i < n) (j : Nat) : W.frozen? ⟨g, i.toNat * d.sz + j, none⟩ = false := by
  obtain ⟨_, hfr⟩ := H_at h h0 h1
  exact hfr j
/-- A row of the element that is out has been written, by a call that keeps all else. -/
theorem H_call (h : H d e W base ok (.slice (some ⟨g, 0, none⟩) n cap) xs i oki c) (hk : Kept W w2 oki) : H d e w2 base ok (.slice (some ⟨g, 0, none⟩) n cap) xs i oki c :=
  H_step h (fun k _ hn hlt => hk.2 k hlt hn)
end
section
variable {α : Type} {d : Kd α} {e n c base lo hi lo' hi' : Nat} {ok : Nat → Prop} {w0 w w1 : World} {A : Option Addr} {v : Value} {xs : List α}
theorem S_len (h : S d e w base ok (.slice A n c) xs) : xs.length ≤ c := by have h_ := S_reads' h; rw [← h_.1]; exact h_.2.1
theorem R_len (h : d.R e w base ok (.slice A n c) xs) : xs.length ≤ c := by have h_ := R_reads' h; rw [← h_.1]; exact h_.2.1
theorem S_C (h : S d e w base ok (.slice A n c) xs) : d.C w A xs.length xs := (S_reads' h).2.2
theorem R_C (h : d.R e w base ok (.slice A n c) xs) : d.C w A xs.length xs := (R_reads' h).2.2
theorem S_n (h : S d e w base ok (.slice A n c) xs) : xs.length = n := (S_reads' h).1.symm
theorem R_n (h : d.R e w base ok (.slice A n c) xs) : xs.length = n := (R_reads' h).1.symm
/-- What a call made lies between the worlds' sizes. -/
theorem S_made (h : S d e w1 w.heap.size ok v xs) (hb : w0.heap.size ≤ w.heap.size) : ∃ A n c, v = .slice A n c ∧ n = xs.length ∧ S d e w1 w0.heap.size (fun k_ => w.heap.size ≤ k_ ∧ k_ < w1.heap.size) (.slice A n c) xs := by
  obtain ⟨A, c, rfl, _, _⟩ := S_reads h
  exact ⟨A, _, c, rfl, rfl, S_mono (S_lower (S_bound h) hb) (fun _ h_ => ⟨h_.2.1, h_.2.2.1⟩)⟩
theorem R_made (h : d.R e w1 w.heap.size ok v xs) (hb : w0.heap.size ≤ w.heap.size) : ∃ A n c, v = .slice A n c ∧ n = xs.length ∧ d.R e w1 w0.heap.size (fun k_ => w.heap.size ≤ k_ ∧ k_ < w1.heap.size) (.slice A n c) xs := by
  obtain ⟨A, c, rfl, _, _⟩ := R_reads h
  exact ⟨A, _, c, rfl, rfl, R_mono (R_lower (R_bound h) hb) (fun _ h_ => ⟨h_.2.1, h_.2.2.1⟩)⟩
/-- What lies elsewhere stays. -/
theorem S_else (h : S d e w base (fun k_ => lo ≤ k_ ∧ k_ < hi) v xs) (hk : Kept w w1 (fun k_ => lo' ≤ k_ ∧ k_ < hi')) (hd : hi ≤ lo' ∨ hi' ≤ lo) : S d e w1 base (fun k_ => lo ≤ k_ ∧ k_ < hi) v xs :=
  S_step h (fun k h1 h2 => hk.2 k h2 (fun h3 => by have := h1.1; have := h1.2; have := h3.1; have := h3.2; omega))
theorem R_else (h : d.R e w base (fun k_ => lo ≤ k_ ∧ k_ < hi) v xs) (hk : Kept w w1 (fun k_ => lo' ≤ k_ ∧ k_ < hi')) (hd : hi ≤ lo' ∨ hi' ≤ lo) : d.R e w1 base (fun k_ => lo ≤ k_ ∧ k_ < hi) v xs :=
  R_step h (fun k h1 h2 => hk.2 k h2 (fun h3 => by have := h1.1; have := h1.2; have := h3.1; have := h3.2; omega))
/-- An empty row: what its value leads to is never looked at. -/
def Em (A : Option Addr) (n c : Nat) (xs : List α) : Prop := xs = [] ∧ n = 0
end
section
variable {P : Program} {ops : Array Oper} {rest : List Oper} {o : Oper} {a : Act} {Q : Exit → Act → World → Prop} {Kc : Act → World → Prop} {α : Type}
open Classical in
/-- append(v, ys...): ys is a row of the call's own too, whose elements lead to blocks of their own: so the whole row's elements do. -/
theorem S_append_rows_step (d : Kd α) {w0 W : World} (base : Nat) (hw : Region.wanted o (yielded ops a.tmps) = true) (s x : Operand) (t e : TypeId) (z : Value) (bytes : Nat)
    (ho : o.op = .call { callee := .builtin .append, args := #[s, x], argTypes := #[t, t] })
    (ht : P.underlying t = some (.slice e)) (hinfo : (P.info? e).map (fun i => (i.zero, i.size, i.bytes)) = some (some z, d.sz, bytes)) (hz : z.cells.size = d.sz) (hs0 : 0 < d.sz) (hb0 : 0 < bytes)
    (v : Value) (xs ys : List α) (A : Option Addr) (m c : Nat) (ok okp : Nat → Prop) (hs : a.eval s = v) (hx : a.eval x = .slice A m c)
    (HO : S d e W base (fun k => ok k ∧ ¬ okp k) v xs) (HR : S d e W base okp (.slice A m c) ys) (hokp : ∀ k, okp k → ok k ∧ some k ≠ v.ownBlock) (hfresh : ∀ k, W.heap.size ≤ k → ok k)
    (HB : Below base w0 W) (hbase : base ≤ W.heap.size) (hl : (xs.length + m) * bytes ≤ 140737488355328)
    (h : ∀ v1 w1, S d e w1 base ok v1 (xs ++ ys) → Below base w0 w1 → W.grownBy w1 v.ownBlock → (v1.ownBlock = v.ownBlock ∨ ∃ b, v1.ownBlock = some b ∧ W.heap.size ≤ b) → Kc (a.put o.dst v1) w1) :
    if Region.wanted o (yielded ops a.tmps) = true then Oper.wp P o a W Kc Q else Kc (a.put o.dst undef) W := by
  obtain ⟨f, hf⟩ := HO
  obtain ⟨g, hg⟩ := HR
  obtain ⟨A', c', he, _, hr⟩ := OwnRow.reads hg.2
  rw [List.length_zipIdx] at he hr
  injection he with e1 e2 e3
  subst e1 e2 e3
  refine R_append_rows_step (tag (fun k => if okp k then g k + xs.length else f k) d) (Rr := (tag (fun k => if okp k then g k + xs.length else f k) d).M W base okp) base hw s x t e z bytes ho ht hinfo hz hs0 hb0 v xs.zipIdx (ys.zipIdx xs.length) A ys.length c ok okp hs hx (R_mono (R_tag hf (fun k hk _ => if_neg hk.2)) (fun _ hk => hk.1)) ?_ (fun _ _ hp => hp) hokp hfresh HB hbase (by rw [List.length_zipIdx]; exact hl) ?_
  · obtain ⟨h1, h2, h3⟩ := hr
    refine ⟨by rw [List.length_zipIdx], h2, fun hp => ?_⟩
    obtain ⟨ad, rfl, h4⟩ := h3 hp
    refine ⟨ad, rfl, fun j p hj => ?_⟩
    rw [List.getElem?_zipIdx] at hj
    obtain ⟨y, hy, rfl⟩ := Option.map_eq_some_iff.1 hj
    obtain ⟨cs, hc1, hc2, hc3⟩ := h4 j (y, j) (zip_at hy)
    refine ⟨cs, hc1, d.M_mono (fun k hk => ?_) hc2, hc3⟩
    exact ⟨hk.1.1, by show (if okp k then g k + xs.length else f k) = _; rw [if_pos hk.1.1, hk.2]; exact Nat.add_comm _ _⟩
  · intro v1 w1 hR hb hg2 hat
    refine h v1 w1 ⟨fun k => if okp k then g k + xs.length else f k, ?_⟩ hb hg2 hat
    rw [List.zipIdx_append, Nat.zero_add]
    exact hR
end
end Go.Proofs.YtplfbjbbnjlnkaaM
