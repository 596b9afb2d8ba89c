import Derived.Test.YtmodglnbidedhaaGreatWWords
import Derived.ChangeArms
import Derived.ChangeSlices
import Derived.ChangeOld
import Derived.DataElems
/- What a law's parameter reads as, kind by kind: a struct, a slice, a tree of structs that came in is one value of its kind. -/
namespace Go.Proofs.YtmodglnbidedhaaGreatO
open Go.Proofs.YtmodglnbidedhaaGreatW.PrintWords Go.RowKit
set_option linter.unusedVariables false
variable {P : Program} {α β : Type}
def Opens (P : Program) (t : TypeId) {α : Type} (d : Kd α) (G : α → Prop) (n : Nat) : Prop :=
  ∀ (H : Type) (enc : TypeId × Value → H) (w : World) (base : Nat) (sp : Nat → Bool) (held : Bool) (cs : List Value) (y : DataW H × List MemPlace), DataW.trod enc P w base sp held n t cs = some y → ∃ x, d.K w x cs ∧ G x
theorem opens_int {t : TypeId} {k : IntKind} (ht : P.underlying t = some (.int k)) (n : Nat) : Opens P t (Kd.int k) (fun x => (Lit.int k x).wf = true) n := by
  intro H enc w base sp held cs y h
  obtain ⟨m, rfl, _, hw⟩ := DataW.trod_int ht h
  exact ⟨m, rfl, hw⟩
theorem list_of {p : Nat → α → Prop} : ∀ n, (∀ i, i < n → ∃ x, p i x) → ∃ xs : List α, xs.length = n ∧ ∀ i x, xs[i]? = some x → p i x
  | 0, _ => ⟨[], rfl, fun i x h => by simp at h⟩
  | n + 1, h => by
    obtain ⟨xs, hl, hx⟩ := list_of n (fun i hi => h i (by omega))
    obtain ⟨x, hp⟩ := h n (by omega)
    refine ⟨xs ++ [x], by simp [hl], fun i z hz => ?_⟩
    rcases Nat.lt_or_ge i n with hi | hi
    · rw [List.getElem?_append_left (by omega)] at hz
      exact hx i z hz
    · have hi2 : i = n := by
        have := (List.getElem?_eq_some_iff.1 hz).1
        simp [hl] at this
        omega
      subst hi2
      rw [List.getElem?_append_right (by omega)] at hz
      simp [hl] at hz
      rw [← hz]; exact hp
theorem cells_each {w : World} {base : Nat} {a : Addr} {n : Nat} {cs : List Value} (h : w.cells? base a n = some cs) : cs.length = n ∧ ∀ i u, cs[i]? = some u → w.cell? (a.add i) = some u := by
  unfold World.cells? at h
  split at h
  · have hl := mapM_some_length h
    simp at hl
    refine ⟨hl, fun i u hu => ?_⟩
    have hi := (List.getElem?_eq_some_iff.1 hu).1
    have h1 := mapM_some_get h i i (by rw [List.getElem?_range (by omega)])
    rw [hu] at h1
    exact h1
  · cases h
theorem opens_slice {t e : TypeId} {d : Kd α} {G : α → Prop} {n : Nat} (ht : P.underlying t = some (.slice e)) (hc : P.cellsOf e = d.sz) (h : ∀ m, m < n → Opens P e d G m) :
    Opens P t (Kd.slice e d) (fun xs => xs.length ≤ maxLen ∧ ∀ x ∈ xs, G x) n := by
  intro H enc w base sp held cs y hy
  rcases DataW.trod_slice ht hy with ⟨rfl, _⟩ | ⟨a, len, cap, elems, rest, m, rfl, rfl, _, hb, hlc, hm, hlen, hel, _, _⟩
  · exact ⟨[], ⟨none, 0, rfl, Nat.le_refl _, rfl, by simp, fun hp => absurd hp (by simp)⟩, by simp, fun x hx => by simp at hx⟩
  · have each : ∀ i, i < len → ∃ xc : α × List Value, w.cells? base (a.add (i * d.sz)) d.sz = some xc.2 ∧ d.K w xc.1 xc.2 ∧ G xc.1 := by
      intro i hi
      have h1 := hel i hi
      rw [hc] at h1
      have hi2 : i < elems.length := by omega
      rw [List.getElem?_eq_getElem hi2, Option.bind_eq_some_iff] at h1
      obtain ⟨c, hcc, hct⟩ := h1
      obtain ⟨x, hK, hG⟩ := h m (by omega) H enc w base sp held c _ hct
      exact ⟨(x, c), hcc, hK, hG⟩
    obtain ⟨xs, hl, hx⟩ := list_of len each
    have hmap : (xs.map (·.1)).length = len := by rw [List.length_map, hl]
    refine ⟨xs.map (·.1), ⟨some a, cap, by rw [hmap], by rw [hmap]; exact hlc, hmap ▸ rfl, ?_, fun _ => ⟨a, rfl, fun j p hj => ?_⟩⟩, by rw [hmap]; exact Nat.le_trans hlc hm, fun x hx' => ?_⟩
    · rw [hmap]; simp only [maxLen] at hm; omega
    · rw [List.getElem?_map, Option.map_eq_some_iff] at hj
      obtain ⟨xc, hxc, rfl⟩ := hj
      obtain ⟨h1, h2, _⟩ := hx j xc hxc
      obtain ⟨h3, h4⟩ := cells_each h1
      exact ⟨xc.2, h3, h2, fun i u hu => by have := h4 i u hu; rwa [Addr.add_add] at this⟩
    · obtain ⟨xc, hm', rfl⟩ := List.mem_map.1 hx'
      obtain ⟨j, hj⟩ := List.getElem?_of_mem hm'
      exact (hx j xc hj).2.2
def FieldsOpen (P : Program) (fs : List Field) (off : Nat) {α : Type} (d : Kd α) (G : α → Prop) (m : Nat) : Prop :=
  ∀ (H : Type) (enc : TypeId × Value → H) (w : World) (base : Nat) (sp : Nat → Bool) (held : Bool) (cs : List Value), (∀ f ∈ fs, ∃ y, DataW.trod enc P w base sp held m f.type ((cs.drop f.offset).take (P.cellsOf f.type)) = some y) → ∃ x, d.K w x ((cs.drop off).take d.sz) ∧ G x
end Go.Proofs.YtmodglnbidedhaaGreatO
