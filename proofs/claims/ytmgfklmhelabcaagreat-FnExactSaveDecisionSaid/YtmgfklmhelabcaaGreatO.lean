import Derived.Test.YtmgfklmhelabcaaGreatWWords
import Derived.ChangeArms
import Derived.ChangeSlices
import Derived.ChangeOld
import Derived.DataElems
/- What a law's parameter reads as, kind by kind: a struct, a slice, a tree of structs that came in is one value of its kind. -/
namespace Go.Proofs.YtmgfklmhelabcaaGreatO
open Go.Proofs.YtmgfklmhelabcaaGreatW.PrintWords Go.RowKit
set_option linter.unusedVariables false
variable {P : Program} {α β : Type}
def Opens (P : Program) (t : TypeId) {α : Type} (d : Kd α) (G : α → Prop) (n : Nat) : Prop :=
  ∀ (H : Type) (enc : TypeId × Value → H) (w : World) (base : Nat) (sp : Nat → Bool) (held : Bool) (cs : List Value) (y : DataW H × List MemPlace), DataW.trod enc P w base sp held n t cs = some y → ∃ x, d.K w x cs ∧ G x
theorem opens_int {t : TypeId} {k : IntKind} (ht : P.underlying t = some (.int k)) (n : Nat) : Opens P t (Kd.int k) (fun x => (Lit.int k x).wf = true) n := by
  intro H enc w base sp held cs y h
  obtain ⟨m, rfl, _, hw⟩ := DataW.trod_int ht h
  exact ⟨m, rfl, hw⟩
theorem list_of {p : Nat → α → Prop} : ∀ n, (∀ i, i < n → ∃ x, p i x) → ∃ xs : List α, xs.length = n ∧ ∀ i x, xs[i]? = some x → p i x
  | 0, _ => ⟨[], rfl, fun i x h => by simp at h⟩
  | n + 1, h => by
    obtain ⟨xs, hl, hx⟩ := list_of n (fun i hi => h i (by omega))
    obtain ⟨x, hp⟩ := h n (by omega)
    refine ⟨xs ++ [x], by simp [hl], fun i z hz => ?_⟩
    rcases Nat.lt_or_ge i n with hi | hi
    · rw [List.getElem?_append_left (by omega)] at hz
      exact hx i z hz
    · have hi2 : i = n := by
        have := (List.getElem?_eq_some_iff.1 hz).1
        simp [hl] at this
        omega
      subst hi2
      rw [List.getElem?_append_right (by omega)] at hz
      simp [hl] at hz
      rw [← hz]; exact hp
theorem cells_each {w : World} {base : Nat} {a : Addr} {n : Nat} {cs : List Value} (h : w.cells? base a n = some cs) : cs.length = n ∧ ∀ i u, cs[i]? = some u → w.cell? (a.add i) = some u := by
  unfold World.cells? at h
  split at h
  · have hl := mapM_some_length h
    simp at hl
    refine ⟨hl, fun i u hu => ?_⟩
    have hi := (List.getElem?_eq_some_iff.1 hu).1
    have h1 := mapM_some_get h i i (by rw [List.getElem?_range (by omega)])
    rw [hu] at h1
    exact h1
  · cases h
theorem opens_slice {t e : TypeId} {d : Kd α} {G : α → Prop} {n : Nat} (ht : P.underlying t = some (.slice e)) (hc : P.cellsOf e = d.sz) (h : ∀ m, m < n → Opens P e d G m) :
    Opens P t (Kd.slice e d) (fun xs => xs.length ≤ maxLen ∧ ∀ x ∈ xs, G x) n := by
  intro H enc w base sp held cs y hy
  rcases DataW.trod_slice ht hy with ⟨rfl, _⟩ | ⟨a, len, cap, elems, rest, m, rfl, rfl, _, hb, hlc, hm, hlen, hel, _, _⟩
  · exact ⟨[], ⟨none, 0, rfl, Nat.le_refl _, rfl, by simp, fun hp => absurd hp (by simp)⟩, by simp, fun x hx => by simp at hx⟩
  · have each : ∀ i, i < len → ∃ xc : α × List Value, w.cells? base (a.add (i * d.sz)) d.sz = some xc.2 ∧ d.K w xc.1 xc.2 ∧ G xc.1 := by
      intro i hi
      have h1 := hel i hi
      rw [hc] at h1
      have hi2 : i < elems.length := by omega
      rw [List.getElem?_eq_getElem hi2, Option.bind_eq_some_iff] at h1
      obtain ⟨c, hcc, hct⟩ := h1
      obtain ⟨x, hK, hG⟩ := h m (by omega) H enc w base sp held c _ hct
      exact ⟨(x, c), hcc, hK, hG⟩
    obtain ⟨xs, hl, hx⟩ := list_of len each
    have hmap : (xs.map (·.1)).length = len := by rw [List.length_map, hl]
    refine ⟨xs.map (·.1), ⟨some a, cap, by rw [hmap], by rw [hmap]; exact hlc, hmap ▸ rfl, ?_, fun _ => ⟨a, rfl, fun j p hj => ?_⟩⟩, by rw [hmap]; exact Nat.le_trans hlc hm, fun x hx' => ?_⟩
    · rw [hmap]; simp only [maxLen] at hm; omega
    · rw [List.getElem?_map, Option.map_eq_some_iff] at hj
      obtain ⟨xc, hxc, rfl⟩ := hj
      obtain ⟨h1, h2, _⟩ := hx j xc hxc
      obtain ⟨h3, h4⟩ := cells_each h1
      exact ⟨xc.2, h3, h2, fun i u hu => by have := h4 i u hu; rwa [Addr.add_add] at this⟩
    · obtain ⟨xc, hm', rfl⟩ := List.mem_map.1 hx'
      obtain ⟨j, hj⟩ := List.getElem?_of_mem hm'
      exact (hx j xc hj).2.2
def FieldsOpen (P : Program) (fs : List Field) (off : Nat) {α : Type} (d : Kd α) (G : α → Prop) (m : Nat) : Prop :=
  ∀ (H : Type) (enc : TypeId × Value → H) (w : World) (base : Nat) (sp : Nat → Bool) (held : Bool) (cs : List Value), (∀ f ∈ fs, ∃ y, DataW.trod enc P w base sp held m f.type ((cs.drop f.offset).take (P.cellsOf f.type)) = some y) → ∃ x, d.K w x ((cs.drop off).take d.sz) ∧ G x
theorem fields_one {f : Field} {off m : Nat} {d : Kd α} {G : α → Prop} (ho : f.offset = off) (hc : P.cellsOf f.type = d.sz) (h : Opens P f.type d G m) : FieldsOpen P [f] off d G m := by
  intro H enc w base sp held cs hf
  obtain ⟨y, hy⟩ := hf f (List.mem_singleton.2 rfl)
  rw [ho, hc] at hy
  exact h H enc w base sp held _ y hy
theorem fields_cons {f : Field} {fs : List Field} {off m : Nat} {a : Kd α} {b : Kd β} {G : α → Prop} {G' : β → Prop} (ho : f.offset = off) (hc : P.cellsOf f.type = a.sz) (h : Opens P f.type a G m) (hs : FieldsOpen P fs (off + a.sz) b G' m) :
    FieldsOpen P (f :: fs) off (Kd.pair a b) (fun x => G x.1 ∧ G' x.2) m := by
  intro H enc w base sp held cs hf
  obtain ⟨y, hy⟩ := hf f List.mem_cons_self
  rw [ho, hc] at hy
  obtain ⟨x1, k1, g1⟩ := h H enc w base sp held _ y hy
  obtain ⟨x2, k2, g2⟩ := hs H enc w base sp held cs (fun f' hf' => hf f' (List.mem_cons_of_mem _ hf'))
  refine ⟨(x1, x2), ⟨_, _, ?_, k1, k2⟩, g1, g2⟩
  show List.take (a.sz + b.sz) (List.drop off cs) = _
  rw [List.take_add, List.drop_drop]
theorem opens_struct {t : TypeId} {fs : Array Field} {d : Kd α} {G : α → Prop} {n : Nat} (ht : P.underlying t = some (.struct fs)) (hc : P.cellsOf t = d.sz) (h : ∀ m, m < n → FieldsOpen P fs.toList 0 d G m) : Opens P t d G n := by
  intro H enc w base sp held cs y hy
  obtain ⟨xs, m, rfl, _, hl, hlen, hf⟩ := DataW.trod_struct ht hy
  obtain ⟨x, hK, hG⟩ := h m (by omega) H enc w base sp held cs (fun f hf' => by
    obtain ⟨i, hi⟩ := List.getElem?_of_mem hf'
    have hi' : fs[i]? = some f := by simpa using hi
    have hlt : i < xs.length := by
      have := (Array.getElem?_eq_some_iff.1 hi').1
      omega
    exact ⟨_, (hf i f hi').trans (List.getElem?_eq_getElem hlt)⟩)
  rw [List.drop_zero, ← hc, ← hl, List.take_length] at hK
  exact ⟨x, hK, hG⟩
theorem opens_iso {t : TypeId} {d : Kd α} {G : α → Prop} {n : Nat} (f : β → α) (g : α → β) (hfg : ∀ x, f (g x) = x) (h : Opens P t d G n) : Opens P t (Kd.iso d f) (fun y => G (f y)) n := by
  intro H enc w base sp held cs y hy
  obtain ⟨x, hK, hG⟩ := h H enc w base sp held cs y hy
  exact ⟨g x, by show d.K w (f (g x)) cs; rw [hfg]; exact hK, by show G (f (g x)); rw [hfg]; exact hG⟩
theorem opens_imp {t : TypeId} {d : Kd α} {G G' : α → Prop} {n : Nat} (h : Opens P t d G n) (hG : ∀ x, G x → G' x) : Opens P t d G' n := by
  intro H enc w base sp held cs y hy
  obtain ⟨x, hK, hx⟩ := h H enc w base sp held cs y hy
  exact ⟨x, hK, hG x hx⟩
theorem opens_fix {t : TypeId} (F : Kd α → Kd α) (sz : Nat) (E : List Nat) (hs : ∀ n, (Kd.upto F sz E n).sz = sz) (hE : ∀ n q, q ∈ (Kd.upto F sz E n).E → q ∈ E) (GF : (α → Prop) → α → Prop)
    (step : ∀ (n : Nat) (d : Kd α) (G : α → Prop), d.sz = sz → (∀ m, m < n → Opens P t d G m) → Opens P t (F d) (GF G) n) (mono : ∀ {d d' : Kd α}, d.sz = d'.sz → (∀ w x cs, d.K w x cs → d'.K w x cs) → ∀ w x cs, (F d).K w x cs → (F d').K w x cs)
    (gmono : ∀ {G G' : α → Prop}, (∀ x, G x → G' x) → ∀ x, GF G x → GF G' x) (n : Nat) :
    Opens P t (Kd.fix F sz E hs hE) (fun x => ∃ k, Nat.rec (fun _ => False) (fun _ G => GF G) k x) n := by
  have key : ∀ n, Opens P t (Kd.upto F sz E n) (Nat.rec (motive := fun _ => α → Prop) (fun _ => False) (fun _ G => GF G) n) n := by
    intro n
    have le : ∀ m k, m ≤ k → ∀ w x cs, (Kd.upto F sz E m).K w x cs → (Kd.upto F sz E k).K w x cs := by
      intro m
      induction m with
      | zero => intro k _ w x cs h; exact h.elim
      | succ m ih =>
        intro k hk w x cs h
        obtain ⟨k, rfl⟩ : ∃ j, k = j + 1 := ⟨k - 1, by omega⟩
        exact mono (by rw [hs, hs]) (fun w x cs h => ih k (by omega) w x cs h) w x cs h
    have gle : ∀ m k, m ≤ k → ∀ x, (Nat.rec (motive := fun _ => α → Prop) (fun _ => False) (fun _ G => GF G) m) x → (Nat.rec (motive := fun _ => α → Prop) (fun _ => False) (fun _ G => GF G) k) x := by
      intro m
      induction m with
      | zero => intro k _ x h; exact h.elim
      | succ m ih =>
        intro k hk x h
        obtain ⟨k, rfl⟩ : ∃ j, k = j + 1 := ⟨k - 1, by omega⟩
        exact gmono (fun x h => ih k (by omega) x h) x h
    induction n using Nat.strongRecOn with
    | _ n ih =>
      cases n with
      | zero => intro H enc w base sp held cs y hy; simp [DataW.trod] at hy
      | succ n =>
        refine step (n + 1) _ _ (hs n) (fun m hm => ?_)
        intro H enc w base sp held cs y hy
        obtain ⟨x, hK, hG⟩ := ih m hm H enc w base sp held cs y hy
        exact ⟨x, le m n (by omega) w x cs hK, gle m n (by omega) x hG⟩
  intro H enc w base sp held cs y hy
  obtain ⟨x, hK, hG⟩ := key n H enc w base sp held cs y hy
  exact ⟨x, ⟨n, hK⟩, n, hG⟩
end Go.Proofs.YtmgfklmhelabcaaGreatO
