import Derived.Shelf.Spec.SlicesInsert
import Derived.Lib.AppendZerosOnto
import Derived.Test.YtpdnnndedejlhaaGreatProg
import Derived.Test.YtpdnnndedejlhaaGreatWV5
/- slices.Insert at rows of structs: what stands ahead of the place, the new element, what stood behind. -/
set_option linter.unusedVariables false
set_option linter.unusedSimpArgs false
namespace Go.Proofs.YtpdnnndedejlhaaGreat.I66
open Go Go.Shelf Go.RowKit Go.Lib Go.Proofs
/-- copy, of whole elements: all is read before anything is written. -/
theorem copy_cells {P : Program} (w : World) (dT sT ty elem : TypeId) (K b o dLen dCap : Nat) (a : Addr) (sLen sCap m : Nat) (cs : List Value)
    (hu : P.underlying dT = some (.slice elem)) (hs : (P.info? elem).map (·.size) = some K) (hm : m = Nat.min sLen dLen) (hn : cs.length = m * K)
    (hsrc : ∀ j v, cs[j]? = some v → w.cell? (a.add j) = some v) (hc : ∀ j, j < cs.length → (w.cell? ⟨b, o + j, none⟩).isSome = true) (hf : ∀ j, j < cs.length → w.frozen? ⟨b, o + j, none⟩ = false) (h1 : ∀ v ∈ cs, v.oneCell' = true) :
    (Builtin.copy_ #[dT, sT] ty #[.slice (some ⟨b, o, none⟩) dLen dCap, .slice (some a) sLen sCap]).run P w = .ok (goInt m) (w.setCells b o cs) := by
  have hl := run_loadCells_list (P := P) w a cs hsrc
  have hst := run_storeCells_cells (P := P) b o cs 0 w (by simpa using hc) (by simpa using hf) h1
  subst hm
  cases hq : P.info? elem with
  | none => simp [hq] at hs
  | some i =>
    have hi : i.size = K := by simpa [hq] using hs
    simp [Builtin.copy_, run_underlying hu, Builtin.lenOf, Builtin.firstCells, sizeOf, typeInfo, hq, hi, ← hn, hl, hst]
theorem inf : (Tryz.prog.info? 44).map (fun i => (i.zero, i.size, i.bytes)) = some (some (.agg #[(.int .i64 0), (.int .i64 0), (.int .i64 0), (.int .i64 0), (.int .i64 0), (.int .i64 0)]), 6, 48) := by kernel_rfl
theorem isz : (Tryz.prog.info? 44).map (·.size) = some 6 := by kernel_rfl
theorem sz : ∀ w, (Go.sizeOf 44).run Tryz.prog w = .ok 6 w := fun w => by
  obtain ⟨i0, hi0, h0, h1, h2⟩ := info_parts inf
  simp [Go.sizeOf, typeInfo, hi0, h1]
theorem und : Tryz.prog.underlying 36 = some (TypeDesc.slice 44) := by kernel_rfl
set_option maxHeartbeats 4000000 in
set_option maxRecDepth 100000 in
/-- There is room, and the place is not the end. -/
theorem shift (b off n c i vb voff vc : Nat) (cs vs : List Value) (w : World) (hi : i < n) (hroom : n + 1 ≤ c) (hc63 : c ≤ 9223372036854775807) (hvb : vb ≠ b)
    (hcl : cs.length = n * 6) (hvl : vs.length = 6)
    (hcs : ∀ j v, cs[j]? = some v → w.cell? ⟨b, off + j, none⟩ = some v) (hsp : ∀ j, j < (n + 1) * 6 → (w.cell? ⟨b, off + j, none⟩).isSome = true) (hfz : ∀ j, j < (n + 1) * 6 → w.frozen? ⟨b, off + j, none⟩ = false)
    (hvs : ∀ j v, vs[j]? = some v → w.cell? ⟨vb, voff + j, none⟩ = some v) (h1c : ∀ v ∈ cs, v.oneCell' = true) (h1v : ∀ v ∈ vs, v.oneCell' = true)
    (tA tB : TypeId) (kA kB : Nat) (hsa : w.shape? vb = some (tA, kA)) (hsb : w.shape? b = some (tB, kB)) (hkB : kB ≠ 0) (hfa : w.frozen? ⟨vb, voff, none⟩ = false) (hfe : w.frozen? ⟨vb, kA, none⟩ = false) :
    Calls Tryz.prog 66 #[.slice (some ⟨b, off, none⟩) n c, .int .i64 i, .slice (some ⟨vb, voff, none⟩) 1 vc] w fun e w' =>
      e = .returned (.slice (some ⟨b, off, none⟩) (n + 1) c) ∧ w' = (w.drew.setCells b (off + (i + 1) * 6) (cs.drop (i * 6))).setCells b (off + i * 6) vs := by
  have t0 := Tryz.underlying0; have a0 := Tryz.isAgg0; have z0 := Tryz.sizeOf0; have v0 := Tryz.zeroValue0; have t3 := Tryz.underlying3; have a3 := Tryz.isAgg3; have z3 := Tryz.sizeOf3; have v3 := Tryz.zeroValue3; have t4 := Tryz.underlying4; have a4 := Tryz.isAgg4; have z4 := Tryz.sizeOf4; have v4 := Tryz.zeroValue4; have t24 := und; have a24 := Tryz.isAgg36; have z24 := Tryz.sizeOf36; have v24 := Tryz.zeroValue36; have zE := sz
  have u0 := run_underlying t0; have u3 := run_underlying t3; have u4 := run_underlying t4; have u24 := run_underlying t24
  have hz2 : ¬ ((i : Int) = (n : Int)) := by omega
  have hov : ∀ lb cb, (callFunc 98 #[.slice (some ⟨vb, voff, none⟩) 1 vc, .slice (some ⟨b, off + (i + 1) * 6, none⟩) lb cb]).run Tryz.prog w = .ok (.value (.bool false)) w := fun lb cb => by
    rw [run_callFunc_extern Tryz.func98 (by kernel_rfl) (by kernel_rfl) (by kernel_rfl) (e := Extern.SlicesOverlaps.overlaps #[36, 36] #[4]) (by kernel_rfl),
      Lib.run_overlaps_apart w 36 4 44 und 6 sz ⟨vb, voff, none⟩ ⟨b, off + (i + 1) * 6, none⟩ 1 vc lb cb hvb tA tB kA kB hsa hsb hkB hfa hfe]
    rfl
  have hdl : (cs.drop (i * 6)).length = (n - i) * 6 := by rw [List.length_drop, hcl]; omega
  have mixed : Tryz.prog.follows .mixedOrders = true := by kernel_rfl
  have hw1 : IntKind.i64.wrap ((i : Int) + 1) = (i : Int) + 1 := by rw [IntKind.wrap_i64]; omega
  have hb1 : (0 : Int) ≤ (i : Int) + 1 := by omega
  have hin : i ≤ n := by omega
  have htn : ((i : Int) + 1).toNat = i + 1 := by omega
  have hb2 : ¬ (c = i + 1) := by omega
  have hb3 : (i : Int) ≤ (n : Int) + 1 := by omega
  have hb4 : ¬ (c = i) := by omega
  have hcp1 : ∀ ty dc sc, (Builtin.copy_ #[36, 36] ty #[.slice (some ⟨b, off + (i + 1) * 6, none⟩) (n - i) dc, .slice (some ⟨b, off + i * 6, none⟩) (n + 1 - i) sc]).run Tryz.prog w.drew = .ok (goInt (n - i : Nat)) (w.drew.setCells b (off + (i + 1) * 6) (cs.drop (i * 6))) := fun ty dc sc =>
    copy_cells w.drew _ _ ty 44 6 b (off + (i + 1) * 6) (n - i) dc ⟨b, off + i * 6, none⟩ (n + 1 - i) sc (n - i) (cs.drop (i * 6)) und isz (by simp only [Nat.min_def]; split <;> omega) hdl
      (fun j v hj => by rw [Addr.add_lit, Nat.add_assoc]; exact hcs (i * 6 + j) v (by rwa [List.getElem?_drop] at hj))
      (fun j hj => by rw [Nat.add_assoc]; exact hsp _ (by omega)) (fun j hj => by rw [Nat.add_assoc]; exact hfz _ (by omega)) (fun v hv => h1c v (List.mem_of_mem_drop hv))
  obtain ⟨W1, hW1⟩ : ∃ W1, W1 = w.drew.setCells b (off + (i + 1) * 6) (cs.drop (i * 6)) := ⟨_, rfl⟩
  have hsp1 : ∀ k, k < (n + 1) * 6 → (W1.cell? ⟨b, off + k, none⟩).isSome = true := fun k hk => by
    rw [hW1]
    exact isSome_setCells b _ _ _ (fun j hj => by rw [Nat.add_assoc]; exact hsp _ (by omega)) _ (hsp k hk)
  have hcp2 : ∀ (W : World), (∀ x, W.cell? x = W1.cell? x) → (∀ x, W.frozen? x = W1.frozen? x) → ∀ ty dc, (Builtin.copy_ #[36, 36] ty #[.slice (some ⟨b, off + i * 6, none⟩) (n + 1 - i) dc, .slice (some ⟨vb, voff, none⟩) 1 vc]).run Tryz.prog W = .ok (goInt (1 : Nat)) (W.setCells b (off + i * 6) vs) := fun W hWc hWf ty dc =>
    copy_cells W _ _ ty 44 6 b (off + i * 6) (n + 1 - i) dc ⟨vb, voff, none⟩ 1 vc 1 vs und isz (by simp only [Nat.min_def]; split <;> omega) (by omega)
      (fun j v hj => by
        rw [Addr.add_lit, hWc, hW1, World.cell?_setCells_out b _ _ _ _ (fun h _ => absurd h hvb)]
        exact hvs j v hj)
      (fun j hj => by rw [hWc, Nat.add_assoc]; exact hsp1 _ (by omega)) (fun j hj => by rw [hWf, hW1, World.frozen?_setCells, Nat.add_assoc]; exact hfz _ (by omega)) h1v
  rw [← hW1] at hcp1
  go_enter Tryz.func66, Tryz.ntmps66
  go_wp2_with (simp only [hov])
  go_region_law_o (refine step_copy_runI rfl _ _ 36 36 rfl _ _ (by simp [Act.eval, Act.put]) (by simp [Act.eval, Act.put]) (hcp1 _ _ _) ?_)
  go_wp2_with (at_builtin; refine wpList_copy_runI _ rfl _ _ 36 36 rfl _ _ rfl rfl (hcp2 _ (fun _ => rfl) (fun _ => rfl) _ _) ?_)
  go_ret
  first | exact ⟨rfl, rfl⟩ | exact ⟨rfl, by rw [hW1]⟩
set_option maxHeartbeats 4000000 in
set_option maxRecDepth 100000 in
/-- There is room, and the place is the end. -/
theorem end_room (b off n c vb voff vc : Nat) (vs : List Value) (w : World) (hroom : n + 1 ≤ c) (hc63 : c ≤ 9223372036854775807)
    (hvl : vs.length = 6) (hsp : ∀ j, j < 6 → (w.cell? ⟨b, off + n * 6 + j, none⟩).isSome = true) (hfz : ∀ j, j < 6 → w.frozen? ⟨b, off + n * 6 + j, none⟩ = false)
    (hvs : ∀ j v, vs[j]? = some v → w.cell? ⟨vb, voff + j, none⟩ = some v) (h1v : ∀ v ∈ vs, v.oneCell' = true) :
    Calls Tryz.prog 66 #[.slice (some ⟨b, off, none⟩) n c, .int .i64 n, .slice (some ⟨vb, voff, none⟩) 1 vc] w fun e w' =>
      e = .returned (.slice (some ⟨b, off, none⟩) (n + 1) c) ∧ w' = w.setCells b (off + n * 6) vs := by
  have t0 := Tryz.underlying0; have a0 := Tryz.isAgg0; have z0 := Tryz.sizeOf0; have v0 := Tryz.zeroValue0; have t3 := Tryz.underlying3; have a3 := Tryz.isAgg3; have z3 := Tryz.sizeOf3; have v3 := Tryz.zeroValue3; have t4 := Tryz.underlying4; have a4 := Tryz.isAgg4; have z4 := Tryz.sizeOf4; have v4 := Tryz.zeroValue4; have t24 := und; have a24 := Tryz.isAgg36; have z24 := Tryz.sizeOf36; have v24 := Tryz.zeroValue36; have zE := sz
  have u0 := run_underlying t0; have u3 := run_underlying t3; have u4 := run_underlying t4; have u24 := run_underlying t24
  have mixed : Tryz.prog.follows .mixedOrders = true := by kernel_rfl
  obtain ⟨i0, hi0, hz0, hzs, hzb⟩ := info_parts inf
  have hsrc : Src Tryz.prog i0.size 36 (.slice (some ⟨vb, voff, none⟩) 1 vc) 1 vs w := by
    rw [hzs]
    exact Src.ofSlice w und ⟨vb, voff, none⟩ 1 vc vs (by omega) (fun j u hj => by rw [Addr.add_lit]; exact hvs j u hj) h1v
  have hrun : ∀ ty, (Builtin.append_ #[36, 36] ty #[.slice (some ⟨b, off, none⟩) n c, .slice (some ⟨vb, voff, none⟩) 1 vc]).run Tryz.prog w = .ok (.slice (some ⟨b, off, none⟩) (n + 1) c) (w.setCells b (off + n * 6) vs) := fun ty => by
    have h := run_append_room_src w 36 36 ty 44 i0 und hi0 b off n c (.slice (some ⟨vb, voff, none⟩) 1 vc) 1 vs hsrc hroom (by rw [hzs, hvl]; exact hsp) (by rw [hzs, hvl]; exact hfz)
    rw [hzs] at h
    exact h
  go_enter Tryz.func66, Tryz.ntmps66
  go_wp2_with (at_builtin; refine Lib.wpList_append_run _ rfl _ _ _ _ rfl _ _ rfl rfl _ _ (hrun _) ?_)
  go_ret
  exact ⟨rfl, rfl⟩
set_option maxHeartbeats 4000000 in
set_option maxRecDepth 100000 in
/-- There is no room, and the place is the end (nil too). -/
theorem end_grow (base : Option Addr) (n c vb voff vc : Nat) (cs vs : List Value) (w : World) (hnc : n ≤ c) (hroom : c < n + 1) (hbig : (n + 1) * 48 ≤ 140737488355328)
    (hcl : cs.length = n * 6) (hvl : vs.length = 6) (hnil : base = none → n = 0)
    (hcs : ∀ a, base = some a → ∀ j v, cs[j]? = some v → w.cell? (a.add j) = some v)
    (hvs : ∀ j v, vs[j]? = some v → w.cell? ⟨vb, voff + j, none⟩ = some v) (h1v : ∀ v ∈ vs, v.oneCell' = true) :
    Calls Tryz.prog 66 #[.slice base n c, .int .i64 n, .slice (some ⟨vb, voff, none⟩) 1 vc] w fun e w' =>
      e = .returned (.slice (some ⟨w.heap.size, 0, none⟩) (n + 1) (grownCap w (n + 1) c 44)) ∧
      w' = w.drew.alloc (.cells ((cs ++ vs).toArray ++ Builtin.zeroCells (Value.agg #[(.int .i64 0), (.int .i64 0), (.int .i64 0), (.int .i64 0), (.int .i64 0), (.int .i64 0)]).cells (grownCap w (n + 1) c 44 - (n + 1))) 44) := by
  have t0 := Tryz.underlying0; have a0 := Tryz.isAgg0; have z0 := Tryz.sizeOf0; have v0 := Tryz.zeroValue0; have t3 := Tryz.underlying3; have a3 := Tryz.isAgg3; have z3 := Tryz.sizeOf3; have v3 := Tryz.zeroValue3; have t4 := Tryz.underlying4; have a4 := Tryz.isAgg4; have z4 := Tryz.sizeOf4; have v4 := Tryz.zeroValue4; have t24 := und; have a24 := Tryz.isAgg36; have z24 := Tryz.sizeOf36; have v24 := Tryz.zeroValue36; have zE := sz
  have u0 := run_underlying t0; have u3 := run_underlying t3; have u4 := run_underlying t4; have u24 := run_underlying t24
  have mixed : Tryz.prog.follows .mixedOrders = true := by kernel_rfl
  obtain ⟨i0, hi0, hz0, hzs, hzb⟩ := info_parts inf
  have hsrc : Src Tryz.prog i0.size 36 (.slice (some ⟨vb, voff, none⟩) 1 vc) 1 vs w := by
    rw [hzs]
    exact Src.ofSlice w und ⟨vb, voff, none⟩ 1 vc vs (by omega) (fun j u hj => by rw [Addr.add_lit]; exact hvs j u hj) h1v
  have hold : (Builtin.firstCells i0.size n (.slice base n c)).run Tryz.prog w.drew = .ok cs.toArray w.drew := by
    rw [hzs]
    cases base with
    | none =>
      have h0 := hnil rfl
      subst h0
      rw [List.length_eq_zero_iff.1 (by omega : cs.length = 0)]
      exact run_firstCells_none w.drew 6 0 0 c
    | some a => exact run_firstCells_some w.drew 6 n a n c cs (by omega) (fun j v hj => hcs a rfl j v hj)
  have hrun : ∀ ty, (Builtin.append_ #[36, 36] ty #[.slice base n c, .slice (some ⟨vb, voff, none⟩) 1 vc]).run Tryz.prog w = _ := fun ty =>
    run_append_grow_src w 36 36 ty 44 i0 _ und hi0 hz0 base n c cs hold _ 1 vs hsrc hroom (by omega) (by rw [hzb]; exact growslice_fits hroom hbig)
  go_enter Tryz.func66, Tryz.ntmps66
  cases base with
  | none =>
    have h0 := hnil rfl
    subst h0
    go_wp2_with (at_builtin; refine Lib.wpList_append_run _ rfl _ _ _ _ rfl _ _ rfl rfl _ _ (hrun _) ?_)
    go_ret
    exact ⟨rfl, rfl⟩
  | some a =>
    obtain ⟨ab, ao, asp⟩ := a
    go_wp2_with (at_builtin; refine Lib.wpList_append_run _ rfl _ _ _ _ rfl _ _ rfl rfl _ _ (hrun _) ?_)
    all_goals (go_ret; exact ⟨rfl, rfl⟩)
set_option maxHeartbeats 4000000 in
set_option maxRecDepth 100000 in
/-- There is no room, and the place is not the end: a new row. -/
theorem grow (b off n c i vb voff vc : Nat) (cs vs : List Value) (w : World) (hi : i < n) (hnc : n ≤ c) (hroom : c < n + 1) (hbig : (n + 1) * 48 ≤ 140737488355328)
    (hcl : cs.length = n * 6) (hvl : vs.length = 6)
    (hcs : ∀ j v, cs[j]? = some v → w.cell? ⟨b, off + j, none⟩ = some v)
    (hvs : ∀ j v, vs[j]? = some v → w.cell? ⟨vb, voff + j, none⟩ = some v) (h1c : ∀ v ∈ cs, v.oneCell' = true) (h1v : ∀ v ∈ vs, v.oneCell' = true) :
    Calls Tryz.prog 66 #[.slice (some ⟨b, off, none⟩) n c, .int .i64 i, .slice (some ⟨vb, voff, none⟩) 1 vc] w fun e w' =>
      e = .returned (.slice (some ⟨w.heap.size, 0, none⟩) (n + 1) (grownCap w (n + 1) c 44)) ∧
      w' = (((w.alloc (.cells ((cs.take (i * 6)).toArray ++ Builtin.zeroCells (Value.agg #[(.int .i64 0), (.int .i64 0), (.int .i64 0), (.int .i64 0), (.int .i64 0), (.int .i64 0)]).cells (n + 1 - i) ++ Builtin.zeroCells (Value.agg #[(.int .i64 0), (.int .i64 0), (.int .i64 0), (.int .i64 0), (.int .i64 0), (.int .i64 0)]).cells (grownCap w (n + 1) c 44 - (n + 1))) 44)).drew.setCells w.heap.size (i * 6) vs).drew).setCells w.heap.size ((i + 1) * 6) (cs.drop (i * 6)) := by
  have t0 := Tryz.underlying0; have a0 := Tryz.isAgg0; have z0 := Tryz.sizeOf0; have v0 := Tryz.zeroValue0; have t3 := Tryz.underlying3; have a3 := Tryz.isAgg3; have z3 := Tryz.sizeOf3; have v3 := Tryz.zeroValue3; have t4 := Tryz.underlying4; have a4 := Tryz.isAgg4; have z4 := Tryz.sizeOf4; have v4 := Tryz.zeroValue4; have t24 := und; have a24 := Tryz.isAgg36; have z24 := Tryz.sizeOf36; have v24 := Tryz.zeroValue36; have zE := sz
  have u0 := run_underlying t0; have u3 := run_underlying t3; have u4 := run_underlying t4; have u24 := run_underlying t24
  have mixed : Tryz.prog.follows .mixedOrders = true := by kernel_rfl
  obtain ⟨i0, hi0, hz0, hzs, hzb⟩ := info_parts inf
  have hz2 : ¬ ((i : Int) = (n : Int)) := by omega
  have hz3 : (c : Int) < (n : Int) + 1 := by omega
  have hbw : b < w.heap.size := block_lt_of_cell (hcs 0 _ (List.getElem?_eq_getElem (by omega)))
  have hvw : vb < w.heap.size := block_lt_of_cell (hvs 0 _ (List.getElem?_eq_getElem (by omega)))
  have hkk : (n : Int) + 1 - (i : Int) = ((n + 1 - i : Nat) : Int) := by omega
  have hik : i + (n + 1 - i) = n + 1 := by omega
  have hold : (Builtin.firstCells i0.size i (.slice (some ⟨b, off, none⟩) i c)).run Tryz.prog w.drew = .ok (cs.take (i * 6)).toArray w.drew := by
    rw [hzs]
    exact run_firstCells_some w.drew 6 i ⟨b, off, none⟩ i c (cs.take (i * 6)) (by rw [List.length_take]; omega) (fun j v hj => by
      rw [Addr.add_lit]
      rw [List.getElem?_take] at hj
      split at hj
      · exact hcs j v hj
      · cases hj)
  have hrz : ∀ ty, (Builtin.append_ #[36, 3] ty #[.slice (some ⟨b, off, none⟩) i c, .int .i64 ((n : Int) + 1 - (i : Int))]).run Tryz.prog w =
      .ok (.slice (some ⟨w.heap.size, 0, none⟩) (n + 1) (grownCap w (n + 1) c 44)) (w.drew.alloc (.cells ((cs.take (i * 6)).toArray ++ Builtin.zeroCells (Value.agg #[(.int .i64 0), (.int .i64 0), (.int .i64 0), (.int .i64 0), (.int .i64 0), (.int .i64 0)]).cells (n + 1 - i) ++ Builtin.zeroCells (Value.agg #[(.int .i64 0), (.int .i64 0), (.int .i64 0), (.int .i64 0), (.int .i64 0), (.int .i64 0)]).cells (grownCap w (n + 1) c 44 - (n + 1))) 44)) := fun ty => by
    have h := Lib.run_append_grow_zeros w 36 3 ty 44 i0 _ .i64 .i64 und t3 hi0 hz0 (some ⟨b, off, none⟩) i c (cs.take (i * 6)) hold (n + 1 - i) (by omega) (by omega) (by omega) (by omega) (by rw [hzb]; omega) (by rw [hzb, hik]; exact growslice_fits hroom hbig)
    rw [hik] at h
    rw [hkk]
    exact h
  obtain ⟨G, hG⟩ : ∃ G, G = grownCap w (n + 1) c 44 := ⟨_, rfl⟩
  obtain ⟨ROW, hROW⟩ : ∃ ROW : Array Value, ROW = (cs.take (i * 6)).toArray ++ Builtin.zeroCells (Value.agg #[(.int .i64 0), (.int .i64 0), (.int .i64 0), (.int .i64 0), (.int .i64 0), (.int .i64 0)]).cells (n + 1 - i) ++ Builtin.zeroCells (Value.agg #[(.int .i64 0), (.int .i64 0), (.int .i64 0), (.int .i64 0), (.int .i64 0), (.int .i64 0)]).cells (G - (n + 1)) := ⟨_, rfl⟩
  rw [← hG] at hrz ⊢
  rw [← hROW] at hrz ⊢
  have hRl : (n + 1) * 6 ≤ ROW.size := by
    have hzc : ∀ m, (Builtin.zeroCells (Value.agg #[(.int .i64 0), (.int .i64 0), (.int .i64 0), (.int .i64 0), (.int .i64 0), (.int .i64 0)]).cells m).size = m * 6 := fun m => by simp [Builtin.zeroCells, Value.cells]
    rw [hROW, Array.size_append, Array.size_append, hzc, hzc]
    simp only [List.size_toArray, List.length_take]
    omega
  obtain ⟨W1, hW1⟩ : ∃ W1, W1 = w.drew.alloc (.cells ROW 44) := ⟨_, rfl⟩
  rw [← hW1] at hrz
  have hN : ∀ j, j < (n + 1) * 6 → (W1.cell? ⟨w.heap.size, j, none⟩).isSome = true := fun j hj => by
    rw [hW1, World.cell?_alloc_at (w := w.drew) ROW _ w.heap.size j rfl, Array.getElem?_eq_getElem (by omega)]; rfl
  have hNf : ∀ j, W1.frozen? ⟨w.heap.size, j, none⟩ = false := fun j => by rw [hW1]; exact World.frozen?_alloc_at (w := w.drew) ROW _ w.heap.size j rfl
  have hOb : ∀ j v, w.cell? ⟨b, j, none⟩ = some v → W1.cell? ⟨b, j, none⟩ = some v := fun j v h => by rw [hW1, World.cell?_alloc_past (w := w.drew) _ b j hbw]; exact h
  have hOv : ∀ j v, w.cell? ⟨vb, j, none⟩ = some v → W1.cell? ⟨vb, j, none⟩ = some v := fun j v h => by rw [hW1, World.cell?_alloc_past (w := w.drew) _ vb j hvw]; exact h
  have hcpA : ∀ (W : World), (∀ x, W.cell? x = W1.cell? x) → (∀ x, W.frozen? x = W1.frozen? x) → ∀ ty dc, (Builtin.copy_ #[36, 36] ty #[.slice (some ⟨w.heap.size, i * 6, none⟩) (n + 1 - i) dc, .slice (some ⟨vb, voff, none⟩) 1 vc]).run Tryz.prog W = .ok (goInt (1 : Nat)) (W.setCells w.heap.size (i * 6) vs) := fun W hWc hWf ty dc =>
    copy_cells W _ _ ty 44 6 w.heap.size (i * 6) (n + 1 - i) dc ⟨vb, voff, none⟩ 1 vc 1 vs und isz (by simp only [Nat.min_def]; split <;> omega) (by omega)
      (fun j v hj => by rw [Addr.add_lit, hWc]; exact hOv _ v (hvs j v hj))
      (fun j hj => by rw [hWc]; exact hN _ (by omega)) (fun j hj => by rw [hWf]; exact hNf _) h1v
  have hGn : n + 1 ≤ G := by rw [hG]; exact grownCap_ge w _ _ _
  have hG63 : G ≤ 9223372036854775807 := by
    have := grownCap_le_maxLen w (n + 1) c 44 (by unfold maxLen; omega)
    rw [← hG] at this
    unfold maxLen at this
    omega
  have hGi : ¬ (G = i) := by omega
  have hGim : ¬ (G = i + 1) := by omega
  have hci : ¬ (c = i) := by omega
  have hbN : b ≠ w.heap.size := by omega
  have hdl : (cs.drop (i * 6)).length = (n - i) * 6 := by rw [List.length_drop, hcl]; omega
  have hcpB : ∀ (W : World), (∀ x, W.cell? x = (W1.setCells w.heap.size (i * 6) vs).cell? x) → (∀ x, W.frozen? x = (W1.setCells w.heap.size (i * 6) vs).frozen? x) → ∀ ty dc sc, (Builtin.copy_ #[36, 36] ty #[.slice (some ⟨w.heap.size, (i + 1) * 6, none⟩) (n - i) dc, .slice (some ⟨b, off + i * 6, none⟩) (n - i) sc]).run Tryz.prog W = .ok (goInt (n - i : Nat)) (W.setCells w.heap.size ((i + 1) * 6) (cs.drop (i * 6))) := fun W hWc hWf ty dc sc =>
    copy_cells W _ _ ty 44 6 w.heap.size ((i + 1) * 6) (n - i) dc ⟨b, off + i * 6, none⟩ (n - i) sc (n - i) (cs.drop (i * 6)) und isz (by simp only [Nat.min_def]; split <;> omega) hdl
      (fun j v hj => by
        rw [Addr.add_lit, hWc, World.cell?_setCells_out _ _ _ _ _ (fun h _ => absurd h hbN), Nat.add_assoc]
        exact hOb _ v (hcs (i * 6 + j) v (by rwa [List.getElem?_drop] at hj)))
      (fun j hj => by rw [hWc]; exact isSome_setCells _ _ _ _ (fun t ht => hN _ (by omega)) _ (hN _ (by omega)))
      (fun j hj => by rw [hWf, World.frozen?_setCells]; exact hNf _) (fun v hv => h1c v (List.mem_of_mem_drop hv))
  subst hW1
  have hE1 : ∀ x, ((w.alloc (.cells ROW 44)).drew).cell? x = (w.drew.alloc (.cells ROW 44)).cell? x := fun x => rfl
  have hE2 : ∀ x, ((w.alloc (.cells ROW 44)).drew).frozen? x = (w.drew.alloc (.cells ROW 44)).frozen? x := fun x => rfl
  have hF1 : ∀ x, (((w.alloc (.cells ROW 44)).drew.setCells w.heap.size (i * 6) vs).drew).cell? x = ((w.drew.alloc (.cells ROW 44)).setCells w.heap.size (i * 6) vs).cell? x := fun x => rfl
  have hF2 : ∀ x, (((w.alloc (.cells ROW 44)).drew.setCells w.heap.size (i * 6) vs).drew).frozen? x = ((w.drew.alloc (.cells ROW 44)).setCells w.heap.size (i * 6) vs).frozen? x := fun x => rfl
  have hw1 : IntKind.i64.wrap ((i : Int) + 1) = (i : Int) + 1 := by rw [IntKind.wrap_i64]; omega
  have hb1 : (0 : Int) ≤ (i : Int) + 1 := by omega
  have hin : i ≤ n := by omega
  have htn : ((i : Int) + 1).toNat = i + 1 := by omega
  have hb3 : (i : Int) ≤ (n : Int) := by omega
  clear hkk hik hold hROW hG hRl
  go_enter Tryz.func66, Tryz.ntmps66
  go_wp2_with (first
    | (at_builtin; refine Lib.wpList_append_run _ rfl _ _ _ _ rfl _ _ rfl rfl _ _ (hrz _) ?_)
    | (at_builtin; refine wpList_copy_runI _ rfl _ _ 36 36 rfl _ _ rfl rfl (hcpA _ hE1 hE2 _ _) ?_)
    | (at_builtin; refine wpList_copy_runI _ rfl _ _ 36 36 rfl _ _ rfl rfl (hcpB _ (fun _ => rfl) (fun _ => rfl) _ _ _) ?_))
  go_region_law_o (refine step_copy_runI rfl _ _ 36 36 rfl (.slice (some ⟨w.heap.size, (i + 1) * 6, none⟩) (n - i) (G - (i + 1))) (.slice (some ⟨b, off + i * 6, none⟩) (n - i) (c - i)) (by simp [Act.eval, Act.put]) (by simp [Act.eval, Act.put]) (hcpB _ hF1 hF2 3 (G - (i + 1)) (c - i)) ?_)
  go_wp2
  go_ret
  exact ⟨rfl, rfl⟩
theorem three {A B C : List Value} {j : Nat} {v : Value} (h : (A ++ B ++ C)[j]? = some v) : (j < A.length ∧ A[j]? = some v) ∨ (∃ p, j = A.length + p ∧ B[p]? = some v) ∨ (∃ p, j = A.length + B.length + p ∧ C[p]? = some v) := by
  by_cases h1 : j < A.length
  · rw [List.append_assoc, List.getElem?_append_left h1] at h
    exact .inl ⟨h1, h⟩
  · by_cases h2 : j < A.length + B.length
    · rw [List.append_assoc, List.getElem?_append_right (by omega), List.getElem?_append_left (by omega)] at h
      exact .inr (.inl ⟨j - A.length, by omega, h⟩)
    · rw [List.getElem?_append_right (by rw [List.length_append]; omega), List.length_append] at h
      exact .inr (.inr ⟨j - (A.length + B.length), by omega, h⟩)
theorem lt_of {A : List Value} {p : Nat} {v : Value} (h : A[p]? = some v) : p < A.length := (List.getElem?_eq_some_iff.1 h).1
open Go.Proofs.YtpdnnndedejlhaaGreatV in
/-- All roads in one. -/
theorem put (base : Option Addr) (n c i vb voff vc : Nat) (cs vs : List Value) (w : World) (hi : i ≤ n) (hnc : n ≤ c) (hc63 : c ≤ 9223372036854775807) (hN : n ≤ 1099511627776) (hcl : cs.length = n * 6) (hvl : vs.length = 6) (h1c : ∀ v ∈ cs, v.oneCell' = true) (h1v : ∀ v ∈ vs, v.oneCell' = true)
    (hb : (base = none ∧ n = 0 ∧ c = 0) ∨ ∃ b off cur, base = some ⟨b, off, none⟩ ∧ w.heap[b]? = some (.cells cur 44 (0, 0)) ∧ off + c * 6 ≤ cur.size ∧ (∀ (j : Nat) (v : Value), cs[j]? = some v → cur[off + j]? = some v) ∧ vb ≠ b)
    (hv : ∃ cuv, w.heap[vb]? = some (.cells cuv 44 (0, 0)) ∧ ∀ (j : Nat) (v : Value), vs[j]? = some v → cuv[voff + j]? = some v) :
    Calls Tryz.prog 66 #[.slice base n c, .int .i64 i, .slice (some ⟨vb, voff, none⟩) 1 vc] w fun e' w' => ∃ g' o' cap' cur', e' = .returned (.slice (some ⟨g', o', none⟩) (n + 1) cap') ∧ PutW w w' g' 44 cur' ∧ (g' = w.heap.size ∨ ∃ off, base = some ⟨g', off, none⟩) ∧ n + 1 ≤ cap' ∧ cap' ≤ 9223372036854775807 ∧ o' + cap' * 6 ≤ cur'.size ∧
      ∀ (j : Nat) (v : Value), (cs.take (i * 6) ++ vs ++ cs.drop (i * 6))[j]? = some v → cur'[o' + j]? = some v := by
  obtain ⟨cuv, hvh, hvx⟩ := hv
  have hvs : ∀ j v, vs[j]? = some v → w.cell? ⟨vb, voff + j, none⟩ = some v := fun j v hj => by simp [World.cell?, hvh, hvx j v hj]
  have hgk : grownCap w (n + 1) c 44 ≤ 9223372036854775807 := by
    have := grownCap_le_maxLen w (n + 1) c 44 (by unfold maxLen; omega)
    unfold maxLen at this
    omega
  have hge := grownCap_ge w (n + 1) c 44
  have hzc : ∀ m, (Builtin.zeroCells (Value.agg #[(.int .i64 0), (.int .i64 0), (.int .i64 0), (.int .i64 0), (.int .i64 0), (.int .i64 0)]).cells m).size = m * 6 := fun m => by simp [Builtin.zeroCells, Value.cells]
  have htl : (cs.take (i * 6)).length = i * 6 := by rw [List.length_take, hcl]; omega
  have hdl : (cs.drop (i * 6)).length = (n - i) * 6 := by rw [List.length_drop, hcl]; omega
  -- the end, no room
  have hend : ∀ base : Option Addr, c < n + 1 → i = n → (base = none → n = 0) → (∀ a, base = some a → ∀ j v, cs[j]? = some v → w.cell? (a.add j) = some v) → Calls Tryz.prog 66 #[.slice base n c, .int .i64 i, .slice (some ⟨vb, voff, none⟩) 1 vc] w fun e' w' => ∃ g' o' cap' cur', e' = .returned (.slice (some ⟨g', o', none⟩) (n + 1) cap') ∧ PutW w w' g' 44 cur' ∧ (g' = w.heap.size ∨ ∃ off, base = some ⟨g', off, none⟩) ∧ n + 1 ≤ cap' ∧ cap' ≤ 9223372036854775807 ∧ o' + cap' * 6 ≤ cur'.size ∧
      ∀ (j : Nat) (v : Value), (cs.take (i * 6) ++ vs ++ cs.drop (i * 6))[j]? = some v → cur'[o' + j]? = some v := by
    rintro base hr rfl hnil hcs
    refine (end_grow base i c vb voff vc cs vs w hnc hr (by omega) hcl hvl hnil hcs hvs h1v).mono ?_
    rintro e' w' ⟨rfl, rfl⟩
    refine ⟨_, _, _, _, rfl, ⟨heap_alloc_self (w := w.drew), fun k hk _ => heap_alloc (w := w.drew) hk, Nat.le_of_lt (heap_lt (heap_alloc_self (w := w.drew))), rfl, rfl, rfl⟩, .inl rfl, hge, hgk, ?_, fun j v hj => ?_⟩
    · rw [Array.size_append, hzc, List.size_toArray, List.length_append, hcl, hvl]; omega
    · have hj' : (cs ++ vs)[j]? = some v := by
        rw [List.take_of_length_le (by omega), List.drop_eq_nil_of_le (by omega), List.append_nil] at hj
        exact hj
      rw [Nat.zero_add, Array.getElem?_append_left (by rw [List.size_toArray]; exact lt_of hj'), List.getElem?_toArray]
      exact hj'
  rcases hb with ⟨rfl, rfl, rfl⟩ | ⟨b, off, cur, rfl, hh, hsz, hcx, hvb⟩
  · exact hend none (by omega) (by omega) (fun _ => rfl) (fun a h => by cases h)
  have hcs : ∀ j v, cs[j]? = some v → w.cell? ⟨b, off + j, none⟩ = some v := fun j v hj => by simp [World.cell?, hh, hcx j v hj]
  have hcell : ∀ j, j < c * 6 → (w.cell? ⟨b, off + j, none⟩).isSome = true := fun j hj => by
    have : off + j < cur.size := by omega
    simp [World.cell?, hh, this]
  have hfz : ∀ j, w.frozen? ⟨b, j, none⟩ = false := fun j => by simp [World.frozen?, hh]
  have hfv : ∀ j, w.frozen? ⟨vb, j, none⟩ = false := fun j => by simp [World.frozen?, hvh]
  by_cases hroom : n + 1 ≤ c
  · by_cases hin : i < n
    · refine (shift b off n c i vb voff vc cs vs w hin hroom hc63 hvb hcl hvl hcs (fun j hj => hcell j (by omega)) (fun j _ => hfz _) hvs h1c h1v 44 44 cuv.size cur.size (by simp [World.shape?, hvh]) (by simp [World.shape?, hh]) (by omega) (hfv _) (hfv _)).mono ?_
      rintro e' w' ⟨rfl, rfl⟩
      obtain ⟨b1, b2, b3, b4, b5, b6⟩ := setCells_heap (cs.drop (i * 6)) (off + (i + 1) * 6) w.drew cur hh
      obtain ⟨c1, c2, c3, c4, c5, c6⟩ := setCells_heap vs (off + i * 6) _ _ b1
      refine ⟨b, off, c, _, rfl, ⟨c1, fun k hk hne => (c2 k hne).trans (b2 k hne), by rw [c6, b6]; exact Nat.le_refl _, c3.trans b3, c4.trans b4, c5.trans b5⟩, .inr ⟨off, rfl⟩, hroom, hc63, by rw [wr_size, wr_size]; exact hsz, fun j v hj => ?_⟩
      rcases three hj with ⟨h1, h2⟩ | ⟨p, rfl, h2⟩ | ⟨p, rfl, h2⟩
      · rw [htl] at h1
        rw [List.getElem?_take_of_lt h1] at h2
        rw [wr_out _ _ _ _ (by left; omega), wr_out _ _ _ _ (by left; omega)]
        exact hcx j v h2
      · rw [htl, ← Nat.add_assoc]
        exact wr_in _ _ _ _ _ h2 (by rw [wr_size]; omega)
      · have := lt_of h2
        rw [htl, hvl, show off + (i * 6 + 6 + p) = off + (i + 1) * 6 + p by omega, wr_out _ _ _ _ (by right; omega)]
        exact wr_in _ _ _ _ _ h2 (by omega)
    · obtain rfl : i = n := by omega
      refine (end_room b off i c vb voff vc vs w hroom hc63 hvl (fun j hj => by rw [Nat.add_assoc]; exact hcell _ (by omega)) (fun j _ => hfz _) hvs h1v).mono ?_
      rintro e' w' ⟨rfl, rfl⟩
      obtain ⟨c1, c2, c3, c4, c5, c6⟩ := setCells_heap vs (off + i * 6) w cur hh
      refine ⟨b, off, c, _, rfl, ⟨c1, fun k hk hne => c2 k hne, by rw [c6]; exact Nat.le_refl _, c3, c4, c5⟩, .inr ⟨off, rfl⟩, hroom, hc63, by rw [wr_size]; exact hsz, fun j v hj => ?_⟩
      rcases three hj with ⟨h1, h2⟩ | ⟨p, rfl, h2⟩ | ⟨p, rfl, h2⟩
      · rw [htl] at h1
        rw [List.getElem?_take_of_lt h1] at h2
        rw [wr_out _ _ _ _ (by left; omega)]
        exact hcx j v h2
      · rw [htl, ← Nat.add_assoc]
        exact wr_in _ _ _ _ _ h2 (by omega)
      · have := lt_of h2
        omega
  · by_cases hin : i < n
    · refine (grow b off n c i vb voff vc cs vs w hin hnc (by omega) (by omega) hcl hvl hcs hvs h1c h1v).mono ?_
      rintro e' w' ⟨rfl, rfl⟩
      generalize hG : grownCap w (n + 1) c 44 = G at hge hgk ⊢
      obtain ⟨ROW, hROW⟩ : ∃ ROW : Array Value, ROW = (cs.take (i * 6)).toArray ++ Builtin.zeroCells (Value.agg #[(.int .i64 0), (.int .i64 0), (.int .i64 0), (.int .i64 0), (.int .i64 0), (.int .i64 0)]).cells (n + 1 - i) ++ Builtin.zeroCells (Value.agg #[(.int .i64 0), (.int .i64 0), (.int .i64 0), (.int .i64 0), (.int .i64 0), (.int .i64 0)]).cells (G - (n + 1)) := ⟨_, rfl⟩
      rw [← hROW]
      have hRs : ROW.size = G * 6 := by rw [hROW, Array.size_append, Array.size_append, hzc, hzc, List.size_toArray, htl]; omega
      have hR0 : ∀ j v, (cs.take (i * 6))[j]? = some v → ROW[j]? = some v := fun j v hj => by
        have hlt := lt_of hj
        rw [hROW, Array.getElem?_append_left (by rw [Array.size_append, List.size_toArray]; omega), Array.getElem?_append_left (by rw [List.size_toArray]; exact hlt), List.getElem?_toArray]
        exact hj
      have hself : ((w.alloc (.cells ROW 44)).drew).heap[w.heap.size]? = some (.cells ROW 44 (0, 0)) := heap_alloc_self (w := w)
      obtain ⟨b1, b2, b3, b4, b5, b6⟩ := setCells_heap vs (i * 6) _ _ hself
      obtain ⟨c1, c2, c3, c4, c5, c6⟩ := setCells_heap (cs.drop (i * 6)) ((i + 1) * 6) (((w.alloc (.cells ROW 44)).drew.setCells w.heap.size (i * 6) vs).drew) _ b1
      have hlt := heap_lt c1
      refine ⟨_, _, _, _, rfl, ⟨c1, fun k hk hne => (c2 k hne).trans ((b2 k hne).trans (heap_alloc (w := w) hk)), Nat.le_of_lt hlt, c3.trans b3, c4.trans b4, c5.trans b5⟩, .inl rfl, hge, hgk, by rw [wr_size, wr_size, hRs]; omega, fun j v hj => ?_⟩
      rw [Nat.zero_add]
      rcases three hj with ⟨h1, h2⟩ | ⟨p, rfl, h2⟩ | ⟨p, rfl, h2⟩
      · rw [htl] at h1
        rw [wr_out _ _ _ _ (by left; omega), wr_out _ _ _ _ (by left; omega)]
        exact hR0 j v h2
      · have := lt_of h2
        rw [htl, wr_out _ _ _ _ (by left; omega)]
        exact wr_in _ _ _ _ _ h2 (by rw [hRs]; omega)
      · rw [htl, hvl, show i * 6 + 6 + p = (i + 1) * 6 + p by omega]
        exact wr_in _ _ _ _ _ h2 (by rw [wr_size, hRs]; omega)
    · exact hend (some ⟨b, off, none⟩) (by omega) (by omega) (fun h => by cases h) (fun a h j v hj => by cases h; rw [Addr.add_lit]; exact hcs j v hj)
end Go.Proofs.YtpdnnndedejlhaaGreat.I66
