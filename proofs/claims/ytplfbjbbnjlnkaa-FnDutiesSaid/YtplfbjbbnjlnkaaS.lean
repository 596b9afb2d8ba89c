-- Sort and Compact at []int: laid by the shelf's tools, in plain words; and their way to the print's rows.
import Derived.Shelf.Sort.Plain
import Derived.Shelf.Slices.Turned
import Derived.Ground.Names2Prog
import Derived.Shelf.Slices.CompactI
import Derived.Shelf.Slices.In.SortNone
import Derived.Test.YtplfbjbbnjlnkaaProg
import Derived.Sort.OwnSortedInts
import Derived.Lib.RowBridge
import Derived.Test.YtplfbjbbnjlnkaaWMore
import Derived.Test.YtplfbjbbnjlnkaaWKept
namespace Go.Proofs
open Go.Shelf
def Try.lays189_ren : Go.Shelf.Ren := ⟨fun | 189 => 142 | 125 => 182 | 257 => 181 | 128 => 215 | 129 => 216 | 294 => 206 | 295 => 207 | 296 => 208 | 297 => 209 | 298 => 210 | 299 => 211 | 216 => 212 | 300 => 213 | 301 => 214 | 328 => 225 | 329 => 226 | 330 => 227 | 331 => 228 | 332 => 229 | 215 => 230 | 343 => 243 | n => n, fun | 28 => 46 | 3 => 3 | 46 => 200 | 0 => 0 | 51 => 235 | 53 => 237 | 4 => 4 | 183 => 229 | 182 => 228 | 131 => 232 | 5 => 5 | 9 => 9 | 218 => 250 | 222 => 254 | 228 => 263 | 229 => 264 | n => n, fun | n => n⟩
theorem Try.lays189 : Go.Proofs.Lays.n189 Try.prog Try.lays189_ren := {
  mixed := by kernel_rfl
  f125 := Try.func182.trans (congrArg some (by kernel_rfl))
  f128 := Try.func215.trans (congrArg some (by kernel_rfl))
  f129 := Try.func216.trans (congrArg some (by kernel_rfl))
  f189 := Try.func142.trans (congrArg some (by kernel_rfl))
  f215 := Try.func230.trans (congrArg some (by kernel_rfl))
  f216 := Try.func212.trans (congrArg some (by kernel_rfl))
  f257 := Try.func181.trans (congrArg some (by kernel_rfl))
  f294 := Try.func206.trans (congrArg some (by kernel_rfl))
  f295 := Try.func207.trans (congrArg some (by kernel_rfl))
  f296 := Try.func208.trans (congrArg some (by kernel_rfl))
  f297 := Try.func209.trans (congrArg some (by kernel_rfl))
  f298 := Try.func210.trans (congrArg some (by kernel_rfl))
  f299 := Try.func211.trans (congrArg some (by kernel_rfl))
  f300 := Try.func213.trans (congrArg some (by kernel_rfl))
  f301 := Try.func214.trans (congrArg some (by kernel_rfl))
  f328 := Try.func225.trans (congrArg some (by kernel_rfl))
  f329 := Try.func226.trans (congrArg some (by kernel_rfl))
  f330 := Try.func227.trans (congrArg some (by kernel_rfl))
  f331 := Try.func228.trans (congrArg some (by kernel_rfl))
  f332 := Try.func229.trans (congrArg some (by kernel_rfl))
  f343 := Try.func243.trans (congrArg some (by kernel_rfl))
  t0 := Try.underlying0
  a0 := Try.isAgg0
  z0 := Try.sizeOf0
  v0 := Try.zeroValue0
  t3 := Try.underlying3
  a3 := Try.isAgg3
  z3 := Try.sizeOf3
  v3 := Try.zeroValue3
  t4 := Try.underlying4
  a4 := Try.isAgg4
  z4 := Try.sizeOf4
  v4 := Try.zeroValue4
  t5 := Try.underlying5
  a5 := Try.isAgg5
  z5 := Try.sizeOf5
  v5 := Try.zeroValue5
  t9 := Try.underlying9
  a9 := Try.isAgg9
  z9 := Try.sizeOf9
  v9 := Try.zeroValue9
  t28 := Try.underlying46
  a28 := Try.isAgg46
  z28 := Try.sizeOf46
  v28 := Try.zeroValue46
  t46 := Try.underlying200
  a46 := Try.isAgg200
  z46 := Try.sizeOf200
  v46 := Try.zeroValue200
  t51 := Try.underlying235
  a51 := Try.isAgg235
  z51 := Try.sizeOf235
  v51 := Try.zeroValue235
  t53 := Try.underlying237
  a53 := Try.isAgg237
  z53 := Try.sizeOf237
  v53 := Try.zeroValue237
  t131 := Try.underlying232
  a131 := Try.isAgg232
  z131 := Try.sizeOf232
  v131 := Try.zeroValue232
  t182 := Try.underlying228
  a182 := Try.isAgg228
  z182 := Try.sizeOf228
  v182 := Try.zeroValue228
  t183 := Try.underlying229
  a183 := Try.isAgg229
  z183 := Try.sizeOf229
  v183 := Try.zeroValue229
  t218 := Try.underlying250
  a218 := Try.isAgg250
  z218 := Try.sizeOf250
  v218 := Try.zeroValue250
  t222 := Try.underlying254
  a222 := Try.isAgg254
  z222 := Try.sizeOf254
  v222 := Try.zeroValue254
  t228 := Try.underlying263
  a228 := Try.isAgg263
  z228 := Try.sizeOf263
  v228 := Try.zeroValue263
  t229 := Try.underlying264
  a229 := Try.isAgg264
  z229 := Try.sizeOf264
  v229 := Try.zeroValue264 }
open Go.Sort Go.RowKit in
theorem Try.slices_Sort_int (blk off cap : Nat) (zs : List Int) (w : World) (hH : Holds (Value.int .i64) w blk off zs.toArray) (hblk : blk < w.heap.size) (hsz : zs.length < 4611686018427387904) :
    Calls Try.prog 142 #[.slice (some ⟨blk, off, none⟩) zs.length cap] w fun e w' =>
      e = .returned (.tuple #[]) ∧ ∃ n os, w' = grow (putRow (Value.int .i64) (Sort.ahead w n) blk off (zs.mergeSort fun x y => decide (x ≤ y)).toArray) os := Any.slices_Sort_int Try.lays189 blk off cap zs w hH hblk hsz
def Try.laysNm220_ren : Go.Shelf.Ren := ⟨fun | 20 => 143 | n => n, fun | 22 => 46 | 3 => 3 | 4 => 4 | 0 => 0 | n => n, fun | n => n⟩
theorem Try.laysNm220 : Go.Proofs.Lays2.n20 Try.prog Try.laysNm220_ren := {
  mixed := by kernel_rfl
  f20 := Try.func143.trans (congrArg some (by kernel_rfl))
  t0 := Try.underlying0
  a0 := Try.isAgg0
  z0 := Try.sizeOf0
  v0 := Try.zeroValue0
  t3 := Try.underlying3
  a3 := Try.isAgg3
  z3 := Try.sizeOf3
  v3 := Try.zeroValue3
  t4 := Try.underlying4
  a4 := Try.isAgg4
  z4 := Try.sizeOf4
  v4 := Try.zeroValue4
  t22 := Try.underlying46
  a22 := Try.isAgg46
  z22 := Try.sizeOf46
  v22 := Try.zeroValue46
  i3 := by kernel_rfl }
open Go.RowKit Go.Lib Go.Sort in
/-- slices.Compact at []int: "Compact replaces consecutive runs of equal elements with a single copy. This is like the uniq command found on Unix. Compact modifies the contents of the slice s and returns the modified slice, which may have a smaller length. Compact zeroes the elements between the new length and the original length. The result preserves the nilness of s.": IT RETURNS THE SLICE CUT TO 'Lib.compact zs'; ITS CELLS HOLD 'Lib.compact zs', THEN ZERO VALUES up to the old length; all else is as it was, but for the count of draws. IN THE WORDS OF slices.Sort's CONTRACT ('Holds', 'putRow'): so the everyday 'slices.Sort(xs); xs = slices.Compact(xs)' goes from the one contract to the other. It asks 'zs.length ≤ cap' (every slice's: the reslicing 's[:k]' looks at it). Length 0, nil: '.._empty'. (LAID: no walk: one application.) -/
theorem Try.slices_Compact_int (blk off cap : Nat) (zs : List Int) (w : World) (hH : Holds (Value.int .i64) w blk off zs.toArray) (hsz : zs.length ≤ 9223372036854775807) (hcap : zs.length ≤ cap) :
    Calls Try.prog 143 #[.slice (some ⟨blk, off, none⟩) zs.length cap] w fun e w' => e = .returned (.slice (some ⟨blk, off, none⟩) (Lib.compact zs).length cap) ∧ ∃ q, w' = putRow (Value.int .i64) (Sort.ahead w q) blk off (Lib.compact zs ++ List.replicate (zs.length - (Lib.compact zs).length) 0).toArray := Any.slices_Compact_int Try.laysNm220 blk off cap zs w hH hsz hcap
open Go.RowKit Go.Lib Go.Sort in
/-- The same at a slice of length 0, a nil one too: it comes back as it is. (LAID: no walk: one application.) -/
theorem Try.slices_Compact_int_empty (a : Option Addr) (cap : Nat) (w : World) :
    Calls Try.prog 143 #[.slice a 0 cap] w fun e w' => e = .returned (.slice a 0 cap) ∧ w' = w := Any.slices_Compact_int_empty Try.laysNm220 a cap w
open Go.RowKit Go.Sort in
/-- .. and plain. (LAID: no walk: one application.) -/
theorem Try.slices_Sort_int_none (p : Option Addr) (cap : Nat) (w : World) :
    Calls Try.prog 142 #[.slice p 0 cap] w fun e w' => e = .returned (.tuple #[]) ∧ w' = w := Any.slices_Sort_int_none Try.lays189 p cap w
end Go.Proofs
/-! What leads from the shelf's contracts on rows of whole numbers to the print's rows. -/
namespace Go.Proofs.YtplfbjbbnjlnkaaS
open Go.RowKit Go.Proofs.YtplfbjbbnjlnkaaW.PrintWords Go.Proofs.YtplfbjbbnjlnkaaW.PrintLast Go.Proofs.YtplfbjbbnjlnkaaW.PrintMore
theorem ints_row {w : World} {base : Nat} {ok : Nat → Prop} {v : Value} {xs : List Int} (h : Kd.R (Kd.int .i64) 3 w base ok v xs) : (∀ k, v.ownBlock = some k → ok k) ∧ w.ownsRow base 3 1 v xs.length (xs.map (Value.int .i64)) := by
  obtain ⟨h0, inner, ho, hr⟩ := h
  have : inner = xs.map (Value.int .i64) := by
    apply List.ext_getElem?
    intro j
    have hl : inner.length = xs.length * 1 := hr.1
    rcases Nat.lt_or_ge j xs.length with hj | hj
    · have := hr.2 j xs[j] (by rw [List.getElem?_eq_getElem hj])
      change (inner.drop (j * 1)).take 1 = [Value.int .i64 xs[j]] at this
      rw [Nat.mul_one] at this
      have h2 : ((inner.drop j).take 1)[0]? = some (Value.int .i64 xs[j]) := by rw [this]; rfl
      rw [List.getElem?_take_of_lt (by omega), List.getElem?_drop] at h2
      simpa [hj] using h2
    · rw [List.getElem?_eq_none (by omega), List.getElem?_eq_none (by simp; omega)]
  subst this
  exact ⟨h0, ho⟩
theorem row_ints {w : World} {base : Nat} {ok : Nat → Prop} {v : Value} {xs : List Int} (h0 : ∀ k, v.ownBlock = some k → ok k) (h : w.ownsRow base 3 1 v xs.length (xs.map (Value.int .i64))) : Kd.R (Kd.int .i64) 3 w base ok v xs := by
  refine ⟨h0, _, h, (by change (xs.map (Value.int .i64)).length = xs.length * 1; simp), fun j p hj => ?_⟩
  change ((xs.map (Value.int .i64)).drop (j * 1)).take 1 = [Value.int .i64 p]
  obtain ⟨hl, rfl⟩ := List.getElem?_eq_some_iff.1 hj
  rw [Nat.mul_one]
  apply List.ext_getElem?
  intro i
  rcases i with _ | i
  · simp [hl]
  · simp; omega
theorem below_grown {w0 w w' : World} {g : Nat} (hB : Below w0.heap.size w0 w) (hg : w.grownBy w' (some g)) (h : w0.heap.size ≤ g) : Below w0.heap.size w0 w' :=
  ⟨hg.1.trans hB.os, hg.2.trans hB.tape, hg.3.trans hB.output, Nat.le_trans hB.size hg.4, fun k hk => (hg.5 k (Nat.lt_of_lt_of_le hk hB.size) (fun e => by injection e with e; omega)).trans (hB.block k hk)⟩
theorem grow_none (w : World) : Go.Sort.grow w #[] = w := by simp [Go.Sort.grow]
theorem own_cut {w : World} {base g cap n m : Nat} {e : TypeId} {os : Array Obj} {cur : Array Value} (zs : List Int) (hbase : base ≤ g) (hb : w.heap[g]? = some (.cells cur e (0, 0))) (h1 : zs.length + m ≤ cap) (h2 : cap ≤ maxLen) (h3 : cur.size = cap * 1) :
    (Go.Sort.grow (Go.Sort.putRow (Value.int .i64) (Sort.ahead w n) g 0 (zs ++ List.replicate m 0).toArray) os).ownsRow base e 1 (.slice (some ⟨g, 0, none⟩) zs.length cap) zs.length (zs.map (Value.int .i64)) := by
  refine ⟨by simp, .inr ⟨g, cap, _, rfl, hbase, heap_sortedI _ hb, by omega, h2, by simp [Go.Sort.putCells, h3], ?_⟩⟩
  have h := take_putCellsI cur (zs ++ List.replicate m 0) (by simp; omega)
  have h4 := congrArg (List.take zs.length) h
  rw [List.take_take, List.map_append, List.take_left' (by simp)] at h4
  rw [Nat.mul_one, ← h4, Nat.min_eq_left (by simp)]
end Go.Proofs.YtplfbjbbnjlnkaaS
