import Derived.Test.YtomgfohmjpcocaaGreatQFnSavedAnswersx1
/- The machine side of FnSavedAnswers: each function does what its plain function tells. -/
namespace Go.Proofs.YtomgfohmjpcocaaGreat.QFnSavedAnswers
open Go Go.RowKit Go.Proofs Go.Proofs.YtomgfohmjpcocaaGreatV Go.Proofs.YtomgfohmjpcocaaGreatW.PrintWords
set_option linter.unusedVariables false
set_option maxRecDepth 100000
theorem rc_row {w : World} {A : Option Addr} {c : Nat} {xs : List Int} (h : Kd.C (Kd.int .u8) w A xs.length xs) (hc : xs.length ≤ c) : RC U (fun b => b < w.heap.size) w (.tree 5 (xs : List (U.D 5))) (.slice A xs.length c) := by
  cases xs with
  | nil => exact .tree0 _ _ _
  | cons y t =>
    obtain ⟨ad, hA, h0⟩ := Kd.at_int h 0 (by omega) (by simp only [List.length_cons]; omega)
    subst hA
    refine @RC.tree U (fun b => b < w.heap.size) w 5 (y :: t : List Int) ad c (fun i _ => .int .u8 (rd (y :: t) (i : Int))) hc ?_ (fun i x j c hx hj => ?_) (fun i x j c hx hj => ?_)
    · have := World.block_lt_of_cell? w _ h0
      rwa [Go.Proofs.YtomgfohmjpcocaaGreatV.add_block] at this
    · have hx' : (y :: t : List Int)[i]? = some x := hx
      have hi := (List.getElem?_eq_some_iff.1 hx').1
      have hj' : [(VV.int .u8 x : VV U.D)][j]? = some c := hj
      obtain rfl : j = 0 := by
        cases j with
        | zero => rfl
        | succ j => simp at hj'
      obtain ⟨ad', hA', h1⟩ := Kd.at_int h (i : Int) (by omega) (by omega)
      cases hA'
      have e : i * U.sz 5 + 0 = (i : Int).toNat := by
        show i * 1 + 0 = _
        omega
      rw [e]; exact h1
    · have hx' : (y :: t : List Int)[i]? = some x := hx
      have hj' : [(VV.int .u8 x : VV U.D)][j]? = some c := hj
      cases j with
      | succ j => simp at hj'
      | zero =>
        simp only [List.getElem?_cons_zero, Option.some.injEq] at hj'
        subst hj'
        have e : rd (y :: t) (i : Int) = x := by
          unfold rd
          rw [Int.toNat_natCast, List.getD_eq_getElem?_getD, hx']; rfl
        show RC U _ w (VV.int .u8 x) (.int .u8 (rd (y :: t) (i : Int)))
        rw [e]; exact .int _ _
theorem laws_FnSavedAnswers.calls (k : Nat) (A0 : Option Addr) (c0 : Nat) (l0 : List Int) (r : Bool) (w : World) (hr0 : Kd.C (Kd.int .u8) w A0 l0.length l0) (hc0 : l0.length ≤ c0) (h : laws_FnSavedAnswers.f k l0 = some r) : Calls Tryz.prog 3 #[.slice A0 l0.length c0] w fun e w' => e = .returned (.bool r) ∧ Below w.heap.size w w' := law_bytes (e := 5) (laws_FnSavedAnswers.ok k).2 h (rc_row hr0 hc0)
end Go.Proofs.YtomgfohmjpcocaaGreat.QFnSavedAnswers
