/- The machine side of FnExactDeclareEmergency: what each function that it reaches computes, and that the machine's call gives just that. -/
import Derived.Test.YtplfbjbbnjlnkaaQFnExactDeclareEmergencyx0
import Derived.Test.YtplfbjbbnjlnkaaQFnExactDeclareEmergencyx5
namespace Go.Proofs.Ytplfbjbbnjlnkaa.QFnExactDeclareEmergency
open Go.RowKit Go.Proofs.YtplfbjbbnjlnkaaW.PrintWords Go.Proofs.YtplfbjbbnjlnkaaW.PrintLast Go.Proofs.YtplfbjbbnjlnkaaW.PrintMore
attribute [local go_sem] max2_int min2_int max_two min_two max_three min_three max_four min_four   -- for this text's walks alone
set_option linter.unusedVariables false
set_option linter.unusedSimpArgs false

/-! ### impl_InRange: function 141 -/
def impl_InRange.f (a0 : Int) (a1 : Int) (a2 : Int) : Option (Bool) := if a1 ≤ a0 then (some (decide (a0 ≤ a2))) else (some false)
open Go.Proofs.YtplfbjbbnjlnkaaM in
set_option maxHeartbeats 8000000 in
set_option maxRecDepth 100000 in
theorem impl_InRange.calls (a0 : Int) (a1 : Int) (a2 : Int) (r : Bool) (w : World) (h : impl_InRange.f a0 a1 a2 = some r) :
    Calls Try.prog 141 #[.int .i64 a0, .int .i64 a1, .int .i64 a2] w fun e w' => e = .returned (.bool r) ∧ Below w.heap.size w w' := by
  have HB := Aside0.mk (Below.refl w.heap.size w)
  have H := h
  clear h
  unfold impl_InRange.f at H
  go_enter Try.func141, Try.ntmps141
  by_cases c1 : a1 ≤ a0
  · rw [if_pos c1] at H
    have c1_0 := decT c1
    replace c1 := Aside0.mk c1
    first | rw [c1_0] | skip
    obtain rfl := Option.some.inj H
    clear H
    go_wp2
    go_ret
    exact ⟨rfl, HB.out⟩
  · rw [if_neg c1] at H
    have c1_0 := decF c1
    replace c1 := Aside0.mk c1
    first | rw [c1_0] | skip
    obtain rfl := Option.some.inj H
    clear H
    go_wp2
    go_ret
    exact ⟨rfl, HB.out⟩

/-! ### impl_IsTime: function 149 -/
def impl_IsTime.f (a0 : Int) : Option (Bool) := (impl_InRange.f a0 0 10000).bind fun t226 => (some t226)
open Go.Proofs.YtplfbjbbnjlnkaaM in
set_option maxHeartbeats 8000000 in
set_option maxRecDepth 100000 in
theorem impl_IsTime.calls (a0 : Int) (r : Bool) (w : World) (h : impl_IsTime.f a0 = some r) :
    Calls Try.prog 149 #[.int .i64 a0] w fun e w' => e = .returned (.bool r) ∧ Below w.heap.size w w' := by
  have HB := Aside0.mk (Below.refl w.heap.size w)
  have H := h
  clear h
  unfold impl_IsTime.f at H
  go_enter Try.func149, Try.ntmps149
  replace H := Option.bind_eq_some_iff.mp H
  obtain ⟨t226, hm, H⟩ := H
  try dsimp only at H
  replace H := Aside0.mk H
  have hcall := impl_InRange.calls _ _ _ _ w  hm
  clear hm
  go_wp2_with fail
  refine hcall.mono ?_
  rintro e W1 ⟨rfl, hb⟩
  clear hcall
  replace HB := bH HB hb; clear hb
  replace H := H.out
  obtain rfl := Option.some.inj H
  clear H
  go_wp2
  go_ret
  exact ⟨rfl, HB.out⟩

/-! ### impl_EndOf: function 127 -/
def impl_EndOf.f (a0 : Int) (a1 : Int) : Option (Int) := (impl_IsTime.f a0).bind fun t227 => (if t227 = true then ((impl_InRange.f a1 0 10000).bind fun t228 => (if t228 = true then (some (mn (wrap64 (a0 + a1)) 10000)) else (some 0))) else (some 0))
set_option maxHeartbeats 8000000 in
set_option maxRecDepth 100000 in
theorem impl_EndOf.calls (a0 : Int) (a1 : Int) (r : Int) (w : World) (h : impl_EndOf.f a0 a1 = some r) :
    Calls Try.prog 127 #[.int .i64 a0, .int .i64 a1] w fun e w' => e = .returned (.int .i64 r) ∧ Below w.heap.size w w' := by
  have HB := Aside0.mk (Below.refl w.heap.size w)
  have H : ((impl_IsTime.f a0).bind fun t227 => (if t227 = true then ((impl_InRange.f a1 0 10000).bind fun t228 => (if t228 = true then (some (mn (wrap64 (a0 + a1)) 10000)) else (some 0))) else (some 0))) = some r := h
  clear h
  replace H := Option.bind_eq_some_iff.mp H
  obtain ⟨t227, A30, H⟩ := H
  replace H : (if t227 = true then ((impl_InRange.f a1 0 10000).bind fun t228 => (if t228 = true then (some (mn (wrap64 (a0 + a1)) 10000)) else (some 0))) else (some 0)) = some r := H
  have A3 := Aside0.mk A30
  clear A30
  by_cases c4 : t227 = true
  · subst c4
    have H1 : ((impl_InRange.f a1 0 10000).bind fun t228 => (if t228 = true then (some (mn (wrap64 (a0 + a1)) 10000)) else (some 0))) = some r := by rw [if_pos rfl] at H; exact H
    clear H
    have H := H1
    clear H1
    replace H := Option.bind_eq_some_iff.mp H
    obtain ⟨t228, A50, H⟩ := H
    replace H : (if t228 = true then (some (mn (wrap64 (a0 + a1)) 10000)) else (some 0)) = some r := H
    have A5 := Aside0.mk A50
    clear A50
    by_cases c6 : t228 = true
    · subst c6
      have H1 : (some (mn (wrap64 (a0 + a1)) 10000)) = some r := by rw [if_pos rfl] at H; exact H
      clear H
      have H := H1
      clear H1
      obtain ⟨ji7, hji7⟩ : ∃ j_ : Int, (mn (wrap64 (a0 + a1)) 10000) = j_ := ⟨_, rfl⟩
      replace H : (some ji7) = some r := by first | (rw [hji7] at H; exact H) | (simp only [hji7] at H ⊢; exact H)
      (try rw [hji7] at A3)
      (try rw [hji7] at A5)
      (try (have hji7h : ji7 ≤ 10000 := by (rw [← hji7]; unfold mn; (repeat' split) <;> omega)))
      (try (have hji7g : ji7 ≤ 64 := by omega))
      have hji7_ : (if 10000 < (wrap64 (a0 + a1)) then 10000 else (wrap64 (a0 + a1))) = ji7 := hji7
      obtain rfl := Option.some.inj H
      go_enter Try.func127, Try.ntmps127
      go_wp2_with (first | ((with_reducible refine gate_callee (f := 149) rfl ?_); refine goesL_ (some 6) rfl rfl Try.func149 (by kernel_rfl) rfl #[.int .i64 a0] rfl (by (try simp only [List.map_toArray, List.map_cons, List.map_nil]); first | done | rfl | (simp only [List.length_drop, List.length_take]; rfl)) ?_; (with_reducible refine (impl_IsTime.calls a0 true _ A3.out).mono ?_); rintro e w8 ⟨rfl, hb⟩; refine ⟨_, rfl, ?_⟩; have n0_ := Aside0.mk (below_step (by repeat (first | (with_reducible first | exact HB.out | apply below_alloc | apply pw_below_drewN | apply below_drew1) | exact HB.out)) hb); clear HB; have HB := n0_; clear n0_; (try clear hb); (try clear hb2); (try clear hk); (try clear hi)) | (go_at_call 141; (with_reducible refine (impl_InRange.calls a1 0 10000 true _ A5.out).mono ?_); rintro e w9 ⟨rfl, hb⟩; have n0_ := Aside0.mk (below_step (by repeat (first | (with_reducible first | exact HB.out | apply below_alloc | apply pw_below_drewN | apply below_drew1) | exact HB.out)) hb); clear HB; have HB := n0_; clear n0_; (try clear hb); (try clear hb2); (try clear hk); (try clear hi)))
      go_ret
      exact ⟨by first | rfl | (simp [errW_none, errW_some] <;> rfl) | (simp only [← hji7]; first | rfl | (simp [errW_none, errW_some] <;> rfl)) | (simp [*, errW_none, errW_some] <;> rfl), by repeat (first | (with_reducible first | exact HB.out | apply below_alloc | apply pw_below_drewN | apply below_drew1) | exact HB.out)⟩
    · replace c6 := Bool.eq_false_iff.mpr c6
      subst c6
      have H1 : (some 0) = some r := by rw [if_neg (show ¬ (false = true) by decide)] at H; exact H
      clear H
      have H := H1
      clear H1
      obtain rfl := Option.some.inj H
      go_enter Try.func127, Try.ntmps127
      go_wp2_with (first | ((with_reducible refine gate_callee (f := 149) rfl ?_); refine goesL_ (some 6) rfl rfl Try.func149 (by kernel_rfl) rfl #[.int .i64 a0] rfl (by (try simp only [List.map_toArray, List.map_cons, List.map_nil]); first | done | rfl | (simp only [List.length_drop, List.length_take]; rfl)) ?_; (with_reducible refine (impl_IsTime.calls a0 true _ A3.out).mono ?_); rintro e w10 ⟨rfl, hb⟩; refine ⟨_, rfl, ?_⟩; have n0_ := Aside0.mk (below_step (by repeat (first | (with_reducible first | exact HB.out | apply below_alloc | apply pw_below_drewN | apply below_drew1) | exact HB.out)) hb); clear HB; have HB := n0_; clear n0_; (try clear hb); (try clear hb2); (try clear hk); (try clear hi)) | (go_at_call 141; (with_reducible refine (impl_InRange.calls a1 0 10000 false _ A5.out).mono ?_); rintro e w11 ⟨rfl, hb⟩; have n0_ := Aside0.mk (below_step (by repeat (first | (with_reducible first | exact HB.out | apply below_alloc | apply pw_below_drewN | apply below_drew1) | exact HB.out)) hb); clear HB; have HB := n0_; clear n0_; (try clear hb); (try clear hb2); (try clear hk); (try clear hi)))
      go_ret
      exact ⟨by first | rfl | (simp [errW_none, errW_some] <;> rfl) | (simp [*, errW_none, errW_some] <;> rfl), by repeat (first | (with_reducible first | exact HB.out | apply below_alloc | apply pw_below_drewN | apply below_drew1) | exact HB.out)⟩
  · replace c4 := Bool.eq_false_iff.mpr c4
    subst c4
    have H1 : (some 0) = some r := by rw [if_neg (show ¬ (false = true) by decide)] at H; exact H
    clear H
    have H := H1
    clear H1
    obtain rfl := Option.some.inj H
    go_enter Try.func127, Try.ntmps127
    go_wp2_with (first | ((with_reducible refine gate_callee (f := 149) rfl ?_); refine goesL_ (some 6) rfl rfl Try.func149 (by kernel_rfl) rfl #[.int .i64 a0] rfl (by (try simp only [List.map_toArray, List.map_cons, List.map_nil]); first | done | rfl | (simp only [List.length_drop, List.length_take]; rfl)) ?_; (with_reducible refine (impl_IsTime.calls a0 false _ A3.out).mono ?_); rintro e w12 ⟨rfl, hb⟩; refine ⟨_, rfl, ?_⟩; have n0_ := Aside0.mk (below_step (by repeat (first | (with_reducible first | exact HB.out | apply below_alloc | apply pw_below_drewN | apply below_drew1) | exact HB.out)) hb); clear HB; have HB := n0_; clear n0_; (try clear hb); (try clear hb2); (try clear hk); (try clear hi)))
    go_ret
    exact ⟨by first | rfl | (simp [errW_none, errW_some] <;> rfl) | (simp [*, errW_none, errW_some] <;> rfl), by repeat (first | (with_reducible first | exact HB.out | apply below_alloc | apply pw_below_drewN | apply below_drew1) | exact HB.out)⟩

/-! ### ixf188: function 188 -/
set_option maxHeartbeats 8000000 in
set_option maxRecDepth 100000 in
open Go.Proofs.YtplfbjbbnjlnkaaH in
theorem ixf188.calls (g : Nat) (lb : Array Value) (eg : ∀ args w, (callFunc g args).run Try.prog w = .ok (.enter g args) w) (p : Int → Option Bool) (A0 : Option Addr) (c0 : Nat) (l0 : List Int) (r : Int) (w : World)
    (hp : ∀ (W : World) (x : Int) (b : Bool), Below w.heap.size w W → p x = some b → Calls Try.prog g (#[.int .i64 x] ++ lb) W fun e w' => e = .returned (.bool b) ∧ Below w.heap.size w w')
    (hr0 : (Kd.int .i64).C w A0 l0.length l0) (hc0 : l0.length ≤ c0) (h : idxO p l0 0 = some r) :
    Calls Try.prog 188 #[.slice A0 l0.length c0, .func (.func g) #[] lb] w fun e w' => e = .returned (.int .i64 r) ∧ Below w.heap.size w w' := by
  have HLEN : Aside0 (l0.length ≤ 9223372036854775807) := ⟨hr0.2.1⟩
  have HR0 := Aside0.mk hr0
  have HC0 := Aside0.mk hc0
  have HP := Aside0.mk hp
  have H' := Aside0.mk (show idxO p (l0.drop (0 : Int).toNat) 0 = some r from h)
  clear hr0 hc0 h hp
  go_enter Try.func188, Try.ntmps188
  go_wp2
  go_loopg [5, 8] l0.length (fun gg _ v8 wr => ∃ x : Int, v8 = .int .i64 x ∧ Aside0 (0 ≤ x ∧ x ≤ l0.length ∧ l0.length - x.toNat ≤ gg) ∧ Aside0 (Below w.heap.size w wr) ∧ Aside0 (idxO p (l0.drop x.toNat) x = some r))
  case atStart => exact ⟨0, rfl, ⟨by omega, by omega, by omega⟩, ⟨Below.refl _ w⟩, H'⟩
  case round =>
    clear H'
    obtain ⟨x, rfl, HX, BW, HA⟩ := hrel
    by_cases hlt : x < (l0.length : Int)
    · have c2b0 : decide (x < (l0.length : Int)) = true := decide_eq_true hlt
      have p1 : 0 ≤ x := HX.out.1
      have q1 : x < (l0.length : Int) := hlt
      obtain ⟨b, hb, ht, hf⟩ := idxO_at (z := (0 : Int)) HA.out p1 q1
      have HB := Aside0.mk hb
      have HQ := Aside0.mk hlt
      clear hb HA
      obtain ⟨ad, e0, hx0⟩ := Kd.at_int (Kd.C_below HR0.out BW.out) x p1 q1
      cases e0
      have hcall := HP.out wr (rd l0 x) b BW.out HB.out
      have p1' := eq_true p1
      have q1' := eq_true q1
      clear p1 q1 hlt
      cases b with
      | true =>
        have HT := Aside0.mk (ht rfl)
        clear ht hf
        go_wp2_with fail
        refine hcall.mono ?_
        rintro e w' ⟨rfl, hb'⟩
        clear hcall hx0 eg HP HB
        go_wp2
        go_ret
        exact ⟨by rw [HT.out]; rfl, hb'⟩
      | false =>
        have HF := Aside0.mk (hf rfl)
        clear ht hf
        go_wp2_with fail
        refine hcall.mono ?_
        rintro e w' ⟨rfl, hb'⟩
        clear hcall hx0 eg HP HB
        go_wp2
        have he : wrap64 (x + 1) = x + 1 := wrap_up HX.out.1 HQ.out HLEN.out
        go_roundg (l0.length - (x + 1).toNat)
        case measure => have := HX.out; have := HQ.out; omega
        case rel =>
          refine ⟨x + 1, ?_, ⟨by have := HX.out; omega, by have := HQ.out; omega, Nat.le_refl _⟩, ⟨hb'⟩, HF⟩
          simp [he]
    · have c2b0 : decide (x < (l0.length : Int)) = false := decide_eq_false hlt
      have HN := Aside0.mk hlt
      clear hlt
      go_wp2
      go_ret
      exact ⟨by rw [← idxO_end HA.out HX.out.2.1 (by have := HN.out; omega)]; rfl, BW.out⟩

/-! ### ctf158: function 158 -/
set_option maxHeartbeats 8000000 in
set_option maxRecDepth 100000 in
open Go.Proofs.YtplfbjbbnjlnkaaH in
theorem ctf158.calls (g : Nat) (lb : Array Value) (eg : ∀ args w, (callFunc g args).run Try.prog w = .ok (.enter g args) w) (p : Int → Option Bool) (A0 : Option Addr) (c0 : Nat) (l0 : List Int) (r : Int) (w : World)
    (hp : ∀ (W : World) (x : Int) (b : Bool), Below w.heap.size w W → p x = some b → Calls Try.prog g (#[.int .i64 x] ++ lb) W fun e w' => e = .returned (.bool b) ∧ Below w.heap.size w w')
    (hr0 : (Kd.int .i64).C w A0 l0.length l0) (hc0 : l0.length ≤ c0) (h : idxO p l0 0 = some r) :
    Calls Try.prog 158 #[.slice A0 l0.length c0, .func (.func g) #[] lb] w fun e w' => e = .returned (.bool (decide (r ≥ 0))) ∧ Below w.heap.size w w' := by
  have hcon := ixf188.calls g lb eg p A0 c0 l0 r w hp hr0 hc0 h
  clear hp hr0 hc0 h eg
  go_enter Try.func158, Try.ntmps158
  go_wp2_with fail
  refine hcon.mono ?_
  rintro e w' ⟨rfl, hb'⟩
  clear hcon
  go_wp2
  go_ret
  exact ⟨rfl, hb'⟩

/-! ### cl159: function 159 -/
def cl159.f (k : Nat) (a0 : Int) (l1_0 : List Int) (l1_1 : List Int) (a1_2 : Int) : Option (Bool) := (slices_Contains_int_int.f k l1_1 a0).bind fun t230 => (some (!t230))
open Go.Proofs.YtplfbjbbnjlnkaaM in
set_option maxHeartbeats 8000000 in
set_option maxRecDepth 100000 in
theorem cl159.calls (k : Nat) (a0 : Int) (A1_0 : Option Addr) (c1_0 : Nat) (l1_0 : List Int) (A1_1 : Option Addr) (c1_1 : Nat) (l1_1 : List Int) (a1_2 : Int) (B1 : Nat) (r : Bool) (w0 w : World) (hB1 : w0.heap[B1]? = some (.cells #[.slice A1_0 l1_0.length c1_0, .slice A1_1 l1_1.length c1_1, .int .i64 a1_2] 62 (0, 0))) (hr1_0 : Kd.C (Kd.int .i64) w0 A1_0 l1_0.length l1_0) (hc1_0 : l1_0.length ≤ c1_0) (hr1_1 : Kd.C (Kd.int .i64) w0 A1_1 l1_1.length l1_1) (hc1_1 : l1_1.length ≤ c1_1) (hb : Below w0.heap.size w0 w) (h : cl159.f k a0 l1_0 l1_1 a1_2 = some r) :
    Calls Try.prog 159 #[.int .i64 a0, .pointer (some ⟨B1, 0, none⟩)] w fun e w' => e = .returned (.bool r) ∧ Below w0.heap.size w0 w' := by
  have BKc1 := Aside0.mk (blk_below hB1 hb); have c_BKc1 := blk_cell BKc1.out; have z_BKc1 := blk_frozen BKc1.out; clear hB1
  have HR1_0 := Aside0.mk (Kd.C_below hr1_0 hb); have HC1_0 := Aside0.mk hc1_0; clear hr1_0 hc1_0
  have HR1_1 := Aside0.mk (Kd.C_below hr1_1 hb); have HC1_1 := Aside0.mk hc1_1; clear hr1_1 hc1_1
  have HB0 := Aside0.mk hb; clear hb
  have HB := Aside0.mk (Below.refl w.heap.size w)
  have H := h
  clear h
  unfold cl159.f at H
  have hu62 := Try.underlying62
  go_enter Try.func159, Try.ntmps159
  replace H := Option.bind_eq_some_iff.mp H
  obtain ⟨t230, hm, H⟩ := H
  try dsimp only at H
  replace H := Aside0.mk H
  have hcall := slices_Contains_int_int.calls k _ _ _ _ _ w (Kd.C_below HR1_1.out HB.out) HC1_1.out hm
  clear hm
  go_wp2_with fail
  refine hcall.mono ?_
  rintro e W1 ⟨rfl, hd⟩
  clear hcall
  have hb : Below w.heap.size w W1 := hd.below; clear hd
  replace BKc1 := bK BKc1 hb; replace c_BKc1 := blk_cell BKc1.out; replace z_BKc1 := blk_frozen BKc1.out
  replace HB := bH HB hb; clear hb
  replace H := H.out
  obtain rfl := Option.some.inj H
  clear H
  go_wp2
  go_ret
  exact ⟨rfl, below_step HB0.out HB.out⟩

/-! ### impl_DebtsOf: function 160 -/
def impl_DebtsOf.l0 : Nat → Int → List Int → List (S144) → Int → Int → Option (List Int)
  | 0, _, _, _, _, _ => none
  | k + 1, x1, x5, x9, x10, x11 => if x11 < x10 then (if 0 ≤ x11 then (if x11 < (x9.length : Int) then (if ((rd_T144 x9 x11).f1) = x1 then (if ((rd_T144 x9 x11).f5 = true) then (impl_DebtsOf.l0 k x1 x5 x9 x10 (wrap64 (x11 + 1))) else (if x5.length < 17592186044416 then (impl_DebtsOf.l0 k x1 (x5 ++ [(rd_T144 x9 x11).f0]) x9 x10 (wrap64 (x11 + 1))) else (none))) else (impl_DebtsOf.l0 k x1 x5 x9 x10 (wrap64 (x11 + 1)))) else (none)) else (none)) else (some x5)
def impl_DebtsOf.f (k : Nat) (l0 : List (S144)) (a1 : Int) : Option (List Int) := impl_DebtsOf.l0 k a1 (([] : List Int)) l0 (l0.length : Int) 0
set_option maxHeartbeats 8000000 in
set_option maxRecDepth 100000 in
theorem impl_DebtsOf.calls (k : Nat) (A0 : Option Addr) (c0 : Nat) (l0 : List (S144)) (a1 : Int) (r : List Int) (w : World) (hr0 : Kd.C k144 w A0 l0.length l0) (hc0 : l0.length ≤ c0) (h : impl_DebtsOf.f k l0 a1 = some r) :
    Calls Try.prog 160 #[.slice A0 l0.length c0, .int .i64 a1] w fun e w' => ∃ v0_ : Value, e = .returned (v0_) ∧ Kd.R (Kd.int .i64) 3 w' w.heap.size (fun _ => True) v0_ r ∧ Below w.heap.size w w' := by
  have hu144 := Try.underlying144
  have HR0 := Aside0.mk hr0
  have HC0 := Aside0.mk hc0
  clear hr0 hc0
  have HB := Aside0.mk (Below.refl w.heap.size w)
  have H : (impl_DebtsOf.l0 k a1 (([] : List Int)) l0 (l0.length : Int) 0) = some r := h
  clear h
  obtain ⟨y231, hy231⟩ : ∃ y_ : List Int, y_ = (([] : List Int)) := ⟨_, rfl⟩
  replace H : (impl_DebtsOf.l0 k a1 y231 l0 (l0.length : Int) 0) = some r := by first | (rw [hy231]; with_reducible exact H) | (have H2_ := (Option.bind_some _ _).symm.trans H; rw [hy231]; with_reducible exact H2_) | (have H2_ := (Option.bind_some _ _).symm.trans H; with_reducible exact H2_) | with_reducible exact H | (rw [hy231]; exact H) | exact H
  have Ny231 := Aside0.mk hy231
  clear hy231
  have H' := Aside0.mk H
  clear H
  go_enter Try.func160, Try.ntmps160
  go_wp2_with (first | ((with_reducible refine gate_dst (N := 8) rfl ?_); refine Kd.R_lit (Kd.int .i64) _ 3 ?hg (N := 8) ?hd (xs := ([] : List Int)) (inner := []) (ok := fun _ => True) (okp := fun _ => True) ?hr ?hp (fun _ hk => hk) trivial (Below.refl _ _) (Nat.le_refl _) (by simp) ?_; (case hd => rfl); (case hg => rfl); (case hr => first | (go_simp; done) | (go_simp; rfl)); (case hp => exact (Reps.none _ _)); intro v232 w3 ho4 hb hg_ hnew_; clear hg_ hnew_; (first | rw [← Ny231.out] at ho4 | (simp only [Int.reduceToNat] at ho4; rw [← Ny231.out] at ho4)); have n0_ := Aside0.mk (Kd.R_lower ho4 (below_size (by repeat (first | (with_reducible first | exact HB.out | apply below_alloc | apply pw_below_drewN | apply below_drew1) | exact HB.out)))); have n1_ := Aside0.mk (below_step (by repeat (first | (with_reducible first | exact HB.out | apply below_alloc | apply pw_below_drewN | apply below_drew1) | exact HB.out)) hb); clear HB; have HO233 := n0_; have HB := n1_; clear n0_ n1_; clear hb ho4))
  go_loopg [5, 11] k (fun kq v5 v11 w' => ∃ (x5_1 : List Int) (x11_1 : Int), v11 = .int .i64 x11_1 ∧ Aside0 (impl_DebtsOf.l0 kq a1 x5_1 l0 (l0.length : Int) x11_1 = some r) ∧ Aside0 (kq ≤ k) ∧ Aside0 (Kd.R (Kd.int .i64) 3 w' w.heap.size (fun _ => True) v5 x5_1) ∧ Aside0 (Below w.heap.size w w'))
  case atStart => exact ⟨(y231), (0), (by first | rfl | (simp; done) | (simp [*]; done)), H', ⟨Nat.le_refl _⟩, ⟨by (with_reducible repeat (first | apply Kd.R_alloc | apply Kd.R_drewN | apply Kd.R_drew)); exact HO233.out⟩, ⟨by repeat (first | (with_reducible first | exact HB.out | apply below_alloc | apply pw_below_drewN | apply below_drew1) | exact HB.out)⟩⟩
  case round =>
    clear H'
    try clear c1
    try clear p2
    obtain ⟨x5_1, x11_1, rfl, HA, HK1, HO_5, HB⟩ := hrel
    cases gk with
    | zero => exact absurd HA.out (by simp [impl_DebtsOf.l0])
    | succ k1 =>
      have H := HA.out
      clear HA
      simp only [impl_DebtsOf.l0] at H
      by_cases c5 : x11_1 < (l0.length : Int)
      · rw [if_pos c5] at H
        have c5b0 : decide (x11_1 < (l0.length : Int)) = true := decide_eq_true c5
        clear c5
        by_cases c6 : 0 ≤ x11_1
        · rw [if_pos c6] at H
          have c6b0 : decide (0 ≤ x11_1) = true := decide_eq_true c6
          clear c6
          by_cases c7 : x11_1 < (l0.length : Int)
          · rw [if_pos c7] at H
            have c7b0 : decide (x11_1 < (l0.length : Int)) = true := decide_eq_true c7
            clear c7
            by_cases c8 : ((rd_T144 l0 x11_1).f1) = a1
            · rw [if_pos c8] at H
              have c8b0 : (((rd_T144 l0 x11_1).f1) == a1) = true := beq_iff_eq.mpr c8
              have c8b1 : (((rd_T144 l0 x11_1).f1) != a1) = false := bne_eq_false_iff_eq.mpr c8
              clear c8
              obtain ⟨bq9, hbq9⟩ : ∃ b_ : Bool, b_ = ((rd_T144 l0 x11_1).f5) := ⟨_, rfl⟩
              replace H : (if (bq9 = true) then (impl_DebtsOf.l0 k1 a1 x5_1 l0 (l0.length : Int) (wrap64 (x11_1 + 1))) else (if x5_1.length < 17592186044416 then (impl_DebtsOf.l0 k1 a1 (x5_1 ++ [(rd_T144 l0 x11_1).f0]) l0 (l0.length : Int) (wrap64 (x11_1 + 1))) else (none))) = some r := by rw [← hbq9] at H; exact H
              have Nbq9 := Aside0.mk hbq9
              clear hbq9
              by_cases c10 : (bq9 = true)
              · subst c10
                have H1 : (impl_DebtsOf.l0 k1 a1 x5_1 l0 (l0.length : Int) (wrap64 (x11_1 + 1))) = some r := by rw [if_pos rfl] at H; exact H
                clear H
                have H := H1
                clear H1
                have H' := Aside0.mk H
                clear H
                have p234 : 0 ≤ (x11_1 : Int) := of_decide_eq_true (by first | (with_reducible assumption) | assumption)
                have q234 : x11_1 < (l0.length : Int) := of_decide_eq_true (by first | (with_reducible assumption) | assumption)
                obtain ⟨ad234, A234_4, c234_4, e234, hx234_0, hx234_1, hx234_2, hx234_3, hx234_4, hx234_5, hl234_4, hi234_4⟩ := at_T144 HR0.out x11_1 p234 q234
                (try rw [← Nbq9.out] at hx234_5)
                cases e234
                replace hx234_0 := (HB.out.cell (World.block_lt_of_cell? w _ hx234_0)).trans hx234_0
                replace hx234_1 := (HB.out.cell (World.block_lt_of_cell? w _ hx234_1)).trans hx234_1
                replace hx234_2 := (HB.out.cell (World.block_lt_of_cell? w _ hx234_2)).trans hx234_2
                replace hx234_3 := (HB.out.cell (World.block_lt_of_cell? w _ hx234_3)).trans hx234_3
                replace hx234_4 := (HB.out.cell (World.block_lt_of_cell? w _ hx234_4)).trans hx234_4
                replace hx234_5 := (HB.out.cell (World.block_lt_of_cell? w _ hx234_5)).trans hx234_5
                have HR234_4 := Aside0.mk hi234_4
                have HC234_4 := Aside0.mk hl234_4
                clear hi234_4 hl234_4
                replace p234 := eq_true p234
                replace q234 := eq_true q234
                go_wp2_with (first | ((with_reducible refine gate_dst (N := 7) rfl ?_); refine box_event ?hg (N := 7) ?hd (cs := #[.int .i64 0, .int .i64 0, .int .i64 0, .int .i64 0, .slice none 0 0, .bool false]) (t := 144) ?hr ?_; (case hd => rfl); (case hg => rfl); (case hr => first | (go_simp; done) | (go_simp; rfl)); intro gb235 hg w11 hbox hb; have n0_ := Aside0.mk (Kd.R_below (by (with_reducible repeat (first | apply Kd.R_alloc | apply Kd.R_drewN | apply Kd.R_drew)); exact HO_5.out) hb); have n1_ := Aside0.mk (below_step (by repeat (first | (with_reducible first | exact HB.out | apply below_alloc | apply pw_below_drewN | apply below_drew1) | exact HB.out)) hb); have n2_ := Aside0.mk (hbox); have n3_ := Aside0.mk ((by rw [hg]; exact (below_size (by repeat (first | (with_reducible first | exact HB.out | apply below_alloc | apply pw_below_drewN | apply below_drew1) | exact HB.out))) : w.heap.size ≤ gb235)); have n4_ := Aside0.mk ((by rw [hg]; exact (below_size (by repeat (first | (with_reducible first | exact HB.out | apply below_alloc | apply pw_below_drewN | apply below_drew1) | exact HB.out))) : w.heap.size ≤ gb235)); clear HO_5; clear HB; have HO_5 := n0_; have HB := n1_; have BK235 := n2_; have GW235 := n3_; have GE235 := n4_; clear n0_ n1_ n2_ n3_ n4_; clear hb hbox hg; have hcz12_0 : w11.cell? ⟨gb235, 0, none⟩ = some (.int .i64 0) := (blk_cell BK235.out 0).trans rfl; have hcz12_1 : w11.cell? ⟨gb235, 1, none⟩ = some (.int .i64 0) := (blk_cell BK235.out 1).trans rfl; have hcz12_2 : w11.cell? ⟨gb235, 2, none⟩ = some (.int .i64 0) := (blk_cell BK235.out 2).trans rfl; have hcz12_3 : w11.cell? ⟨gb235, 3, none⟩ = some (.int .i64 0) := (blk_cell BK235.out 3).trans rfl; have hcz12_4 : w11.cell? ⟨gb235, 4, none⟩ = some (.slice none 0 0) := (blk_cell BK235.out 4).trans rfl; have hcz12_5 : w11.cell? ⟨gb235, 5, none⟩ = some (.bool false) := (blk_cell BK235.out 5).trans rfl; have hfz12_0 := blk_frozen BK235.out 0; have hfz12_1 := blk_frozen BK235.out 1; have hfz12_2 := blk_frozen BK235.out 2; have hfz12_3 := blk_frozen BK235.out 3; have hfz12_4 := blk_frozen BK235.out 4; have hfz12_5 := blk_frozen BK235.out 5))
                go_roundg k1
                case measure => have := HK1.out; omega
                case rel => exact ⟨(x5_1), (wrap64 (x11_1 + 1)), (by first | rfl | (simp; done) | (simp [*]; done)), H', ⟨by have := HK1.out; omega⟩, ⟨by (with_reducible repeat (first | apply Kd.R_alloc | apply Kd.R_drewN | apply Kd.R_drew)); exact Kd.R_mono (Kd.R_far (p := ⟨gb235, 5, none⟩) (Kd.R_far (p := ⟨gb235, 4, none⟩) (Kd.R_far (p := ⟨gb235, 3, none⟩) (Kd.R_far (p := ⟨gb235, 2, none⟩) (Kd.R_far (p := ⟨gb235, 1, none⟩) (Kd.R_far (p := ⟨gb235, 0, none⟩) (Kd.R_types HO_5.out BK235.out (by decide)) (fun _ hk => hk.2) (.int .i64 ((rd_T144 l0 x11_1).f0))) (fun _ hk => hk.2) (.int .i64 ((rd_T144 l0 x11_1).f1))) (fun _ hk => hk.2) (.int .i64 ((rd_T144 l0 x11_1).f2))) (fun _ hk => hk.2) (.int .i64 ((rd_T144 l0 x11_1).f3))) (fun _ hk => hk.2) (.slice A234_4 ((rd_T144 l0 x11_1).f4).length c234_4)) (fun _ hk => hk.2) (.bool true)) (fun _ hk => trivial)⟩, ⟨by repeat (first | (with_reducible first | exact HB.out | apply below_alloc | apply pw_below_drewN | apply below_drew1 | refine below_set ?_ GE235.out) | exact HB.out)⟩⟩
              · replace c10 := Bool.eq_false_iff.mpr c10
                subst c10
                have H1 : (if x5_1.length < 17592186044416 then (impl_DebtsOf.l0 k1 a1 (x5_1 ++ [(rd_T144 l0 x11_1).f0]) l0 (l0.length : Int) (wrap64 (x11_1 + 1))) else (none)) = some r := by rw [if_neg (show ¬ (false = true) by decide)] at H; exact H
                clear H
                have H := H1
                clear H1
                by_cases c13 : x5_1.length < 17592186044416
                · rw [if_pos c13] at H
                  have LMc13 := Aside0.mk c13
                  clear c13
                  obtain ⟨y236, hy236⟩ : ∃ y_ : List Int, y_ = (x5_1 ++ [(rd_T144 l0 x11_1).f0]) := ⟨_, rfl⟩
                  replace H : (impl_DebtsOf.l0 k1 a1 y236 l0 (l0.length : Int) (wrap64 (x11_1 + 1))) = some r := by first | (rw [hy236]; with_reducible exact H) | (have H2_ := (Option.bind_some _ _).symm.trans H; rw [hy236]; with_reducible exact H2_) | (have H2_ := (Option.bind_some _ _).symm.trans H; with_reducible exact H2_) | with_reducible exact H | (rw [hy236]; exact H) | exact H
                  have Ny236 := Aside0.mk hy236
                  clear hy236
                  have H' := Aside0.mk H
                  clear H
                  have p234 : 0 ≤ (x11_1 : Int) := of_decide_eq_true (by first | (with_reducible assumption) | assumption)
                  have q234 : x11_1 < (l0.length : Int) := of_decide_eq_true (by first | (with_reducible assumption) | assumption)
                  obtain ⟨ad234, A234_4, c234_4, e234, hx234_0, hx234_1, hx234_2, hx234_3, hx234_4, hx234_5, hl234_4, hi234_4⟩ := at_T144 HR0.out x11_1 p234 q234
                  (try rw [← Nbq9.out] at hx234_5)
                  cases e234
                  replace hx234_0 := (HB.out.cell (World.block_lt_of_cell? w _ hx234_0)).trans hx234_0
                  replace hx234_1 := (HB.out.cell (World.block_lt_of_cell? w _ hx234_1)).trans hx234_1
                  replace hx234_2 := (HB.out.cell (World.block_lt_of_cell? w _ hx234_2)).trans hx234_2
                  replace hx234_3 := (HB.out.cell (World.block_lt_of_cell? w _ hx234_3)).trans hx234_3
                  replace hx234_4 := (HB.out.cell (World.block_lt_of_cell? w _ hx234_4)).trans hx234_4
                  replace hx234_5 := (HB.out.cell (World.block_lt_of_cell? w _ hx234_5)).trans hx234_5
                  have HR234_4 := Aside0.mk hi234_4
                  have HC234_4 := Aside0.mk hl234_4
                  clear hi234_4 hl234_4
                  replace p234 := eq_true p234
                  replace q234 := eq_true q234
                  go_wp2_with (first | ((with_reducible refine gate_dst (N := 7) rfl ?_); refine box_event ?hg (N := 7) ?hd (cs := #[.int .i64 0, .int .i64 0, .int .i64 0, .int .i64 0, .slice none 0 0, .bool false]) (t := 144) ?hr ?_; (case hd => rfl); (case hg => rfl); (case hr => first | (go_simp; done) | (go_simp; rfl)); intro gb235 hg w14 hbox hb; have n0_ := Aside0.mk (Kd.R_below (by (with_reducible repeat (first | apply Kd.R_alloc | apply Kd.R_drewN | apply Kd.R_drew)); exact HO_5.out) hb); have n1_ := Aside0.mk (below_step (by repeat (first | (with_reducible first | exact HB.out | apply below_alloc | apply pw_below_drewN | apply below_drew1) | exact HB.out)) hb); have n2_ := Aside0.mk (hbox); have n3_ := Aside0.mk ((by rw [hg]; exact (below_size (by repeat (first | (with_reducible first | exact HB.out | apply below_alloc | apply pw_below_drewN | apply below_drew1) | exact HB.out))) : w.heap.size ≤ gb235)); have n4_ := Aside0.mk ((by rw [hg]; exact (below_size (by repeat (first | (with_reducible first | exact HB.out | apply below_alloc | apply pw_below_drewN | apply below_drew1) | exact HB.out))) : w.heap.size ≤ gb235)); clear HO_5; clear HB; have HO_5 := n0_; have HB := n1_; have BK235 := n2_; have GW235 := n3_; have GE235 := n4_; clear n0_ n1_ n2_ n3_ n4_; clear hb hbox hg; have hcz15_0 : w14.cell? ⟨gb235, 0, none⟩ = some (.int .i64 0) := (blk_cell BK235.out 0).trans rfl; have hcz15_1 : w14.cell? ⟨gb235, 1, none⟩ = some (.int .i64 0) := (blk_cell BK235.out 1).trans rfl; have hcz15_2 : w14.cell? ⟨gb235, 2, none⟩ = some (.int .i64 0) := (blk_cell BK235.out 2).trans rfl; have hcz15_3 : w14.cell? ⟨gb235, 3, none⟩ = some (.int .i64 0) := (blk_cell BK235.out 3).trans rfl; have hcz15_4 : w14.cell? ⟨gb235, 4, none⟩ = some (.slice none 0 0) := (blk_cell BK235.out 4).trans rfl; have hcz15_5 : w14.cell? ⟨gb235, 5, none⟩ = some (.bool false) := (blk_cell BK235.out 5).trans rfl; have hfz15_0 := blk_frozen BK235.out 0; have hfz15_1 := blk_frozen BK235.out 1; have hfz15_2 := blk_frozen BK235.out 2; have hfz15_3 := blk_frozen BK235.out 3; have hfz15_4 := blk_frozen BK235.out 4; have hfz15_5 := blk_frozen BK235.out 5) | ((with_reducible refine gate_builtin (b := .append) (xs := #[.tmp 24, .tmp 27]) rfl ?_); at_builtin; refine Kd.R_append (Kd.int .i64) (w0 := w) w.heap.size rfl (.tmp 24) (.tmp 27) 46 3 (.int .i64 0) 8 rfl Try.underlying46 info3 rfl (by decide) (by omega) u5 x5_1 ((rd_T144 l0 x11_1).f0) [.int .i64 ((rd_T144 l0 x11_1).f0)] (fun _ => True) (fun _ => False) rfl (by first | (go_simp; done) | (go_simp; rfl)) ?aP (fun _ hk => hk.elim) ?aF ?aO ?aB ?aS ?aL ?_; (case aP => exact rfl); (case aB => exact (by repeat (first | (with_reducible first | exact HB.out | apply below_alloc | apply pw_below_drewN | apply below_drew1 | refine below_set ?_ GE235.out) | exact HB.out))); (case aF => exact (fun _ _ => trivial)); (case aO => exact (by (with_reducible repeat (first | apply Kd.R_alloc | apply Kd.R_drewN | apply Kd.R_drew)); exact Kd.R_mono (Kd.R_far (p := ⟨gb235, 5, none⟩) (Kd.R_far (p := ⟨gb235, 4, none⟩) (Kd.R_far (p := ⟨gb235, 3, none⟩) (Kd.R_far (p := ⟨gb235, 2, none⟩) (Kd.R_far (p := ⟨gb235, 1, none⟩) (Kd.R_far (p := ⟨gb235, 0, none⟩) (Kd.R_types HO_5.out BK235.out (by decide)) (fun _ hk => hk.2) (.int .i64 ((rd_T144 l0 x11_1).f0))) (fun _ hk => hk.2) (.int .i64 ((rd_T144 l0 x11_1).f1))) (fun _ hk => hk.2) (.int .i64 ((rd_T144 l0 x11_1).f2))) (fun _ hk => hk.2) (.int .i64 ((rd_T144 l0 x11_1).f3))) (fun _ hk => hk.2) (.slice A234_4 ((rd_T144 l0 x11_1).f4).length c234_4)) (fun _ hk => hk.2) (.bool false)) (fun _ hk => trivial))); (case aS => exact (below_size (by repeat (first | (with_reducible first | exact HB.out | apply below_alloc | apply pw_below_drewN | apply below_drew1 | refine below_set ?_ GE235.out) | exact HB.out)))); (case aL => have := LMc13.out; omega); intro v237 w16 ho hb hg hat; rw [← Ny236.out] at ho; have n0_ := Aside0.mk (blk_grown (g := gb235) (o := .cells #[.int .i64 ((rd_T144 l0 x11_1).f0), .int .i64 ((rd_T144 l0 x11_1).f1), .int .i64 ((rd_T144 l0 x11_1).f2), .int .i64 ((rd_T144 l0 x11_1).f3), .slice A234_4 ((rd_T144 l0 x11_1).f4).length c234_4, .bool false] 144 (0, 0)) (by (with_reducible repeat (first | refine blk_drewN ?_ _ | refine blk_drew ?_ | refine blk_alloc ?_ _)); refine blk_put (cs := #[.int .i64 ((rd_T144 l0 x11_1).f0), .int .i64 ((rd_T144 l0 x11_1).f1), .int .i64 ((rd_T144 l0 x11_1).f2), .int .i64 ((rd_T144 l0 x11_1).f3), .slice A234_4 ((rd_T144 l0 x11_1).f4).length c234_4, .bool false]) ?_ 5 _ rfl; (with_reducible repeat (first | refine blk_drewN ?_ _ | refine blk_drew ?_ | refine blk_alloc ?_ _)); refine blk_put (cs := #[.int .i64 ((rd_T144 l0 x11_1).f0), .int .i64 ((rd_T144 l0 x11_1).f1), .int .i64 ((rd_T144 l0 x11_1).f2), .int .i64 ((rd_T144 l0 x11_1).f3), .slice none 0 0, .bool false]) ?_ 4 _ rfl; (with_reducible repeat (first | refine blk_drewN ?_ _ | refine blk_drew ?_ | refine blk_alloc ?_ _)); refine blk_put (cs := #[.int .i64 ((rd_T144 l0 x11_1).f0), .int .i64 ((rd_T144 l0 x11_1).f1), .int .i64 ((rd_T144 l0 x11_1).f2), .int .i64 0, .slice none 0 0, .bool false]) ?_ 3 _ rfl; (with_reducible repeat (first | refine blk_drewN ?_ _ | refine blk_drew ?_ | refine blk_alloc ?_ _)); refine blk_put (cs := #[.int .i64 ((rd_T144 l0 x11_1).f0), .int .i64 ((rd_T144 l0 x11_1).f1), .int .i64 0, .int .i64 0, .slice none 0 0, .bool false]) ?_ 2 _ rfl; (with_reducible repeat (first | refine blk_drewN ?_ _ | refine blk_drew ?_ | refine blk_alloc ?_ _)); refine blk_put (cs := #[.int .i64 ((rd_T144 l0 x11_1).f0), .int .i64 0, .int .i64 0, .int .i64 0, .slice none 0 0, .bool false]) ?_ 1 _ rfl; (with_reducible repeat (first | refine blk_drewN ?_ _ | refine blk_drew ?_ | refine blk_alloc ?_ _)); refine blk_put (cs := #[.int .i64 0, .int .i64 0, .int .i64 0, .int .i64 0, .slice none 0 0, .bool false]) ?_ 0 _ rfl; (with_reducible repeat (first | refine blk_drewN ?_ _ | refine blk_drew ?_ | refine blk_alloc ?_ _)); exact BK235.out) hg (Kd.R_ne HO_5.out BK235.out (by decide))); have n1_ := Aside0.mk (hb); have n2_ := Aside0.mk (ho); clear BK235; clear HB; clear HO_5; have BK235 := n0_; have HB := n1_; have HO238 := n2_; clear n0_ n1_ n2_; clear ho hb hg hat))
                  go_roundg k1
                  case measure => have := HK1.out; omega
                  case rel => exact ⟨(y236), (wrap64 (x11_1 + 1)), (by first | rfl | (simp; done) | (simp [*]; done)), H', ⟨by have := HK1.out; omega⟩, ⟨by (with_reducible repeat (first | apply Kd.R_alloc | apply Kd.R_drewN | apply Kd.R_drew)); exact HO238.out⟩, ⟨by repeat (first | (with_reducible first | exact HB.out | apply below_alloc | apply pw_below_drewN | apply below_drew1 | refine below_set ?_ GE235.out) | exact HB.out)⟩⟩
                · rw [if_neg c13] at H
                  exact absurd H (by simp)
            · rw [if_neg c8] at H
              have c8b0 : (((rd_T144 l0 x11_1).f1) == a1) = false := beq_eq_false_iff_ne.mpr c8
              have c8b1 : (((rd_T144 l0 x11_1).f1) != a1) = true := bne_iff_ne.mpr c8
              have H' := Aside0.mk H
              clear H
              have p234 : 0 ≤ (x11_1 : Int) := of_decide_eq_true (by first | (with_reducible assumption) | assumption)
              have q234 : x11_1 < (l0.length : Int) := of_decide_eq_true (by first | (with_reducible assumption) | assumption)
              obtain ⟨ad234, A234_4, c234_4, e234, hx234_0, hx234_1, hx234_2, hx234_3, hx234_4, hx234_5, hl234_4, hi234_4⟩ := at_T144 HR0.out x11_1 p234 q234
              cases e234
              replace hx234_0 := (HB.out.cell (World.block_lt_of_cell? w _ hx234_0)).trans hx234_0
              replace hx234_1 := (HB.out.cell (World.block_lt_of_cell? w _ hx234_1)).trans hx234_1
              replace hx234_2 := (HB.out.cell (World.block_lt_of_cell? w _ hx234_2)).trans hx234_2
              replace hx234_3 := (HB.out.cell (World.block_lt_of_cell? w _ hx234_3)).trans hx234_3
              replace hx234_4 := (HB.out.cell (World.block_lt_of_cell? w _ hx234_4)).trans hx234_4
              replace hx234_5 := (HB.out.cell (World.block_lt_of_cell? w _ hx234_5)).trans hx234_5
              have HR234_4 := Aside0.mk hi234_4
              have HC234_4 := Aside0.mk hl234_4
              clear hi234_4 hl234_4
              replace p234 := eq_true p234
              replace q234 := eq_true q234
              go_wp2_with (first | ((with_reducible refine gate_dst (N := 7) rfl ?_); refine box_event ?hg (N := 7) ?hd (cs := #[.int .i64 0, .int .i64 0, .int .i64 0, .int .i64 0, .slice none 0 0, .bool false]) (t := 144) ?hr ?_; (case hd => rfl); (case hg => rfl); (case hr => first | (go_simp; done) | (go_simp; rfl)); intro gb235 hg w17 hbox hb; have n0_ := Aside0.mk (Kd.R_below (by (with_reducible repeat (first | apply Kd.R_alloc | apply Kd.R_drewN | apply Kd.R_drew)); exact HO_5.out) hb); have n1_ := Aside0.mk (below_step (by repeat (first | (with_reducible first | exact HB.out | apply below_alloc | apply pw_below_drewN | apply below_drew1) | exact HB.out)) hb); have n2_ := Aside0.mk (hbox); have n3_ := Aside0.mk ((by rw [hg]; exact (below_size (by repeat (first | (with_reducible first | exact HB.out | apply below_alloc | apply pw_below_drewN | apply below_drew1) | exact HB.out))) : w.heap.size ≤ gb235)); have n4_ := Aside0.mk ((by rw [hg]; exact (below_size (by repeat (first | (with_reducible first | exact HB.out | apply below_alloc | apply pw_below_drewN | apply below_drew1) | exact HB.out))) : w.heap.size ≤ gb235)); clear HO_5; clear HB; have HO_5 := n0_; have HB := n1_; have BK235 := n2_; have GW235 := n3_; have GE235 := n4_; clear n0_ n1_ n2_ n3_ n4_; clear hb hbox hg; have hcz18_0 : w17.cell? ⟨gb235, 0, none⟩ = some (.int .i64 0) := (blk_cell BK235.out 0).trans rfl; have hcz18_1 : w17.cell? ⟨gb235, 1, none⟩ = some (.int .i64 0) := (blk_cell BK235.out 1).trans rfl; have hcz18_2 : w17.cell? ⟨gb235, 2, none⟩ = some (.int .i64 0) := (blk_cell BK235.out 2).trans rfl; have hcz18_3 : w17.cell? ⟨gb235, 3, none⟩ = some (.int .i64 0) := (blk_cell BK235.out 3).trans rfl; have hcz18_4 : w17.cell? ⟨gb235, 4, none⟩ = some (.slice none 0 0) := (blk_cell BK235.out 4).trans rfl; have hcz18_5 : w17.cell? ⟨gb235, 5, none⟩ = some (.bool false) := (blk_cell BK235.out 5).trans rfl; have hfz18_0 := blk_frozen BK235.out 0; have hfz18_1 := blk_frozen BK235.out 1; have hfz18_2 := blk_frozen BK235.out 2; have hfz18_3 := blk_frozen BK235.out 3; have hfz18_4 := blk_frozen BK235.out 4; have hfz18_5 := blk_frozen BK235.out 5))
              go_roundg k1
              case measure => have := HK1.out; omega
              case rel => exact ⟨(x5_1), (wrap64 (x11_1 + 1)), (by first | rfl | (simp; done) | (simp [*]; done)), H', ⟨by have := HK1.out; omega⟩, ⟨by (with_reducible repeat (first | apply Kd.R_alloc | apply Kd.R_drewN | apply Kd.R_drew)); exact Kd.R_mono (Kd.R_far (p := ⟨gb235, 5, none⟩) (Kd.R_far (p := ⟨gb235, 4, none⟩) (Kd.R_far (p := ⟨gb235, 3, none⟩) (Kd.R_far (p := ⟨gb235, 2, none⟩) (Kd.R_far (p := ⟨gb235, 1, none⟩) (Kd.R_far (p := ⟨gb235, 0, none⟩) (Kd.R_types HO_5.out BK235.out (by decide)) (fun _ hk => hk.2) (.int .i64 ((rd_T144 l0 x11_1).f0))) (fun _ hk => hk.2) (.int .i64 ((rd_T144 l0 x11_1).f1))) (fun _ hk => hk.2) (.int .i64 ((rd_T144 l0 x11_1).f2))) (fun _ hk => hk.2) (.int .i64 ((rd_T144 l0 x11_1).f3))) (fun _ hk => hk.2) (.slice A234_4 ((rd_T144 l0 x11_1).f4).length c234_4)) (fun _ hk => hk.2) (.bool ((rd_T144 l0 x11_1).f5))) (fun _ hk => trivial)⟩, ⟨by repeat (first | (with_reducible first | exact HB.out | apply below_alloc | apply pw_below_drewN | apply below_drew1 | refine below_set ?_ GE235.out) | exact HB.out)⟩⟩
          · rw [if_neg c7] at H
            exact absurd H (by simp)
        · rw [if_neg c6] at H
          exact absurd H (by simp)
      · rw [if_neg c5] at H
        have c5b0 : decide (x11_1 < (l0.length : Int)) = false := decide_eq_false c5
        clear c5
        obtain rfl := Option.some.inj H
        go_wp2
        go_ret
        exact ⟨_, by first | rfl | (simp [errW_none, errW_some] <;> rfl) | (simp [*, errW_none, errW_some] <;> rfl), by (with_reducible repeat (first | apply Kd.R_alloc | apply Kd.R_drewN | apply Kd.R_drew)); exact HO_5.out, by repeat (first | (with_reducible first | exact HB.out | apply below_alloc | apply pw_below_drewN | apply below_drew1) | exact HB.out)⟩

/-! ### impl_isEmergency: function 110 -/
def impl_isEmergency.f (k : Nat) (l0_0 : List Int) (l0_1 : List Int) (a0_2 : Int) (a1_0 : Int) (a1_1 : Int) (a1_2 : Int) (a1_3 : Int) (l1_4 : List Int) (a1_5 : Bool) (l2 : List (S144)) : Option (Bool) := if a1_0 = (wrap64 ((l2.length : Int) + 1)) then ((slices_Contains_int_int.f k l0_0 a1_1).bind fun t241 => (if t241 = true then ((impl_IsTime.f a1_2).bind fun t242 => (if t242 = true then (if (l2.length : Int) > 0 then (if 0 ≤ (wrap64 ((l2.length : Int) - 1)) then (if (wrap64 ((l2.length : Int) - 1)) < (l2.length : Int) then (if ((rd_T144 l2 (wrap64 ((l2.length : Int) - 1))).f2) > a1_2 then (some false) else ((impl_EndOf.f a1_2 a0_2).bind fun t244 => (if a1_3 = t244 then ((Go.Proofs.YtplfbjbbnjlnkaaH.idxO (fun x => cl159.f k x l0_0 l0_1 a0_2) l1_4 0).bind fun t245 => (if t245 ≥ 0 then (some false) else (if a1_5 = true then (some true) else ((impl_DebtsOf.f k l2 a1_1).bind fun t246 => (some ((t246.length : Int) == 0)))))) else (some false)))) else (none)) else (none)) else ((impl_EndOf.f a1_2 a0_2).bind fun t249 => (if a1_3 = t249 then ((Go.Proofs.YtplfbjbbnjlnkaaH.idxO (fun x => cl159.f k x l0_0 l0_1 a0_2) l1_4 0).bind fun t250 => (if t250 ≥ 0 then (some false) else (if a1_5 = true then (some true) else ((impl_DebtsOf.f k l2 a1_1).bind fun t251 => (some ((t251.length : Int) == 0)))))) else (some false)))) else (some false))) else (some false))) else (some false)
open Go.Proofs.YtplfbjbbnjlnkaaM in
set_option maxHeartbeats 8000000 in
set_option maxRecDepth 100000 in
theorem impl_isEmergency.calls (k : Nat) (A0_0 : Option Addr) (c0_0 : Nat) (l0_0 : List Int) (A0_1 : Option Addr) (c0_1 : Nat) (l0_1 : List Int) (a0_2 : Int) (a1_0 : Int) (a1_1 : Int) (a1_2 : Int) (a1_3 : Int) (A1_4 : Option Addr) (c1_4 : Nat) (l1_4 : List Int) (a1_5 : Bool) (A2 : Option Addr) (c2 : Nat) (l2 : List (S144)) (r : Bool) (w : World) (hr0_0 : Kd.C (Kd.int .i64) w A0_0 l0_0.length l0_0) (hc0_0 : l0_0.length ≤ c0_0) (hr0_1 : Kd.C (Kd.int .i64) w A0_1 l0_1.length l0_1) (hc0_1 : l0_1.length ≤ c0_1) (hr1_4 : Kd.C (Kd.int .i64) w A1_4 l1_4.length l1_4) (hc1_4 : l1_4.length ≤ c1_4) (hr2 : Kd.C k144 w A2 l2.length l2) (hc2 : l2.length ≤ c2) (h : impl_isEmergency.f k l0_0 l0_1 a0_2 a1_0 a1_1 a1_2 a1_3 l1_4 a1_5 l2 = some r) :
    Calls Try.prog 110 #[.agg #[.slice A0_0 l0_0.length c0_0, .slice A0_1 l0_1.length c0_1, .int .i64 a0_2], .agg #[.int .i64 a1_0, .int .i64 a1_1, .int .i64 a1_2, .int .i64 a1_3, .slice A1_4 l1_4.length c1_4, .bool a1_5], .slice A2 l2.length c2] w fun e w' => e = .returned (.bool r) ∧ Below w.heap.size w w' := by
  have HR0_0 := Aside0.mk hr0_0
  have HC0_0 := Aside0.mk hc0_0
  clear hr0_0 hc0_0
  have HR0_1 := Aside0.mk hr0_1
  have HC0_1 := Aside0.mk hc0_1
  clear hr0_1 hc0_1
  have HR1_4 := Aside0.mk hr1_4
  have HC1_4 := Aside0.mk hc1_4
  clear hr1_4 hc1_4
  have HR2 := Aside0.mk hr2
  have HC2 := Aside0.mk hc2
  clear hr2 hc2
  have HB := Aside0.mk (Below.refl w.heap.size w)
  have H := h
  clear h
  unfold impl_isEmergency.f at H
  have hu62 := Try.underlying62
  have hu144 := Try.underlying144
  go_enter Try.func110, Try.ntmps110
  replace H := Aside0.mk H
  go_upto_region 1 with (first | ((with_reducible refine gate_dst (N := 3) rfl ?_); refine box_event ?hg (N := 3) ?hd (cs := #[.slice A0_0 l0_0.length c0_0, .slice A0_1 l0_1.length c0_1, .int .i64 a0_2]) (t := 62) ?hr ?_; (case hd => rfl); (case hg => rfl); (case hr => first | (go_simp; done) | (go_simp; rfl)); intro gb1 hg W1 hbox hb; replace HB := bH HB hb; clear hb; have BK1 := Aside0.mk hbox; have c_BK1 := blk_cell hbox; have z_BK1 := blk_frozen hbox; clear hg hbox) | ((with_reducible refine gate_dst (N := 4) rfl ?_); refine box_event ?hg (N := 4) ?hd (cs := #[.int .i64 a1_0, .int .i64 a1_1, .int .i64 a1_2, .int .i64 a1_3, .slice A1_4 l1_4.length c1_4, .bool a1_5]) (t := 144) ?hr ?_; (case hd => rfl); (case hg => rfl); (case hr => first | (go_simp; done) | (go_simp; rfl)); intro gb2 hg W2 hbox hb; replace BK1 := bK BK1 hb; replace c_BK1 := blk_cell BK1.out; replace z_BK1 := blk_frozen BK1.out; replace HB := bH HB hb; clear hb; have BK2 := Aside0.mk hbox; have c_BK2 := blk_cell hbox; have z_BK2 := blk_frozen hbox; clear hg hbox))
  replace H := H.out
  replace H := Aside0.mk H
  try go_wp2
  clear c_BK1 z_BK1; have rBK1 := BK1; replace BK1 := dK BK1
  clear c_BK2 z_BK2; have rBK2 := BK2; replace BK2 := dK BK2
  have HBr := HB; replace HB := dH HB
  refine stA (n := 44) (S := fun w' => Below W2.heap.size W2 w') (by kernel_rfl) rfl (below_drew1 (Below.refl _ W2)) (by kernel_rfl) (fun hHeld => ?_)
  generalize W2.drew = W3 at HB BK1 BK2 hHeld ⊢
  replace H := H.out
  replace H := Aside0.mk H
  refine pu 0 (some 10) 1 ?_; refine pu 2 (some 12) 5 ?_; refine pu 3 (some 13) 13 ?_; refine ld 1 (some 11) 15 hHeld ?_ (hr := by (intro w' h_; have y_ := kD rBK2 h_; go_simp; with_reducible rfl))
  replace H := H.out
  by_cases c4 : a1_0 = (wrap64 ((l2.length : Int) + 1))
  · rw [if_pos c4] at H
    have c4_0 := decT c4; have c4_1 := eqT c4; have c4_2 := neT c4
    clear c4
    first | rw [c4_1] | rw [c4_2] | skip
    replace H := Option.bind_eq_some_iff.mp H
    obtain ⟨t241, hm, H⟩ := H
    try dsimp only at H
    replace hm := Aside0.mk hm
    replace H := Aside0.mk H
    refine pu 4 (some 14) 31 ?_; refine pu 5 (some 15) 63 ?_; refine pu 6 (some 16) 127 ?_; refine pu 8 (some 18) 383 ?_; refine ld 7 (some 17) 511 hHeld ?_ (hr := by (intro w' h_; have y_ := kD rBK1 h_; go_simp; with_reducible rfl)); refine ld 9 (some 19) 1023 hHeld ?_ (hr := by (intro w' h_; have y_ := kD rBK2 h_; go_simp; with_reducible rfl))
    replace H := H.out
    replace H := Aside0.mk H
    refine on 10 (some 20) 2047 (fun K hK => ?_)
    have hcall := slices_Contains_int_int.calls k _ _ _ _ _ W3 (Kd.C_below HR0_0.out HB.out) HC0_0.out hm.out
    refine goes_ Try.func116 (by kernel_rfl) rfl #[.slice A0_0 l0_0.length c0_0, .int .i64 a1_1] (by rfl) rfl rfl (by (try simp only [List.map_toArray, List.map_cons, List.map_nil]); first | done | rfl) ?_
    refine hcall.mono ?_
    rintro e W6 ⟨rfl, hd⟩
    refine ⟨_, rfl, ?_⟩
    clear hcall hm
    have hb : Below W3.heap.size W3 W6 := hd.below; clear hd
    replace hHeld := below_step hHeld hb
    replace BK1 := bK BK1 hb
    replace BK2 := bK BK2 hb
    replace HB := bH HB hb; clear hb
    refine hK.out _ _ hHeld (fun hHeld => ?_)
    clear hK K
    refine nr 20 ?_
    replace H := H.out
    by_cases c7 : t241 = true
    · rw [if_pos c7] at H
      subst c7
      replace H := Option.bind_eq_some_iff.mp H
      obtain ⟨t242, hm, H⟩ := H
      try dsimp only at H
      replace hm := Aside0.mk hm
      replace H := Aside0.mk H
      refine pu 11 (some 21) 4095 ?_; refine pu 12 (some 22) 8191 ?_; refine pu 13 (some 23) 16383 ?_; refine pu 14 (some 24) 32767 ?_; refine ld 15 (some 25) 65535 hHeld ?_ (hr := by (intro w' h_; have y_ := kD rBK2 h_; go_simp; with_reducible rfl))
      replace H := H.out
      replace H := Aside0.mk H
      refine on 16 (some 26) 131071 (fun K hK => ?_)
      have hcall := impl_IsTime.calls _ _ W6  hm.out
      refine goes_ Try.func149 (by kernel_rfl) rfl #[.int .i64 a1_2] (by rfl) rfl rfl (by (try simp only [List.map_toArray, List.map_cons, List.map_nil]); first | done | rfl) ?_
      refine hcall.mono ?_
      rintro e W9 ⟨rfl, hb⟩
      refine ⟨_, rfl, ?_⟩
      clear hcall hm
      replace hHeld := below_step hHeld hb
      replace BK1 := bK BK1 hb
      replace BK2 := bK BK2 hb
      replace HB := bH HB hb; clear hb
      refine hK.out _ _ hHeld (fun hHeld => ?_)
      clear hK K
      refine nr 26 ?_
      replace H := H.out
      by_cases c10 : t242 = true
      · rw [if_pos c10] at H
        subst c10
        by_cases c11 : (l2.length : Int) > 0
        · rw [if_pos c11] at H
          have c11_x0 : decide (0 < l2.length) = true := decide_eq_true (by omega)
          replace c11 : 0 < (l2.length : Int) := c11
          have c11_0 := decT c11
          replace c11 := Aside0.mk c11
          first | rw [c11_0] | skip
          by_cases c12 : 0 ≤ (wrap64 ((l2.length : Int) - 1))
          · rw [if_pos c12] at H
            have c12_0 := decT c12
            replace c12 := Aside0.mk c12
            first | rw [c12_0] | skip
            by_cases c13 : (wrap64 ((l2.length : Int) - 1)) < (l2.length : Int)
            · rw [if_pos c13] at H
              have c13_0 := decT c13
              replace c13 := Aside0.mk c13
              first | rw [c13_0] | skip
              have p243 : 0 ≤ ((wrap64 ((l2.length : Int) - 1)) : Int) := (of_decide_eq_true (by assumption))
              have q243 : (wrap64 ((l2.length : Int) - 1)) < (l2.length : Int) := (of_decide_eq_true (by assumption))
              obtain ⟨ad243, A243_4, c243_4, e243, hx243_0, hx243_1, hx243_2, hx243_3, hx243_4, hx243_5, hl243_4, hi243_4⟩ := at_T144 HR2.out (wrap64 ((l2.length : Int) - 1)) p243 q243
              cases e243
              have HR243_4 := Aside0.mk hi243_4; have HC243_4 := Aside0.mk hl243_4; clear hi243_4 hl243_4
              replace hx243_0 := Aside0.mk hx243_0
              replace hx243_1 := Aside0.mk hx243_1
              replace hx243_2 := Aside0.mk hx243_2
              replace hx243_3 := Aside0.mk hx243_3
              replace hx243_4 := Aside0.mk hx243_4
              replace hx243_5 := Aside0.mk hx243_5
              have r243 := eq_true p243; have s243 := eq_true q243
              replace p243 := Aside0.mk p243; replace q243 := Aside0.mk q243
              by_cases c14 : ((rd_T144 l2 (wrap64 ((l2.length : Int) - 1))).f2) > a1_2
              · rw [if_pos c14] at H
                replace c14 : a1_2 < ((rd_T144 l2 (wrap64 ((l2.length : Int) - 1))).f2) := c14
                have c14_0 := decT c14
                replace c14 := Aside0.mk c14
                first | rw [c14_0] | skip
                replace H := Aside0.mk H
                refine pu 17 (some 27) 262143 ?_; refine pu 18 (some 28) 524287 ?_; refine pu 19 (some 29) 1048575 ?_; refine pu 20 (some 30) 2097151 ?_; refine pu 21 (some 31) 4194303 ?_; refine pu 22 (some 32) 8388607 ?_; refine pu 23 (some 33) 16777215 ?_; refine pu 24 (some 34) 33554431 ?_; refine pu 25 (some 35) 67108863 ?_; refine pu 26 (some 36) 134217727 ?_; refine pu 27 (some 37) 268435455 ?_; refine pu 29 (some 39) 805306367 ?_; refine ld 28 (some 38) 1073741823 hHeld ?_ (hr := by (intro w' h_; have y0_ := xD HBr h_ hx243_0; have y1_ := xD HBr h_ hx243_1; have y2_ := xD HBr h_ hx243_2; have y3_ := xD HBr h_ hx243_3; have y4_ := xD HBr h_ hx243_4; have y5_ := xD HBr h_ hx243_5; go_simp; with_reducible rfl)); refine ld 30 (some 40) 2147483647 hHeld ?_ (hr := by (intro w' h_; have y_ := kD rBK2 h_; go_simp; with_reducible rfl)); refine pu 31 (some 41) 4294967295 ?_; refine pu 32 (some 42) 8589934591 ?_; refine pu 33 (some 43) 17179869183 ?_; refine pu 34 (some 44) 34359738367 ?_; refine sk 35 (some 45) 68719476735 ?_; refine sk 36 (some 46) 137438953471 ?_; refine sk 37 (some 47) 274877906943 ?_; refine sk 38 (some 48) 549755813887 ?_; refine sk 39 (some 49) 1099511627775 ?_; refine sk 40 (some 50) 2199023255551 ?_; refine sk 41 (some 51) 4398046511103 ?_; refine sk 42 (some 52) 8796093022207 ?_; refine pu 43 (some 53) 17592186044415 ?_
                replace H := H.out
                replace H := Aside0.mk H
                refine dn (by kernel_rfl) ?_
                clear hHeld HBr rBK1 rBK2
                have c_BK1 := blk_cell BK1.out; have z_BK1 := blk_frozen BK1.out
                have c_BK2 := blk_cell BK2.out; have z_BK2 := blk_frozen BK2.out
                replace H := H.out
                obtain rfl := Option.some.inj H
                clear H
                go_wp2
                go_ret
                exact ⟨rfl, HB.out⟩
              · rw [if_neg c14] at H
                replace c14 : ¬ (a1_2 < ((rd_T144 l2 (wrap64 ((l2.length : Int) - 1))).f2)) := c14
                have c14_0 := decF c14
                replace c14 := Aside0.mk c14
                first | rw [c14_0] | skip
                replace H := Option.bind_eq_some_iff.mp H
                obtain ⟨t244, hm, H⟩ := H
                try dsimp only at H
                replace hm := Aside0.mk hm
                replace H := Aside0.mk H
                refine pu 17 (some 27) 262143 ?_; refine pu 18 (some 28) 524287 ?_; refine pu 19 (some 29) 1048575 ?_; refine pu 20 (some 30) 2097151 ?_; refine pu 21 (some 31) 4194303 ?_; refine pu 22 (some 32) 8388607 ?_; refine pu 23 (some 33) 16777215 ?_; refine pu 24 (some 34) 33554431 ?_; refine pu 25 (some 35) 67108863 ?_; refine pu 26 (some 36) 134217727 ?_; refine pu 27 (some 37) 268435455 ?_; refine pu 29 (some 39) 805306367 ?_; refine ld 28 (some 38) 1073741823 hHeld ?_ (hr := by (intro w' h_; have y0_ := xD HBr h_ hx243_0; have y1_ := xD HBr h_ hx243_1; have y2_ := xD HBr h_ hx243_2; have y3_ := xD HBr h_ hx243_3; have y4_ := xD HBr h_ hx243_4; have y5_ := xD HBr h_ hx243_5; go_simp; with_reducible rfl)); refine ld 30 (some 40) 2147483647 hHeld ?_ (hr := by (intro w' h_; have y_ := kD rBK2 h_; go_simp; with_reducible rfl)); refine pu 31 (some 41) 4294967295 ?_; refine pu 32 (some 42) 8589934591 ?_; refine pu 33 (some 43) 17179869183 ?_; refine pu 34 (some 44) 34359738367 ?_; refine pu 35 (some 45) 68719476735 ?_; refine pu 37 (some 47) 206158430207 ?_; refine pu 39 (some 49) 755914244095 ?_; refine ld 36 (some 46) 824633720831 hHeld ?_ (hr := by (intro w' h_; have y_ := kD rBK2 h_; go_simp; with_reducible rfl)); refine ld 38 (some 48) 1099511627775 hHeld ?_ (hr := by (intro w' h_; have y_ := kD rBK2 h_; go_simp; with_reducible rfl)); refine ld 40 (some 50) 2199023255551 hHeld ?_ (hr := by (intro w' h_; have y_ := kD rBK1 h_; go_simp; with_reducible rfl))
                replace H := H.out
                replace H := Aside0.mk H
                refine on 41 (some 51) 4398046511103 (fun K hK => ?_)
                have hcall := impl_EndOf.calls _ _ _ W9  hm.out
                refine goes_ Try.func127 (by kernel_rfl) rfl #[.int .i64 a1_2, .int .i64 a0_2] (by rfl) rfl rfl (by (try simp only [List.map_toArray, List.map_cons, List.map_nil]); first | done | rfl) ?_
                refine hcall.mono ?_
                rintro e W16 ⟨rfl, hb⟩
                refine ⟨_, rfl, ?_⟩
                clear hcall hm
                replace hHeld := below_step hHeld hb
                replace BK1 := bK BK1 hb
                replace BK2 := bK BK2 hb
                replace HB := bH HB hb; clear hb
                refine hK.out _ _ hHeld (fun hHeld => ?_)
                clear hK K
                refine nr 51 ?_
                replace H := H.out
                replace H := Aside0.mk H
                refine pu 42 (some 52) 8796093022207 ?_; refine pu 43 (some 53) 17592186044415 ?_
                replace H := H.out
                replace H := Aside0.mk H
                refine dn (by kernel_rfl) ?_
                clear hHeld HBr rBK1 rBK2
                have c_BK1 := blk_cell BK1.out; have z_BK1 := blk_frozen BK1.out
                have c_BK2 := blk_cell BK2.out; have z_BK2 := blk_frozen BK2.out
                replace H := H.out
                by_cases c17 : a1_3 = t244
                · rw [if_pos c17] at H
                  have c17_0 := decT c17; have c17_1 := eqT c17; have c17_2 := neT c17
                  clear c17
                  first | rw [c17_1] | rw [c17_2] | skip
                  replace H := Option.bind_eq_some_iff.mp H
                  obtain ⟨t245, hm, H⟩ := H
                  try dsimp only at H
                  replace hm := Aside0.mk hm
                  replace H := Aside0.mk H
                  have eg : ∀ args w, (callFunc 159 args).run Try.prog w = .ok (.enter 159 args) w := Go.Proofs.YtplfbjbbnjlnkaaH.enters Try.func159 (by kernel_rfl) rfl
                  have hcall := ctf158.calls 159 #[.pointer (some ⟨gb1, 0, none⟩)] eg _ _ _ _ _ W16 (fun W_ x_  b_ hW_  hp_ => cl159.calls k _ _ _ _ _ _ _ _ gb1 b_ W16 W_ BK1.out (Kd.C_below HR0_0.out HB.out) HC0_0.out (Kd.C_below HR0_1.out HB.out) HC0_1.out  hW_ hp_) (Kd.C_below HR1_4.out HB.out) HC1_4.out hm.out
                  clear hm
                  go_wp2_with fail
                  refine hcall.mono ?_
                  rintro e W18 ⟨rfl, hb⟩
                  clear hcall eg
                  replace BK1 := bK BK1 hb; replace c_BK1 := blk_cell BK1.out; replace z_BK1 := blk_frozen BK1.out
                  replace BK2 := bK BK2 hb; replace c_BK2 := blk_cell BK2.out; replace z_BK2 := blk_frozen BK2.out
                  replace HB := bH HB hb; clear hb
                  replace H := H.out
                  by_cases c19 : t245 ≥ 0
                  · rw [if_pos c19] at H
                    replace c19 : 0 ≤ t245 := c19
                    have c19_0 := decT c19
                    replace c19 := Aside0.mk c19
                    first | rw [c19_0] | skip
                    obtain rfl := Option.some.inj H
                    clear H
                    go_wp2
                    go_ret
                    exact ⟨rfl, HB.out⟩
                  · rw [if_neg c19] at H
                    replace c19 : ¬ (0 ≤ t245) := c19
                    have c19_0 := decF c19
                    replace c19 := Aside0.mk c19
                    first | rw [c19_0] | skip
                    by_cases c20 : a1_5 = true
                    · rw [if_pos c20] at H
                      try rw [c20]
                      obtain rfl := Option.some.inj H
                      clear H
                      go_wp2
                      go_ret
                      exact ⟨rfl, HB.out⟩
                    · rw [if_neg c20] at H
                      replace c20 := (Bool.not_eq_true _).mp c20
                      try rw [c20]
                      replace H := Option.bind_eq_some_iff.mp H
                      obtain ⟨t246, hm, H⟩ := H
                      try dsimp only at H
                      replace H := Aside0.mk H
                      have hcall := impl_DebtsOf.calls k _ _ _ _ _ W18 (Kd.C_below HR2.out HB.out) HC2.out hm
                      clear hm
                      go_wp2_with fail
                      refine hcall.mono ?_
                      rintro e W21 ⟨v247, rfl, ho0, hb⟩
                      clear hcall
                      obtain ⟨A21_0, _, c21_0, rfl, rfl, hr_⟩ := R_made ho0 HB.out.size; clear ho0; have HO21_0 := Aside0.mk hr_; clear hr_
                      replace BK1 := bK BK1 hb; replace c_BK1 := blk_cell BK1.out; replace z_BK1 := blk_frozen BK1.out
                      replace BK2 := bK BK2 hb; replace c_BK2 := blk_cell BK2.out; replace z_BK2 := blk_frozen BK2.out
                      replace HB := bH HB hb; clear hb
                      replace H := H.out
                      obtain rfl := Option.some.inj H
                      clear H
                      go_wp2
                      go_ret
                      exact ⟨rfl, HB.out⟩
                · rw [if_neg c17] at H
                  have c17_0 := decF c17; have c17_1 := eqF c17; have c17_2 := neF c17
                  clear c17
                  first | rw [c17_1] | rw [c17_2] | skip
                  obtain rfl := Option.some.inj H
                  clear H
                  go_wp2
                  go_ret
                  exact ⟨rfl, HB.out⟩
            · rw [if_neg c13] at H
              cases H
          · rw [if_neg c12] at H
            cases H
        · rw [if_neg c11] at H
          have c11_x0 : decide (0 < l2.length) = false := decide_eq_false (by omega)
          replace c11 : ¬ (0 < (l2.length : Int)) := c11
          have c11_0 := decF c11
          replace c11 := Aside0.mk c11
          first | rw [c11_0] | skip
          replace H := Option.bind_eq_some_iff.mp H
          obtain ⟨t249, hm, H⟩ := H
          try dsimp only at H
          replace hm := Aside0.mk hm
          replace H := Aside0.mk H
          refine pu 17 (some 27) 262143 ?_; refine pu 18 (some 28) 524287 ?_; refine pu 19 (some 29) 1048575 ?_; refine pu 20 (some 30) 2097151 ?_; refine pu 21 (some 31) 4194303 ?_; refine pu 22 (some 32) 8388607 ?_; refine sk 23 (some 33) 16777215 ?_; refine sk 24 (some 34) 33554431 ?_; refine sk 25 (some 35) 67108863 ?_; refine sk 26 (some 36) 134217727 ?_; refine sk 27 (some 37) 268435455 ?_; refine sk 28 (some 38) 536870911 ?_; refine sk 29 (some 39) 1073741823 ?_; refine sk 30 (some 40) 2147483647 ?_; refine sk 31 (some 41) 4294967295 ?_; refine pu 32 (some 42) 8589934591 ?_; refine pu 33 (some 43) 17179869183 ?_; refine pu 34 (some 44) 34359738367 ?_; refine pu 35 (some 45) 68719476735 ?_; refine pu 37 (some 47) 206158430207 ?_; refine pu 39 (some 49) 755914244095 ?_; refine ld 36 (some 46) 824633720831 hHeld ?_ (hr := by (intro w' h_; have y_ := kD rBK2 h_; go_simp; with_reducible rfl)); refine ld 38 (some 48) 1099511627775 hHeld ?_ (hr := by (intro w' h_; have y_ := kD rBK2 h_; go_simp; with_reducible rfl)); refine ld 40 (some 50) 2199023255551 hHeld ?_ (hr := by (intro w' h_; have y_ := kD rBK1 h_; go_simp; with_reducible rfl))
          replace H := H.out
          replace H := Aside0.mk H
          refine on 41 (some 51) 4398046511103 (fun K hK => ?_)
          have hcall := impl_EndOf.calls _ _ _ W9  hm.out
          refine goes_ Try.func127 (by kernel_rfl) rfl #[.int .i64 a1_2, .int .i64 a0_2] (by rfl) rfl rfl (by (try simp only [List.map_toArray, List.map_cons, List.map_nil]); first | done | rfl) ?_
          refine hcall.mono ?_
          rintro e W23 ⟨rfl, hb⟩
          refine ⟨_, rfl, ?_⟩
          clear hcall hm
          replace hHeld := below_step hHeld hb
          replace BK1 := bK BK1 hb
          replace BK2 := bK BK2 hb
          replace HB := bH HB hb; clear hb
          refine hK.out _ _ hHeld (fun hHeld => ?_)
          clear hK K
          refine nr 51 ?_
          replace H := H.out
          replace H := Aside0.mk H
          refine pu 42 (some 52) 8796093022207 ?_; refine pu 43 (some 53) 17592186044415 ?_
          replace H := H.out
          replace H := Aside0.mk H
          refine dn (by kernel_rfl) ?_
          clear hHeld HBr rBK1 rBK2
          have c_BK1 := blk_cell BK1.out; have z_BK1 := blk_frozen BK1.out
          have c_BK2 := blk_cell BK2.out; have z_BK2 := blk_frozen BK2.out
          replace H := H.out
          by_cases c24 : a1_3 = t249
          · rw [if_pos c24] at H
            have c24_0 := decT c24; have c24_1 := eqT c24; have c24_2 := neT c24
            clear c24
            first | rw [c24_1] | rw [c24_2] | skip
            replace H := Option.bind_eq_some_iff.mp H
            obtain ⟨t250, hm, H⟩ := H
            try dsimp only at H
            replace hm := Aside0.mk hm
            replace H := Aside0.mk H
            have eg : ∀ args w, (callFunc 159 args).run Try.prog w = .ok (.enter 159 args) w := Go.Proofs.YtplfbjbbnjlnkaaH.enters Try.func159 (by kernel_rfl) rfl
            have hcall := ctf158.calls 159 #[.pointer (some ⟨gb1, 0, none⟩)] eg _ _ _ _ _ W23 (fun W_ x_  b_ hW_  hp_ => cl159.calls k _ _ _ _ _ _ _ _ gb1 b_ W23 W_ BK1.out (Kd.C_below HR0_0.out HB.out) HC0_0.out (Kd.C_below HR0_1.out HB.out) HC0_1.out  hW_ hp_) (Kd.C_below HR1_4.out HB.out) HC1_4.out hm.out
            clear hm
            go_wp2_with fail
            refine hcall.mono ?_
            rintro e W25 ⟨rfl, hb⟩
            clear hcall eg
            replace BK1 := bK BK1 hb; replace c_BK1 := blk_cell BK1.out; replace z_BK1 := blk_frozen BK1.out
            replace BK2 := bK BK2 hb; replace c_BK2 := blk_cell BK2.out; replace z_BK2 := blk_frozen BK2.out
            replace HB := bH HB hb; clear hb
            replace H := H.out
            by_cases c26 : t250 ≥ 0
            · rw [if_pos c26] at H
              replace c26 : 0 ≤ t250 := c26
              have c26_0 := decT c26
              replace c26 := Aside0.mk c26
              first | rw [c26_0] | skip
              obtain rfl := Option.some.inj H
              clear H
              go_wp2
              go_ret
              exact ⟨rfl, HB.out⟩
            · rw [if_neg c26] at H
              replace c26 : ¬ (0 ≤ t250) := c26
              have c26_0 := decF c26
              replace c26 := Aside0.mk c26
              first | rw [c26_0] | skip
              by_cases c27 : a1_5 = true
              · rw [if_pos c27] at H
                try rw [c27]
                obtain rfl := Option.some.inj H
                clear H
                go_wp2
                go_ret
                exact ⟨rfl, HB.out⟩
              · rw [if_neg c27] at H
                replace c27 := (Bool.not_eq_true _).mp c27
                try rw [c27]
                replace H := Option.bind_eq_some_iff.mp H
                obtain ⟨t251, hm, H⟩ := H
                try dsimp only at H
                replace H := Aside0.mk H
                have hcall := impl_DebtsOf.calls k _ _ _ _ _ W25 (Kd.C_below HR2.out HB.out) HC2.out hm
                clear hm
                go_wp2_with fail
                refine hcall.mono ?_
                rintro e W28 ⟨v252, rfl, ho0, hb⟩
                clear hcall
                obtain ⟨A28_0, _, c28_0, rfl, rfl, hr_⟩ := R_made ho0 HB.out.size; clear ho0; have HO28_0 := Aside0.mk hr_; clear hr_
                replace BK1 := bK BK1 hb; replace c_BK1 := blk_cell BK1.out; replace z_BK1 := blk_frozen BK1.out
                replace BK2 := bK BK2 hb; replace c_BK2 := blk_cell BK2.out; replace z_BK2 := blk_frozen BK2.out
                replace HB := bH HB hb; clear hb
                replace H := H.out
                obtain rfl := Option.some.inj H
                clear H
                go_wp2
                go_ret
                exact ⟨rfl, HB.out⟩
          · rw [if_neg c24] at H
            have c24_0 := decF c24; have c24_1 := eqF c24; have c24_2 := neF c24
            clear c24
            first | rw [c24_1] | rw [c24_2] | skip
            obtain rfl := Option.some.inj H
            clear H
            go_wp2
            go_ret
            exact ⟨rfl, HB.out⟩
      · rw [if_neg c10] at H
        replace c10 := (Bool.not_eq_true _).mp c10
        subst c10
        replace H := Aside0.mk H
        refine pu 17 (some 27) 262143 ?_; refine pu 18 (some 28) 524287 ?_; refine pu 19 (some 29) 1048575 ?_; refine sk 20 (some 30) 2097151 ?_; refine sk 21 (some 31) 4194303 ?_; refine sk 22 (some 32) 8388607 ?_; refine sk 23 (some 33) 16777215 ?_; refine sk 24 (some 34) 33554431 ?_; refine sk 25 (some 35) 67108863 ?_; refine sk 26 (some 36) 134217727 ?_; refine sk 27 (some 37) 268435455 ?_; refine sk 28 (some 38) 536870911 ?_; refine sk 29 (some 39) 1073741823 ?_; refine sk 30 (some 40) 2147483647 ?_; refine sk 31 (some 41) 4294967295 ?_; refine sk 32 (some 42) 8589934591 ?_; refine pu 33 (some 43) 17179869183 ?_; refine pu 34 (some 44) 34359738367 ?_; refine sk 35 (some 45) 68719476735 ?_; refine sk 36 (some 46) 137438953471 ?_; refine sk 37 (some 47) 274877906943 ?_; refine sk 38 (some 48) 549755813887 ?_; refine sk 39 (some 49) 1099511627775 ?_; refine sk 40 (some 50) 2199023255551 ?_; refine sk 41 (some 51) 4398046511103 ?_; refine sk 42 (some 52) 8796093022207 ?_; refine pu 43 (some 53) 17592186044415 ?_
        replace H := H.out
        replace H := Aside0.mk H
        refine dn (by kernel_rfl) ?_
        clear hHeld HBr rBK1 rBK2
        have c_BK1 := blk_cell BK1.out; have z_BK1 := blk_frozen BK1.out
        have c_BK2 := blk_cell BK2.out; have z_BK2 := blk_frozen BK2.out
        replace H := H.out
        obtain rfl := Option.some.inj H
        clear H
        go_wp2
        go_ret
        exact ⟨rfl, HB.out⟩
    · rw [if_neg c7] at H
      replace c7 := (Bool.not_eq_true _).mp c7
      subst c7
      replace H := Aside0.mk H
      refine pu 11 (some 21) 4095 ?_; refine pu 12 (some 22) 8191 ?_; refine pu 13 (some 23) 16383 ?_; refine sk 14 (some 24) 32767 ?_; refine sk 15 (some 25) 65535 ?_; refine sk 16 (some 26) 131071 ?_; refine sk 17 (some 27) 262143 ?_; refine pu 18 (some 28) 524287 ?_; refine pu 19 (some 29) 1048575 ?_; refine sk 20 (some 30) 2097151 ?_; refine sk 21 (some 31) 4194303 ?_; refine sk 22 (some 32) 8388607 ?_; refine sk 23 (some 33) 16777215 ?_; refine sk 24 (some 34) 33554431 ?_; refine sk 25 (some 35) 67108863 ?_; refine sk 26 (some 36) 134217727 ?_; refine sk 27 (some 37) 268435455 ?_; refine sk 28 (some 38) 536870911 ?_; refine sk 29 (some 39) 1073741823 ?_; refine sk 30 (some 40) 2147483647 ?_; refine sk 31 (some 41) 4294967295 ?_; refine sk 32 (some 42) 8589934591 ?_; refine pu 33 (some 43) 17179869183 ?_; refine pu 34 (some 44) 34359738367 ?_; refine sk 35 (some 45) 68719476735 ?_; refine sk 36 (some 46) 137438953471 ?_; refine sk 37 (some 47) 274877906943 ?_; refine sk 38 (some 48) 549755813887 ?_; refine sk 39 (some 49) 1099511627775 ?_; refine sk 40 (some 50) 2199023255551 ?_; refine sk 41 (some 51) 4398046511103 ?_; refine sk 42 (some 52) 8796093022207 ?_; refine pu 43 (some 53) 17592186044415 ?_
      replace H := H.out
      replace H := Aside0.mk H
      refine dn (by kernel_rfl) ?_
      clear hHeld HBr rBK1 rBK2
      have c_BK1 := blk_cell BK1.out; have z_BK1 := blk_frozen BK1.out
      have c_BK2 := blk_cell BK2.out; have z_BK2 := blk_frozen BK2.out
      replace H := H.out
      obtain rfl := Option.some.inj H
      clear H
      go_wp2
      go_ret
      exact ⟨rfl, HB.out⟩
  · rw [if_neg c4] at H
    have c4_0 := decF c4; have c4_1 := eqF c4; have c4_2 := neF c4
    clear c4
    first | rw [c4_1] | rw [c4_2] | skip
    replace H := Aside0.mk H
    refine pu 4 (some 14) 31 ?_; refine pu 5 (some 15) 63 ?_; refine sk 6 (some 16) 127 ?_; refine sk 7 (some 17) 255 ?_; refine sk 8 (some 18) 511 ?_; refine sk 9 (some 19) 1023 ?_; refine sk 10 (some 20) 2047 ?_; refine sk 11 (some 21) 4095 ?_; refine pu 12 (some 22) 8191 ?_; refine pu 13 (some 23) 16383 ?_; refine sk 14 (some 24) 32767 ?_; refine sk 15 (some 25) 65535 ?_; refine sk 16 (some 26) 131071 ?_; refine sk 17 (some 27) 262143 ?_; refine pu 18 (some 28) 524287 ?_; refine pu 19 (some 29) 1048575 ?_; refine sk 20 (some 30) 2097151 ?_; refine sk 21 (some 31) 4194303 ?_; refine sk 22 (some 32) 8388607 ?_; refine sk 23 (some 33) 16777215 ?_; refine sk 24 (some 34) 33554431 ?_; refine sk 25 (some 35) 67108863 ?_; refine sk 26 (some 36) 134217727 ?_; refine sk 27 (some 37) 268435455 ?_; refine sk 28 (some 38) 536870911 ?_; refine sk 29 (some 39) 1073741823 ?_; refine sk 30 (some 40) 2147483647 ?_; refine sk 31 (some 41) 4294967295 ?_; refine sk 32 (some 42) 8589934591 ?_; refine pu 33 (some 43) 17179869183 ?_; refine pu 34 (some 44) 34359738367 ?_; refine sk 35 (some 45) 68719476735 ?_; refine sk 36 (some 46) 137438953471 ?_; refine sk 37 (some 47) 274877906943 ?_; refine sk 38 (some 48) 549755813887 ?_; refine sk 39 (some 49) 1099511627775 ?_; refine sk 40 (some 50) 2199023255551 ?_; refine sk 41 (some 51) 4398046511103 ?_; refine sk 42 (some 52) 8796093022207 ?_; refine pu 43 (some 53) 17592186044415 ?_
    replace H := H.out
    replace H := Aside0.mk H
    refine dn (by kernel_rfl) ?_
    clear hHeld HBr rBK1 rBK2
    have c_BK1 := blk_cell BK1.out; have z_BK1 := blk_frozen BK1.out
    have c_BK2 := blk_cell BK2.out; have z_BK2 := blk_frozen BK2.out
    replace H := H.out
    obtain rfl := Option.some.inj H
    clear H
    go_wp2
    go_ret
    exact ⟨rfl, HB.out⟩

end Go.Proofs.Ytplfbjbbnjlnkaa.QFnExactDeclareEmergency
