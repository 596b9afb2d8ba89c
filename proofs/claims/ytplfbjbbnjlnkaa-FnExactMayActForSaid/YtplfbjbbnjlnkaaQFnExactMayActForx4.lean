/- The machine side of FnExactMayActFor: what each function that it reaches computes, and that the machine's call gives just that. -/
import Derived.Test.YtplfbjbbnjlnkaaQFnExactMayActForx0
import Derived.Test.YtplfbjbbnjlnkaaQFnExactMayActForx2
import Derived.Test.YtplfbjbbnjlnkaaQFnExactMayActForx3
namespace Go.Proofs.Ytplfbjbbnjlnkaa.QFnExactMayActFor
open Go.RowKit Go.Proofs.YtplfbjbbnjlnkaaW.PrintWords Go.Proofs.YtplfbjbbnjlnkaaW.PrintLast Go.Proofs.YtplfbjbbnjlnkaaW.PrintMore
attribute [local go_sem] max2_int min2_int max_two min_two max_three min_three max_four min_four   -- for this text's walks alone
set_option linter.unusedVariables false
set_option linter.unusedSimpArgs false

/-! ### spec_l30Under: function 106 -/
def spec_l30Under.l0 : Nat → List Int → List Int → Int → Option (Bool)
  | 0, _, _, _ => none
  | k + 1, x0, x1, x5 => if x5 < (x0.length : Int) then (if 0 ≤ x5 then ((spec_l13Has.f k x1 (rd x0 x5)).bind fun t150 => (if t150 = true then (spec_l30Under.l0 k x0 x1 (wrap64 (x5 + 1))) else (some false))) else (none)) else (some true)
def spec_l30Under.f (k : Nat) (l0 : List Int) (l1 : List Int) : Option (Bool) := spec_l30Under.l0 k l0 l1 0
theorem spec_l30Under.mono_l : ∀ k, (∀ y0 y1 y2, LeO (spec_l30Under.l0 k y0 y1 y2) (spec_l30Under.l0 (k + 1) y0 y1 y2))
  | 0 => fun _ _ _ r h => by simp [spec_l30Under.l0] at h
  | k + 1 => by
    have ih0 := spec_l30Under.mono_l k
    · intro y0 y1 y2
      unfold spec_l30Under.l0
      repeat' first
      | (with_reducible exact ih0 _ _ _)
      | (with_reducible exact spec_l13Has.mono _ _ _)
      | (with_reducible exact LeO.refl _)
      | (with_reducible exact LeO.none _)
      | (with_reducible refine LeO.ite ?_ ?_)
      | (with_reducible refine LeO.bind ?_ (fun _ => ?_))
      | exact ih0 _ _ _
      | exact spec_l13Has.mono _ _ _
      | exact LeO.none _
      | refine LeO.ite ?_ ?_
      | refine LeO.bind ?_ (fun _ => ?_)
theorem spec_l30Under.mono : ∀ a0 a1 k, LeO (spec_l30Under.f k a0 a1) (spec_l30Under.f (k + 1) a0 a1) := by
  intro a0 a1 k
  have ih0 := spec_l30Under.mono_l k
  unfold spec_l30Under.f
  repeat' first
      | (with_reducible exact ih0 _ _ _)
      | (with_reducible exact spec_l13Has.mono _ _ _)
      | (with_reducible exact LeO.refl _)
      | (with_reducible exact LeO.none _)
      | (with_reducible refine LeO.ite ?_ ?_)
      | (with_reducible refine LeO.bind ?_ (fun _ => ?_))
      | exact ih0 _ _ _
      | exact spec_l13Has.mono _ _ _
      | exact LeO.none _
      | refine LeO.ite ?_ ?_
      | refine LeO.bind ?_ (fun _ => ?_)
set_option maxHeartbeats 8000000 in
set_option maxRecDepth 100000 in
theorem spec_l30Under.calls (k : Nat) (A0 : Option Addr) (c0 : Nat) (l0 : List Int) (A1 : Option Addr) (c1 : Nat) (l1 : List Int) (r : Bool) (w : World) (hr0 : Kd.C (Kd.int .i64) w A0 l0.length l0) (hc0 : l0.length ≤ c0) (hr1 : Kd.C (Kd.int .i64) w A1 l1.length l1) (hc1 : l1.length ≤ c1) (h : spec_l30Under.f k l0 l1 = some r) :
    Calls Try.prog 106 #[.slice A0 l0.length c0, .slice A1 l1.length c1] w fun e w' => e = .returned (.bool r) ∧ Drawn0 w w' := by
  have HR0 := Aside0.mk hr0
  have HC0 := Aside0.mk hc0
  clear hr0 hc0
  have HR1 := Aside0.mk hr1
  have HC1 := Aside0.mk hc1
  clear hr1 hc1
  have H : (spec_l30Under.l0 k l0 l1 0) = some r := h
  clear h
  have H' := Aside0.mk H
  clear H
  go_enter Try.func106, Try.ntmps106
  go_wp2
  go_loopg [5] k (fun kq v5 w' => ∃ (x5_1 : Int), v5 = .int .i64 x5_1 ∧ Aside0 (spec_l30Under.l0 kq l0 l1 x5_1 = some r) ∧ Aside0 (kq ≤ k) ∧ Drawn0 w w')
  case atStart => exact ⟨(0), (by first | rfl | (simp; done) | (simp [*]; done)), H', ⟨Nat.le_refl _⟩, by repeat (first | exact Drawn0.refl _ | apply Drawn0.step)⟩
  case round =>
    clear H'
    try clear c1
    try clear p2
    obtain ⟨x5_1, rfl, HA, HK1, ⟨m1, rfl⟩⟩ := hrel
    cases gk with
    | zero => exact absurd HA.out (by simp [spec_l30Under.l0])
    | succ k1 =>
      have H := HA.out
      clear HA
      simp only [spec_l30Under.l0] at H
      by_cases c3 : x5_1 < (l0.length : Int)
      · rw [if_pos c3] at H
        have c3b0 : decide (x5_1 < (l0.length : Int)) = true := decide_eq_true c3
        clear c3
        by_cases c4 : 0 ≤ x5_1
        · rw [if_pos c4] at H
          have c4b0 : decide (0 ≤ x5_1) = true := decide_eq_true c4
          clear c4
          replace H := Option.bind_eq_some_iff.mp H
          obtain ⟨t150, A50, H⟩ := H
          replace H : (if t150 = true then (spec_l30Under.l0 k1 l0 l1 (wrap64 (x5_1 + 1))) else (some false)) = some r := H
          have A5 := Aside0.mk A50
          clear A50
          by_cases c6 : t150 = true
          · subst c6
            have H1 : (spec_l30Under.l0 k1 l0 l1 (wrap64 (x5_1 + 1))) = some r := by rw [if_pos rfl] at H; exact H
            clear H
            have H := H1
            clear H1
            have H' := Aside0.mk H
            clear H
            have p149 : 0 ≤ (x5_1 : Int) := of_decide_eq_true (by first | (with_reducible assumption) | assumption)
            have q149 : x5_1 < (l0.length : Int) := of_decide_eq_true (by first | (with_reducible assumption) | assumption)
            obtain ⟨ad149, e149, hx149_0⟩ := Kd.at_int HR0.out x5_1 p149 q149
            cases e149
            replace p149 := eq_true p149
            replace q149 := eq_true q149
            go_wp2_with (first | ((with_reducible refine gate_callee (f := 103) rfl ?_); refine goesL_ (some 17) rfl rfl Try.func103 (by kernel_rfl) rfl #[.slice A1 l1.length c1, .int .i64 (rd l0 x5_1)] rfl (by (try simp only [List.map_toArray, List.map_cons, List.map_nil]); first | done | rfl | (simp only [List.length_drop, List.length_take]; rfl)) ?_; (with_reducible refine (spec_l13Has.calls k1 _ _ l1 (rd l0 x5_1) true _ ?side1 ?side2 A5.out).mono ?_); (case side1 => repeat (first | exact HR1.out | (with_reducible refine Kd.C_alloc ?_ _) | (with_reducible refine Kd.C_drewN ?_ _) | (with_reducible refine Kd.C_drew ?_))); (case side2 => exact HC1.out); rintro e w' ⟨rfl, ⟨nd, rfl⟩⟩; refine ⟨_, rfl, ?_⟩))
            go_roundg k1
            case measure => have := HK1.out; omega
            case rel => exact ⟨(wrap64 (x5_1 + 1)), (by first | rfl | (simp; done) | (simp [*]; done)), H', ⟨by have := HK1.out; omega⟩, by repeat (first | exact Drawn0.refl _ | apply Drawn0.step)⟩
          · replace c6 := Bool.eq_false_iff.mpr c6
            subst c6
            have H1 : (some false) = some r := by rw [if_neg (show ¬ (false = true) by decide)] at H; exact H
            clear H
            have H := H1
            clear H1
            obtain rfl := Option.some.inj H
            have p149 : 0 ≤ (x5_1 : Int) := of_decide_eq_true (by first | (with_reducible assumption) | assumption)
            have q149 : x5_1 < (l0.length : Int) := of_decide_eq_true (by first | (with_reducible assumption) | assumption)
            obtain ⟨ad149, e149, hx149_0⟩ := Kd.at_int HR0.out x5_1 p149 q149
            cases e149
            replace p149 := eq_true p149
            replace q149 := eq_true q149
            go_wp2_with (first | ((with_reducible refine gate_callee (f := 103) rfl ?_); refine goesL_ (some 17) rfl rfl Try.func103 (by kernel_rfl) rfl #[.slice A1 l1.length c1, .int .i64 (rd l0 x5_1)] rfl (by (try simp only [List.map_toArray, List.map_cons, List.map_nil]); first | done | rfl | (simp only [List.length_drop, List.length_take]; rfl)) ?_; (with_reducible refine (spec_l13Has.calls k1 _ _ l1 (rd l0 x5_1) false _ ?side1 ?side2 A5.out).mono ?_); (case side1 => repeat (first | exact HR1.out | (with_reducible refine Kd.C_alloc ?_ _) | (with_reducible refine Kd.C_drewN ?_ _) | (with_reducible refine Kd.C_drew ?_))); (case side2 => exact HC1.out); rintro e w' ⟨rfl, ⟨nd, rfl⟩⟩; refine ⟨_, rfl, ?_⟩))
            go_ret
            exact ⟨by first | rfl | (simp; done) | (simp [*]; done), by repeat (first | exact Drawn0.refl _ | apply Drawn0.step)⟩
        · rw [if_neg c4] at H
          exact absurd H (by simp)
      · rw [if_neg c3] at H
        have c3b0 : decide (x5_1 < (l0.length : Int)) = false := decide_eq_false c3
        clear c3
        obtain rfl := Option.some.inj H
        go_wp2
        go_ret
        exact ⟨by first | rfl | (simp; done) | (simp [*]; done), by repeat (first | exact Drawn0.refl _ | apply Drawn0.step)⟩

/-! ### spec_l30Good: function 161 -/
def spec_l30Good.f : Nat → List S51 → Int → Int → Option Bool
  | 0, _, _, _ => none
  | k + 1, l, id, now => (spec_l1In.f id 1 (l.length : Int)).bind fun t => if t = true then (if 0 ≤ wrap64 (id - 1) then (if wrap64 (id - 1) < (l.length : Int) then (if (rd_T51 l (wrap64 (id - 1))).f6 = true then some false else (if now > (rd_T51 l (wrap64 (id - 1))).f4 then some false else (if (rd_T51 l (wrap64 (id - 1))).f5 = 0 then some true else (if 0 ≤ wrap64 ((rd_T51 l (wrap64 (id - 1))).f5 - 1) then (if wrap64 ((rd_T51 l (wrap64 (id - 1))).f5 - 1) < (l.length : Int) then (if (rd_T51 l (wrap64 (id - 1))).f1 = (rd_T51 l (wrap64 ((rd_T51 l (wrap64 (id - 1))).f5 - 1))).f2 then (spec_l30Under.f k (rd_T51 l (wrap64 (id - 1))).f3 (rd_T51 l (wrap64 ((rd_T51 l (wrap64 (id - 1))).f5 - 1))).f3).bind fun u => (if u = true then spec_l30Good.f k l (rd_T51 l (wrap64 (id - 1))).f5 now else some false) else some false) else none) else none)))) else none) else none) else some false
theorem spec_l30Good.mono : ∀ a0 a1 a2 k, LeO (spec_l30Good.f k a0 a1 a2) (spec_l30Good.f (k + 1) a0 a1 a2) := by
  intro a0 a1 a2 k
  induction k generalizing a1 with
  | zero => intro r h; simp [spec_l30Good.f] at h
  | succ k ih =>
    rw [spec_l30Good.f.eq_2, spec_l30Good.f.eq_2]
    exact LeO.bind (LeO.refl _) fun t => LeO.ite (LeO.ite (LeO.ite (LeO.ite (LeO.refl _) (LeO.ite (LeO.refl _) (LeO.ite (LeO.refl _) (LeO.ite (LeO.ite (LeO.ite (LeO.bind (spec_l30Under.mono _ _ _) fun u => LeO.ite (ih _) (LeO.refl _)) (LeO.refl _)) (LeO.refl _)) (LeO.refl _))))) (LeO.refl _)) (LeO.refl _)) (LeO.refl _)
set_option maxHeartbeats 8000000 in
set_option maxRecDepth 100000 in
theorem spec_l30Good.calls (k : Nat) : ∀ (A : Option Addr) (c : Nat) (l : List S51) (id now : Int) (r : Bool) (w : World) (hr : Kd.C k51 w A l.length l) (hc : l.length ≤ c) (h : spec_l30Good.f k l id now = some r),
    Calls Try.prog 161 #[.slice A l.length c, .int .i64 id, .int .i64 now] w fun e w' => e = .returned (.bool r) ∧ Below w.heap.size w w' := by
  induction k with
  | zero => intro A c l id now r w hr hc h; exact absurd h (by simp [spec_l30Good.f])
  | succ k ih =>
    intro A c l id now r w hr hc h
    rw [spec_l30Good.f.eq_2] at h
    replace h := Option.bind_eq_some_iff.mp h
    obtain ⟨t, ht, h⟩ := h
    have HR := Aside0.mk hr
    have HC := Aside0.mk hc
    have HT := Aside0.mk ht
    have H := Aside0.mk h
    clear hr hc ht h
    have hu51 := Try.underlying51
    go_enter Try.func161, Try.ntmps161
    go_wp2_with fail
    refine (spec_l1In.calls id 1 (l.length : Int) t _ HT.out).mono ?_
    rintro e W2 ⟨rfl, hd⟩
    have HB := Aside0.mk hd.below
    have HS0 : Aside0 (w.heap.size ≤ W2.heap.size) := ⟨HB.out.size⟩
    have h := H.out
    clear hd H
    cases t with
    | false =>
      rw [if_neg (by simp)] at h
      obtain rfl := Option.some.inj h
      clear h
      go_wp2
      go_ret
      exact ⟨rfl, HB.out⟩
    | true =>
      rw [if_pos rfl] at h
      by_cases p1 : 0 ≤ wrap64 (id - 1)
      case neg => rw [if_neg p1] at h; exact absurd h (by simp)
      rw [if_pos p1] at h
      by_cases q1 : wrap64 (id - 1) < (l.length : Int)
      case neg => rw [if_neg q1] at h; exact absurd h (by simp)
      rw [if_pos q1] at h
      obtain ⟨ad0, A0, c0, e0, hx0, hx1, hx2, hx3, hx4, hx5, hx6, hl0, hg0⟩ := at_T51 HR.out (wrap64 (id - 1)) p1 q1
      subst e0
      generalize hg_ : rd_T51 l (wrap64 (id - 1)) = g at h hx0 hx1 hx2 hx3 hx4 hx5 hx6 hl0 hg0
      clear hg_
      have HG0 : Aside0 (Kd.C (Kd.int .i64) w A0 g.f3.length g.f3) := ⟨hg0⟩
      have HL0 := Aside0.mk hl0
      replace hx0 := pw_cell_below HB.out hx0
      replace hx1 := pw_cell_below HB.out hx1
      replace hx2 := pw_cell_below HB.out hx2
      replace hx3 := pw_cell_below HB.out hx3
      replace hx4 := pw_cell_below HB.out hx4
      replace hx5 := pw_cell_below HB.out hx5
      replace hx6 := pw_cell_below HB.out hx6
      replace p1 := eq_true p1
      replace q1 := eq_true q1
      clear hg0 hl0
      by_cases t6 : g.f6 = true
      · rw [if_pos t6] at h
        obtain rfl := Option.some.inj h
        clear h
        go_wp2_with (first | ((with_reducible refine gate_dst (N := 7) rfl ?_); refine box_event ?hg (N := 7) ?hd (cs := #[.int .i64 0, .int .i64 0, .int .i64 0, .slice none 0 0, .int .i64 0, .int .i64 0, .bool false]) (t := 51) ?hr ?_; (case hd => rfl); (case hg => rfl); (case hr => first | (go_simp; done) | (go_simp; rfl)); intro gb0 hg V0 hbox hb; have E0 := Aside0.mk (And.intro hg (blk_lt hbox)); have cc0 := blk_cell hbox; have zz0 := blk_frozen hbox; have BK0 := Aside0.mk hbox; have hB_ := below_step HB.out hb; clear HB hb hbox hg; have HB := Aside0.mk hB_; clear hB_) | ((with_reducible refine gate_store (t := 51) (p := 7) rfl ?_); refine store_event (t := 51) (p := 7) (v := ?vo_g0) (w1 := (((((((V0.setCell ⟨gb0, 0, none⟩ (.int .i64 g.f0)).setCell ⟨gb0, 1, none⟩ (.int .i64 g.f1)).setCell ⟨gb0, 2, none⟩ (.int .i64 g.f2)).setCell ⟨gb0, 3, none⟩ (.slice A0 g.f3.length c0)).setCell ⟨gb0, 4, none⟩ (.int .i64 g.f4)).setCell ⟨gb0, 5, none⟩ (.int .i64 g.f5)).setCell ⟨gb0, 6, none⟩ (.bool g.f6))) ?hg ?ho ?hn ?hr ?_; (case ho => rfl); (case hg => rfl); (case hn => rfl); (case hr => first | (go_simp; done) | (go_simp; rfl)); intro W0 hw; have hge_ : w.heap.size ≤ gb0 := (by have := E0.out.1; have := HS0.out; omega); have hk_ : Kept V0 W0 (fun k_ => k_ = gb0) := (by rw [hw]; exact Kept.setCell (Kept.setCell (Kept.setCell (Kept.setCell (Kept.setCell (Kept.setCell (Kept.setCell (Kept.refl V0 (fun k_ => k_ = gb0)) (.inl rfl) _) (.inl rfl) _) (.inl rfl) _) (.inl rfl) _) (.inl rfl) _) (.inl rfl) _) (.inl rfl) _); have h_ := (blk_set (blk_set (blk_set (blk_set (blk_set (blk_set (blk_set (BK0.out) 0 (.int .i64 g.f0)) 1 (.int .i64 g.f1)) 2 (.int .i64 g.f2)) 3 (.slice A0 g.f3.length c0)) 4 (.int .i64 g.f4)) 5 (.int .i64 g.f5)) 6 (.bool g.f6)); rw [← hw] at h_; simp only [List.setIfInBounds_toArray, List.set_cons_zero, List.set_cons_succ] at h_; clear BK0 cc0 zz0; have BK0 := Aside0.mk h_; have cc0 := blk_cell h_; have zz0 := blk_frozen h_; clear h_; have hB_ : Below w.heap.size w W0 := (by rw [hw]; exact below_set (below_set (below_set (below_set (below_set (below_set (below_set (HB.out) hge_) hge_) hge_) hge_) hge_) hge_) hge_); clear HB hw hk_ hge_; have HB := Aside0.mk hB_; clear hB_; have HS1 : Aside0 (w.heap.size ≤ W0.heap.size) := ⟨HB.out.size⟩; have E0' : Aside0 (gb0 < W0.heap.size) := ⟨blk_lt BK0.out⟩))
        go_ret
        exact ⟨rfl, HB.out⟩
      rw [if_neg t6] at h
      replace t6 : g.f6 = false := by simpa using t6
      by_cases c4 : now > g.f4
      · rw [if_pos c4] at h
        have c4b : decide (now > g.f4) = true := decide_eq_true c4
        clear c4
        obtain rfl := Option.some.inj h
        clear h
        go_wp2_with (first | ((with_reducible refine gate_dst (N := 7) rfl ?_); refine box_event ?hg (N := 7) ?hd (cs := #[.int .i64 0, .int .i64 0, .int .i64 0, .slice none 0 0, .int .i64 0, .int .i64 0, .bool false]) (t := 51) ?hr ?_; (case hd => rfl); (case hg => rfl); (case hr => first | (go_simp; done) | (go_simp; rfl)); intro gb0 hg V0 hbox hb; have E0 := Aside0.mk (And.intro hg (blk_lt hbox)); have cc0 := blk_cell hbox; have zz0 := blk_frozen hbox; have BK0 := Aside0.mk hbox; have hB_ := below_step HB.out hb; clear HB hb hbox hg; have HB := Aside0.mk hB_; clear hB_) | ((with_reducible refine gate_store (t := 51) (p := 7) rfl ?_); refine store_event (t := 51) (p := 7) (v := ?vo_g0) (w1 := (((((((V0.setCell ⟨gb0, 0, none⟩ (.int .i64 g.f0)).setCell ⟨gb0, 1, none⟩ (.int .i64 g.f1)).setCell ⟨gb0, 2, none⟩ (.int .i64 g.f2)).setCell ⟨gb0, 3, none⟩ (.slice A0 g.f3.length c0)).setCell ⟨gb0, 4, none⟩ (.int .i64 g.f4)).setCell ⟨gb0, 5, none⟩ (.int .i64 g.f5)).setCell ⟨gb0, 6, none⟩ (.bool g.f6))) ?hg ?ho ?hn ?hr ?_; (case ho => rfl); (case hg => rfl); (case hn => rfl); (case hr => first | (go_simp; done) | (go_simp; rfl)); intro W0 hw; have hge_ : w.heap.size ≤ gb0 := (by have := E0.out.1; have := HS0.out; omega); have hk_ : Kept V0 W0 (fun k_ => k_ = gb0) := (by rw [hw]; exact Kept.setCell (Kept.setCell (Kept.setCell (Kept.setCell (Kept.setCell (Kept.setCell (Kept.setCell (Kept.refl V0 (fun k_ => k_ = gb0)) (.inl rfl) _) (.inl rfl) _) (.inl rfl) _) (.inl rfl) _) (.inl rfl) _) (.inl rfl) _) (.inl rfl) _); have h_ := (blk_set (blk_set (blk_set (blk_set (blk_set (blk_set (blk_set (BK0.out) 0 (.int .i64 g.f0)) 1 (.int .i64 g.f1)) 2 (.int .i64 g.f2)) 3 (.slice A0 g.f3.length c0)) 4 (.int .i64 g.f4)) 5 (.int .i64 g.f5)) 6 (.bool g.f6)); rw [← hw] at h_; simp only [List.setIfInBounds_toArray, List.set_cons_zero, List.set_cons_succ] at h_; clear BK0 cc0 zz0; have BK0 := Aside0.mk h_; have cc0 := blk_cell h_; have zz0 := blk_frozen h_; clear h_; have hB_ : Below w.heap.size w W0 := (by rw [hw]; exact below_set (below_set (below_set (below_set (below_set (below_set (below_set (HB.out) hge_) hge_) hge_) hge_) hge_) hge_) hge_); clear HB hw hk_ hge_; have HB := Aside0.mk hB_; clear hB_; have HS1 : Aside0 (w.heap.size ≤ W0.heap.size) := ⟨HB.out.size⟩; have E0' : Aside0 (gb0 < W0.heap.size) := ⟨blk_lt BK0.out⟩))
        go_ret
        exact ⟨rfl, HB.out⟩
      rw [if_neg c4] at h
      have c4b : decide (now > g.f4) = false := decide_eq_false c4
      clear c4
      by_cases c5 : g.f5 = 0
      · rw [if_pos c5] at h
        have c5b : (g.f5 == 0) = true := beq_iff_eq.mpr c5
        clear c5
        obtain rfl := Option.some.inj h
        clear h
        go_wp2_with (first | ((with_reducible refine gate_dst (N := 7) rfl ?_); refine box_event ?hg (N := 7) ?hd (cs := #[.int .i64 0, .int .i64 0, .int .i64 0, .slice none 0 0, .int .i64 0, .int .i64 0, .bool false]) (t := 51) ?hr ?_; (case hd => rfl); (case hg => rfl); (case hr => first | (go_simp; done) | (go_simp; rfl)); intro gb0 hg V0 hbox hb; have E0 := Aside0.mk (And.intro hg (blk_lt hbox)); have cc0 := blk_cell hbox; have zz0 := blk_frozen hbox; have BK0 := Aside0.mk hbox; have hB_ := below_step HB.out hb; clear HB hb hbox hg; have HB := Aside0.mk hB_; clear hB_) | ((with_reducible refine gate_store (t := 51) (p := 7) rfl ?_); refine store_event (t := 51) (p := 7) (v := ?vo_g0) (w1 := (((((((V0.setCell ⟨gb0, 0, none⟩ (.int .i64 g.f0)).setCell ⟨gb0, 1, none⟩ (.int .i64 g.f1)).setCell ⟨gb0, 2, none⟩ (.int .i64 g.f2)).setCell ⟨gb0, 3, none⟩ (.slice A0 g.f3.length c0)).setCell ⟨gb0, 4, none⟩ (.int .i64 g.f4)).setCell ⟨gb0, 5, none⟩ (.int .i64 g.f5)).setCell ⟨gb0, 6, none⟩ (.bool g.f6))) ?hg ?ho ?hn ?hr ?_; (case ho => rfl); (case hg => rfl); (case hn => rfl); (case hr => first | (go_simp; done) | (go_simp; rfl)); intro W0 hw; have hge_ : w.heap.size ≤ gb0 := (by have := E0.out.1; have := HS0.out; omega); have hk_ : Kept V0 W0 (fun k_ => k_ = gb0) := (by rw [hw]; exact Kept.setCell (Kept.setCell (Kept.setCell (Kept.setCell (Kept.setCell (Kept.setCell (Kept.setCell (Kept.refl V0 (fun k_ => k_ = gb0)) (.inl rfl) _) (.inl rfl) _) (.inl rfl) _) (.inl rfl) _) (.inl rfl) _) (.inl rfl) _) (.inl rfl) _); have h_ := (blk_set (blk_set (blk_set (blk_set (blk_set (blk_set (blk_set (BK0.out) 0 (.int .i64 g.f0)) 1 (.int .i64 g.f1)) 2 (.int .i64 g.f2)) 3 (.slice A0 g.f3.length c0)) 4 (.int .i64 g.f4)) 5 (.int .i64 g.f5)) 6 (.bool g.f6)); rw [← hw] at h_; simp only [List.setIfInBounds_toArray, List.set_cons_zero, List.set_cons_succ] at h_; clear BK0 cc0 zz0; have BK0 := Aside0.mk h_; have cc0 := blk_cell h_; have zz0 := blk_frozen h_; clear h_; have hB_ : Below w.heap.size w W0 := (by rw [hw]; exact below_set (below_set (below_set (below_set (below_set (below_set (below_set (HB.out) hge_) hge_) hge_) hge_) hge_) hge_) hge_); clear HB hw hk_ hge_; have HB := Aside0.mk hB_; clear hB_; have HS1 : Aside0 (w.heap.size ≤ W0.heap.size) := ⟨HB.out.size⟩; have E0' : Aside0 (gb0 < W0.heap.size) := ⟨blk_lt BK0.out⟩))
        go_ret
        exact ⟨rfl, HB.out⟩
      rw [if_neg c5] at h
      have c5b : (g.f5 == 0) = false := beq_eq_false_iff_ne.mpr c5
      clear c5
      by_cases p2 : 0 ≤ wrap64 (g.f5 - 1)
      case neg => rw [if_neg p2] at h; exact absurd h (by simp)
      rw [if_pos p2] at h
      by_cases q2 : wrap64 (g.f5 - 1) < (l.length : Int)
      case neg => rw [if_neg q2] at h; exact absurd h (by simp)
      rw [if_pos q2] at h
      obtain ⟨ad1, A1, c1, e1, hy0, hy1, hy2, hy3, hy4, hy5, hy6, hl1, hg1⟩ := at_T51 HR.out (wrap64 (g.f5 - 1)) p2 q2
      cases e1
      generalize hp_ : rd_T51 l (wrap64 (g.f5 - 1)) = pa at h hy0 hy1 hy2 hy3 hy4 hy5 hy6 hl1 hg1
      clear hp_
      have HG1 : Aside0 (Kd.C (Kd.int .i64) w A1 pa.f3.length pa.f3) := ⟨hg1⟩
      have HL1 := Aside0.mk hl1
      replace p2 := eq_true p2
      replace q2 := eq_true q2
      clear hg1 hl1
      by_cases c6 : g.f1 = pa.f2
      case neg =>
        rw [if_neg c6] at h
        have c6b : (g.f1 == pa.f2) = false := beq_eq_false_iff_ne.mpr c6
        clear c6
        obtain rfl := Option.some.inj h
        clear h
        go_wp2_with (first | ((with_reducible refine gate_dst (N := 7) rfl ?_); refine box_event ?hg (N := 7) ?hd (cs := #[.int .i64 0, .int .i64 0, .int .i64 0, .slice none 0 0, .int .i64 0, .int .i64 0, .bool false]) (t := 51) ?hr ?_; (case hd => rfl); (case hg => rfl); (case hr => first | (go_simp; done) | (go_simp; rfl)); intro gb0 hg V0 hbox hb; have E0 := Aside0.mk (And.intro hg (blk_lt hbox)); have cc0 := blk_cell hbox; have zz0 := blk_frozen hbox; have BK0 := Aside0.mk hbox; have hB_ := below_step HB.out hb; clear HB hb hbox hg; have HB := Aside0.mk hB_; clear hB_) | ((with_reducible refine gate_store (t := 51) (p := 7) rfl ?_); refine store_event (t := 51) (p := 7) (v := ?vo_g0) (w1 := (((((((V0.setCell ⟨gb0, 0, none⟩ (.int .i64 g.f0)).setCell ⟨gb0, 1, none⟩ (.int .i64 g.f1)).setCell ⟨gb0, 2, none⟩ (.int .i64 g.f2)).setCell ⟨gb0, 3, none⟩ (.slice A0 g.f3.length c0)).setCell ⟨gb0, 4, none⟩ (.int .i64 g.f4)).setCell ⟨gb0, 5, none⟩ (.int .i64 g.f5)).setCell ⟨gb0, 6, none⟩ (.bool g.f6))) ?hg ?ho ?hn ?hr ?_; (case ho => rfl); (case hg => rfl); (case hn => rfl); (case hr => first | (go_simp; done) | (go_simp; rfl)); intro W0 hw; have hge_ : w.heap.size ≤ gb0 := (by have := E0.out.1; have := HS0.out; omega); have hk_ : Kept V0 W0 (fun k_ => k_ = gb0) := (by rw [hw]; exact Kept.setCell (Kept.setCell (Kept.setCell (Kept.setCell (Kept.setCell (Kept.setCell (Kept.setCell (Kept.refl V0 (fun k_ => k_ = gb0)) (.inl rfl) _) (.inl rfl) _) (.inl rfl) _) (.inl rfl) _) (.inl rfl) _) (.inl rfl) _) (.inl rfl) _); have h_ := (blk_set (blk_set (blk_set (blk_set (blk_set (blk_set (blk_set (BK0.out) 0 (.int .i64 g.f0)) 1 (.int .i64 g.f1)) 2 (.int .i64 g.f2)) 3 (.slice A0 g.f3.length c0)) 4 (.int .i64 g.f4)) 5 (.int .i64 g.f5)) 6 (.bool g.f6)); rw [← hw] at h_; simp only [List.setIfInBounds_toArray, List.set_cons_zero, List.set_cons_succ] at h_; clear BK0 cc0 zz0; have BK0 := Aside0.mk h_; have cc0 := blk_cell h_; have zz0 := blk_frozen h_; clear h_; have hB_ : Below w.heap.size w W0 := (by rw [hw]; exact below_set (below_set (below_set (below_set (below_set (below_set (below_set (HB.out) hge_) hge_) hge_) hge_) hge_) hge_) hge_); clear HB hw hk_ hge_; have HB := Aside0.mk hB_; clear hB_; have HS1 : Aside0 (w.heap.size ≤ W0.heap.size) := ⟨HB.out.size⟩; have E0' : Aside0 (gb0 < W0.heap.size) := ⟨blk_lt BK0.out⟩; replace hy0 := pw_cell_below HB.out hy0; replace hy1 := pw_cell_below HB.out hy1; replace hy2 := pw_cell_below HB.out hy2; replace hy3 := pw_cell_below HB.out hy3; replace hy4 := pw_cell_below HB.out hy4; replace hy5 := pw_cell_below HB.out hy5; replace hy6 := pw_cell_below HB.out hy6) | ((with_reducible refine gate_dst (N := 8) rfl ?_); refine box_event ?hg (N := 8) ?hd (cs := #[.int .i64 0, .int .i64 0, .int .i64 0, .slice none 0 0, .int .i64 0, .int .i64 0, .bool false]) (t := 51) ?hr ?_; (case hd => rfl); (case hg => rfl); (case hr => first | (go_simp; done) | (go_simp; rfl)); intro gb1 hg V1 hbox hb; have E1 := Aside0.mk (And.intro hg (blk_lt hbox)); have cc1 := blk_cell hbox; have zz1 := blk_frozen hbox; have BK1 := Aside0.mk hbox; have h_ := blk_below BK0.out hb; clear BK0 cc0 zz0; have BK0 := Aside0.mk h_; have cc0 := blk_cell h_; have zz0 := blk_frozen h_; clear h_; have hB_ := below_step HB.out hb; clear HB hb hbox hg; have HB := Aside0.mk hB_; clear hB_) | ((with_reducible refine gate_store (t := 51) (p := 8) rfl ?_); refine store_event (t := 51) (p := 8) (v := ?vo_g1) (w1 := (((((((V1.setCell ⟨gb1, 0, none⟩ (.int .i64 pa.f0)).setCell ⟨gb1, 1, none⟩ (.int .i64 pa.f1)).setCell ⟨gb1, 2, none⟩ (.int .i64 pa.f2)).setCell ⟨gb1, 3, none⟩ (.slice A1 pa.f3.length c1)).setCell ⟨gb1, 4, none⟩ (.int .i64 pa.f4)).setCell ⟨gb1, 5, none⟩ (.int .i64 pa.f5)).setCell ⟨gb1, 6, none⟩ (.bool pa.f6))) ?hg ?ho ?hn ?hr ?_; (case ho => rfl); (case hg => rfl); (case hn => rfl); (case hr => first | (go_simp; done) | (go_simp; rfl)); intro W1 hw; have hge_ : w.heap.size ≤ gb1 := (by have := E1.out.1; have := HS1.out; omega); have hk_ : Kept V1 W1 (fun k_ => k_ = gb1) := (by rw [hw]; exact Kept.setCell (Kept.setCell (Kept.setCell (Kept.setCell (Kept.setCell (Kept.setCell (Kept.setCell (Kept.refl V1 (fun k_ => k_ = gb1)) (.inl rfl) _) (.inl rfl) _) (.inl rfl) _) (.inl rfl) _) (.inl rfl) _) (.inl rfl) _) (.inl rfl) _); have h_ := blk_kept BK0.out hk_ (fun hp_ => by have := E0.out; have := E0'.out; have := E1.out; have := HS1.out; omega); clear BK0 cc0 zz0; have BK0 := Aside0.mk h_; have cc0 := blk_cell h_; have zz0 := blk_frozen h_; clear h_; have h_ := (blk_set (blk_set (blk_set (blk_set (blk_set (blk_set (blk_set (BK1.out) 0 (.int .i64 pa.f0)) 1 (.int .i64 pa.f1)) 2 (.int .i64 pa.f2)) 3 (.slice A1 pa.f3.length c1)) 4 (.int .i64 pa.f4)) 5 (.int .i64 pa.f5)) 6 (.bool pa.f6)); rw [← hw] at h_; simp only [List.setIfInBounds_toArray, List.set_cons_zero, List.set_cons_succ] at h_; clear BK1 cc1 zz1; have BK1 := Aside0.mk h_; have cc1 := blk_cell h_; have zz1 := blk_frozen h_; clear h_; have hB_ : Below w.heap.size w W1 := (by rw [hw]; exact below_set (below_set (below_set (below_set (below_set (below_set (below_set (HB.out) hge_) hge_) hge_) hge_) hge_) hge_) hge_); clear HB hw hk_ hge_; have HB := Aside0.mk hB_; clear hB_))
        go_ret
        exact ⟨rfl, HB.out⟩
      rw [if_pos c6] at h
      have c6b : (g.f1 == pa.f2) = true := beq_iff_eq.mpr c6
      clear c6
      replace h := Option.bind_eq_some_iff.mp h
      obtain ⟨u, hu_, h⟩ := h
      have H := Aside0.mk h
      have HU := Aside0.mk hu_
      clear h hu_
      go_wp2_with (first | ((with_reducible refine gate_dst (N := 7) rfl ?_); refine box_event ?hg (N := 7) ?hd (cs := #[.int .i64 0, .int .i64 0, .int .i64 0, .slice none 0 0, .int .i64 0, .int .i64 0, .bool false]) (t := 51) ?hr ?_; (case hd => rfl); (case hg => rfl); (case hr => first | (go_simp; done) | (go_simp; rfl)); intro gb0 hg V0 hbox hb; have E0 := Aside0.mk (And.intro hg (blk_lt hbox)); have cc0 := blk_cell hbox; have zz0 := blk_frozen hbox; have BK0 := Aside0.mk hbox; have hB_ := below_step HB.out hb; clear HB hb hbox hg; have HB := Aside0.mk hB_; clear hB_) | ((with_reducible refine gate_store (t := 51) (p := 7) rfl ?_); refine store_event (t := 51) (p := 7) (v := ?vo_g0) (w1 := (((((((V0.setCell ⟨gb0, 0, none⟩ (.int .i64 g.f0)).setCell ⟨gb0, 1, none⟩ (.int .i64 g.f1)).setCell ⟨gb0, 2, none⟩ (.int .i64 g.f2)).setCell ⟨gb0, 3, none⟩ (.slice A0 g.f3.length c0)).setCell ⟨gb0, 4, none⟩ (.int .i64 g.f4)).setCell ⟨gb0, 5, none⟩ (.int .i64 g.f5)).setCell ⟨gb0, 6, none⟩ (.bool g.f6))) ?hg ?ho ?hn ?hr ?_; (case ho => rfl); (case hg => rfl); (case hn => rfl); (case hr => first | (go_simp; done) | (go_simp; rfl)); intro W0 hw; have hge_ : w.heap.size ≤ gb0 := (by have := E0.out.1; have := HS0.out; omega); have hk_ : Kept V0 W0 (fun k_ => k_ = gb0) := (by rw [hw]; exact Kept.setCell (Kept.setCell (Kept.setCell (Kept.setCell (Kept.setCell (Kept.setCell (Kept.setCell (Kept.refl V0 (fun k_ => k_ = gb0)) (.inl rfl) _) (.inl rfl) _) (.inl rfl) _) (.inl rfl) _) (.inl rfl) _) (.inl rfl) _) (.inl rfl) _); have h_ := (blk_set (blk_set (blk_set (blk_set (blk_set (blk_set (blk_set (BK0.out) 0 (.int .i64 g.f0)) 1 (.int .i64 g.f1)) 2 (.int .i64 g.f2)) 3 (.slice A0 g.f3.length c0)) 4 (.int .i64 g.f4)) 5 (.int .i64 g.f5)) 6 (.bool g.f6)); rw [← hw] at h_; simp only [List.setIfInBounds_toArray, List.set_cons_zero, List.set_cons_succ] at h_; clear BK0 cc0 zz0; have BK0 := Aside0.mk h_; have cc0 := blk_cell h_; have zz0 := blk_frozen h_; clear h_; have hB_ : Below w.heap.size w W0 := (by rw [hw]; exact below_set (below_set (below_set (below_set (below_set (below_set (below_set (HB.out) hge_) hge_) hge_) hge_) hge_) hge_) hge_); clear HB hw hk_ hge_; have HB := Aside0.mk hB_; clear hB_; have HS1 : Aside0 (w.heap.size ≤ W0.heap.size) := ⟨HB.out.size⟩; have E0' : Aside0 (gb0 < W0.heap.size) := ⟨blk_lt BK0.out⟩; replace hy0 := pw_cell_below HB.out hy0; replace hy1 := pw_cell_below HB.out hy1; replace hy2 := pw_cell_below HB.out hy2; replace hy3 := pw_cell_below HB.out hy3; replace hy4 := pw_cell_below HB.out hy4; replace hy5 := pw_cell_below HB.out hy5; replace hy6 := pw_cell_below HB.out hy6) | ((with_reducible refine gate_dst (N := 8) rfl ?_); refine box_event ?hg (N := 8) ?hd (cs := #[.int .i64 0, .int .i64 0, .int .i64 0, .slice none 0 0, .int .i64 0, .int .i64 0, .bool false]) (t := 51) ?hr ?_; (case hd => rfl); (case hg => rfl); (case hr => first | (go_simp; done) | (go_simp; rfl)); intro gb1 hg V1 hbox hb; have E1 := Aside0.mk (And.intro hg (blk_lt hbox)); have cc1 := blk_cell hbox; have zz1 := blk_frozen hbox; have BK1 := Aside0.mk hbox; have h_ := blk_below BK0.out hb; clear BK0 cc0 zz0; have BK0 := Aside0.mk h_; have cc0 := blk_cell h_; have zz0 := blk_frozen h_; clear h_; have hB_ := below_step HB.out hb; clear HB hb hbox hg; have HB := Aside0.mk hB_; clear hB_) | ((with_reducible refine gate_store (t := 51) (p := 8) rfl ?_); refine store_event (t := 51) (p := 8) (v := ?vo_g1) (w1 := (((((((V1.setCell ⟨gb1, 0, none⟩ (.int .i64 pa.f0)).setCell ⟨gb1, 1, none⟩ (.int .i64 pa.f1)).setCell ⟨gb1, 2, none⟩ (.int .i64 pa.f2)).setCell ⟨gb1, 3, none⟩ (.slice A1 pa.f3.length c1)).setCell ⟨gb1, 4, none⟩ (.int .i64 pa.f4)).setCell ⟨gb1, 5, none⟩ (.int .i64 pa.f5)).setCell ⟨gb1, 6, none⟩ (.bool pa.f6))) ?hg ?ho ?hn ?hr ?_; (case ho => rfl); (case hg => rfl); (case hn => rfl); (case hr => first | (go_simp; done) | (go_simp; rfl)); intro W1 hw; have hge_ : w.heap.size ≤ gb1 := (by have := E1.out.1; have := HS1.out; omega); have hk_ : Kept V1 W1 (fun k_ => k_ = gb1) := (by rw [hw]; exact Kept.setCell (Kept.setCell (Kept.setCell (Kept.setCell (Kept.setCell (Kept.setCell (Kept.setCell (Kept.refl V1 (fun k_ => k_ = gb1)) (.inl rfl) _) (.inl rfl) _) (.inl rfl) _) (.inl rfl) _) (.inl rfl) _) (.inl rfl) _) (.inl rfl) _); have h_ := blk_kept BK0.out hk_ (fun hp_ => by have := E0.out; have := E0'.out; have := E1.out; have := HS1.out; omega); clear BK0 cc0 zz0; have BK0 := Aside0.mk h_; have cc0 := blk_cell h_; have zz0 := blk_frozen h_; clear h_; have h_ := (blk_set (blk_set (blk_set (blk_set (blk_set (blk_set (blk_set (BK1.out) 0 (.int .i64 pa.f0)) 1 (.int .i64 pa.f1)) 2 (.int .i64 pa.f2)) 3 (.slice A1 pa.f3.length c1)) 4 (.int .i64 pa.f4)) 5 (.int .i64 pa.f5)) 6 (.bool pa.f6)); rw [← hw] at h_; simp only [List.setIfInBounds_toArray, List.set_cons_zero, List.set_cons_succ] at h_; clear BK1 cc1 zz1; have BK1 := Aside0.mk h_; have cc1 := blk_cell h_; have zz1 := blk_frozen h_; clear h_; have hB_ : Below w.heap.size w W1 := (by rw [hw]; exact below_set (below_set (below_set (below_set (below_set (below_set (below_set (HB.out) hge_) hge_) hge_) hge_) hge_) hge_) hge_); clear HB hw hk_ hge_; have HB := Aside0.mk hB_; clear hB_))
      refine (spec_l30Under.calls k _ _ g.f3 _ _ pa.f3 u _ (Kd.C_below HG0.out HB.out) HL0.out (Kd.C_below HG1.out HB.out) HL1.out HU.out).mono ?_
      rintro e W3 ⟨rfl, hd3⟩
      have hb3 := hd3.below
      clear hd3 hx0 hx1 hx2 hx3 hx4 hx5 hx6 hy0 hy1 hy2 hy3 hy4 hy5 hy6 p1 q1 p2 q2
      have h_ := blk_below BK0.out hb3
      clear BK0 cc0 zz0
      have BK0 := Aside0.mk h_
      have cc0 := blk_cell h_
      have zz0 := blk_frozen h_
      clear h_
      have h_ := blk_below BK1.out hb3
      clear BK1 cc1 zz1
      have BK1 := Aside0.mk h_
      have cc1 := blk_cell h_
      have zz1 := blk_frozen h_
      clear h_
      have hB_ := below_step HB.out hb3
      clear HB hb3
      have HB := Aside0.mk hB_
      clear hB_
      have h := H.out
      clear H
      cases u with
      | false =>
        rw [if_neg (by simp)] at h
        obtain rfl := Option.some.inj h
        clear h
        go_wp2
        go_ret
        exact ⟨rfl, HB.out⟩
      | true =>
        rw [if_pos rfl] at h
        have H := Aside0.mk h
        clear h
        go_wp2_with fail
        refine (ih _ _ l g.f5 now r _ (Kd.C_below HR.out HB.out) HC.out H.out).mono ?_
        rintro e W4 ⟨rfl, hb4⟩
        have hB_ := below_step HB.out hb4
        clear hb4
        go_wp2
        go_ret
        exact ⟨rfl, hB_⟩

/-! ### spec_IsGrantGood: function 113 -/
def spec_IsGrantGood.f (k : Nat) (l0 : List (S51)) (a1 : Int) (a2 : Int) : Option (Bool) := (spec_AreGrants.f k l0).bind fun t151 => (if t151 = true then ((spec_IsTime.f a2).bind fun t152 => (if t152 = true then ((spec_l30Good.f k l0 a1 a2).bind fun t153 => (some t153)) else (some false))) else (some false))
theorem spec_IsGrantGood.mono : ∀ a0 a1 a2 k, LeO (spec_IsGrantGood.f k a0 a1 a2) (spec_IsGrantGood.f (k + 1) a0 a1 a2) := by
  intro a0 a1 a2 k
  unfold spec_IsGrantGood.f
  repeat' first
      | (with_reducible exact spec_AreGrants.mono _ _)
      | (with_reducible exact spec_l30Good.mono _ _ _ _)
      | (with_reducible exact LeO.refl _)
      | (with_reducible exact LeO.none _)
      | (with_reducible refine LeO.ite ?_ ?_)
      | (with_reducible refine LeO.bind ?_ (fun _ => ?_))
      | exact spec_AreGrants.mono _ _
      | exact spec_l30Good.mono _ _ _ _
      | exact LeO.none _
      | refine LeO.ite ?_ ?_
      | refine LeO.bind ?_ (fun _ => ?_)
set_option maxHeartbeats 8000000 in
set_option maxRecDepth 100000 in
theorem spec_IsGrantGood.calls (k : Nat) (A0 : Option Addr) (c0 : Nat) (l0 : List (S51)) (a1 : Int) (a2 : Int) (r : Bool) (w : World) (hr0 : Kd.C k51 w A0 l0.length l0) (hc0 : l0.length ≤ c0) (h : spec_IsGrantGood.f k l0 a1 a2 = some r) :
    Calls Try.prog 113 #[.slice A0 l0.length c0, .int .i64 a1, .int .i64 a2] w fun e w' => e = .returned (.bool r) ∧ Below w.heap.size w w' := by
  have HR0 := Aside0.mk hr0
  have HC0 := Aside0.mk hc0
  clear hr0 hc0
  have HB := Aside0.mk (Below.refl w.heap.size w)
  have H : ((spec_AreGrants.f k l0).bind fun t151 => (if t151 = true then ((spec_IsTime.f a2).bind fun t152 => (if t152 = true then ((spec_l30Good.f k l0 a1 a2).bind fun t153 => (some t153)) else (some false))) else (some false))) = some r := h
  clear h
  replace H := Option.bind_eq_some_iff.mp H
  obtain ⟨t151, A40, H⟩ := H
  replace H : (if t151 = true then ((spec_IsTime.f a2).bind fun t152 => (if t152 = true then ((spec_l30Good.f k l0 a1 a2).bind fun t153 => (some t153)) else (some false))) else (some false)) = some r := H
  have A4 := Aside0.mk A40
  clear A40
  by_cases c5 : t151 = true
  · subst c5
    have H1 : ((spec_IsTime.f a2).bind fun t152 => (if t152 = true then ((spec_l30Good.f k l0 a1 a2).bind fun t153 => (some t153)) else (some false))) = some r := by rw [if_pos rfl] at H; exact H
    clear H
    have H := H1
    clear H1
    replace H := Option.bind_eq_some_iff.mp H
    obtain ⟨t152, A60, H⟩ := H
    replace H : (if t152 = true then ((spec_l30Good.f k l0 a1 a2).bind fun t153 => (some t153)) else (some false)) = some r := H
    have A6 := Aside0.mk A60
    clear A60
    by_cases c7 : t152 = true
    · subst c7
      have H1 : ((spec_l30Good.f k l0 a1 a2).bind fun t153 => (some t153)) = some r := by rw [if_pos rfl] at H; exact H
      clear H
      have H := H1
      clear H1
      replace H := Option.bind_eq_some_iff.mp H
      obtain ⟨t153, A80, H⟩ := H
      replace H : (some t153) = some r := H
      have A8 := Aside0.mk A80
      clear A80
      obtain rfl := Option.some.inj H
      go_enter Try.func113, Try.ntmps113
      go_wp2_with (first | ((with_reducible refine gate_callee (f := 95) rfl ?_); refine goesL_ (some 8) rfl rfl Try.func95 (by kernel_rfl) rfl #[.slice A0 l0.length c0] rfl (by (try simp only [List.map_toArray, List.map_cons, List.map_nil]); first | done | rfl | (simp only [List.length_drop, List.length_take]; rfl)) ?_; (with_reducible refine (spec_AreGrants.calls k _ _ l0 true _ ?side1 ?side2 A4.out).mono ?_); (case side1 => repeat (first | exact HR0.out | (with_reducible refine Kd.C_alloc ?_ _) | (with_reducible refine Kd.C_drewN ?_ _) | (with_reducible refine Kd.C_drew ?_))); (case side2 => exact HC0.out); rintro e w9 ⟨rfl, hb⟩; refine ⟨_, rfl, ?_⟩; have n0_ := Aside0.mk (below_step (by repeat (first | (with_reducible first | exact HB.out | apply below_alloc | apply pw_below_drewN | apply below_drew1) | exact HB.out)) hb); clear HB; have HB := n0_; clear n0_; (try clear hb); (try clear hb2); (try clear hk); (try clear hi)) | (go_at_call 104; (with_reducible refine (spec_IsTime.calls a2 true _ A6.out).mono ?_); rintro e w' ⟨rfl, ⟨nd, rfl⟩⟩) | (go_at_call 161; (with_reducible refine (spec_l30Good.calls k _ _ l0 a1 a2 t153 _ ?side1 ?side2 A8.out).mono ?_); (case side1 => repeat (first | exact (Kd.C_below HR0.out (by repeat (first | (with_reducible first | exact HB.out | apply below_alloc | apply pw_below_drewN | apply below_drew1) | exact HB.out))) | (with_reducible refine Kd.C_alloc ?_ _) | (with_reducible refine Kd.C_drewN ?_ _) | (with_reducible refine Kd.C_drew ?_))); (case side2 => exact HC0.out); rintro e w10 ⟨rfl, hb⟩; have n0_ := Aside0.mk (below_step (by repeat (first | (with_reducible first | exact HB.out | apply below_alloc | apply pw_below_drewN | apply below_drew1) | exact HB.out)) hb); clear HB; have HB := n0_; clear n0_; (try clear hb); (try clear hb2); (try clear hk); (try clear hi)))
      go_ret
      exact ⟨by first | rfl | (simp [errW_none, errW_some] <;> rfl) | (simp [*, errW_none, errW_some] <;> rfl), by repeat (first | (with_reducible first | exact HB.out | apply below_alloc | apply pw_below_drewN | apply below_drew1) | exact HB.out)⟩
    · replace c7 := Bool.eq_false_iff.mpr c7
      subst c7
      have H1 : (some false) = some r := by rw [if_neg (show ¬ (false = true) by decide)] at H; exact H
      clear H
      have H := H1
      clear H1
      obtain rfl := Option.some.inj H
      go_enter Try.func113, Try.ntmps113
      go_wp2_with (first | ((with_reducible refine gate_callee (f := 95) rfl ?_); refine goesL_ (some 8) rfl rfl Try.func95 (by kernel_rfl) rfl #[.slice A0 l0.length c0] rfl (by (try simp only [List.map_toArray, List.map_cons, List.map_nil]); first | done | rfl | (simp only [List.length_drop, List.length_take]; rfl)) ?_; (with_reducible refine (spec_AreGrants.calls k _ _ l0 true _ ?side1 ?side2 A4.out).mono ?_); (case side1 => repeat (first | exact HR0.out | (with_reducible refine Kd.C_alloc ?_ _) | (with_reducible refine Kd.C_drewN ?_ _) | (with_reducible refine Kd.C_drew ?_))); (case side2 => exact HC0.out); rintro e w11 ⟨rfl, hb⟩; refine ⟨_, rfl, ?_⟩; have n0_ := Aside0.mk (below_step (by repeat (first | (with_reducible first | exact HB.out | apply below_alloc | apply pw_below_drewN | apply below_drew1) | exact HB.out)) hb); clear HB; have HB := n0_; clear n0_; (try clear hb); (try clear hb2); (try clear hk); (try clear hi)) | (go_at_call 104; (with_reducible refine (spec_IsTime.calls a2 false _ A6.out).mono ?_); rintro e w' ⟨rfl, ⟨nd, rfl⟩⟩))
      go_ret
      exact ⟨by first | rfl | (simp [errW_none, errW_some] <;> rfl) | (simp [*, errW_none, errW_some] <;> rfl), by repeat (first | (with_reducible first | exact HB.out | apply below_alloc | apply pw_below_drewN | apply below_drew1) | exact HB.out)⟩
  · replace c5 := Bool.eq_false_iff.mpr c5
    subst c5
    have H1 : (some false) = some r := by rw [if_neg (show ¬ (false = true) by decide)] at H; exact H
    clear H
    have H := H1
    clear H1
    obtain rfl := Option.some.inj H
    go_enter Try.func113, Try.ntmps113
    go_wp2_with (first | ((with_reducible refine gate_callee (f := 95) rfl ?_); refine goesL_ (some 8) rfl rfl Try.func95 (by kernel_rfl) rfl #[.slice A0 l0.length c0] rfl (by (try simp only [List.map_toArray, List.map_cons, List.map_nil]); first | done | rfl | (simp only [List.length_drop, List.length_take]; rfl)) ?_; (with_reducible refine (spec_AreGrants.calls k _ _ l0 false _ ?side1 ?side2 A4.out).mono ?_); (case side1 => repeat (first | exact HR0.out | (with_reducible refine Kd.C_alloc ?_ _) | (with_reducible refine Kd.C_drewN ?_ _) | (with_reducible refine Kd.C_drew ?_))); (case side2 => exact HC0.out); rintro e w12 ⟨rfl, hb⟩; refine ⟨_, rfl, ?_⟩; have n0_ := Aside0.mk (below_step (by repeat (first | (with_reducible first | exact HB.out | apply below_alloc | apply pw_below_drewN | apply below_drew1) | exact HB.out)) hb); clear HB; have HB := n0_; clear n0_; (try clear hb); (try clear hb2); (try clear hk); (try clear hi)))
    go_ret
    exact ⟨by first | rfl | (simp [errW_none, errW_some] <;> rfl) | (simp [*, errW_none, errW_some] <;> rfl), by repeat (first | (with_reducible first | exact HB.out | apply below_alloc | apply pw_below_drewN | apply below_drew1) | exact HB.out)⟩

/-! ### spec_ChainOf: function 162 -/
mutual
def spec_ChainOf.j0 : Nat → List (S51) → Int → List Int → Bool → Option (List Int)
  | 0, _, _, _, _ => none
  | k + 1, x0, x1, x5, x16 => if x16 = true then (some x5) else (spec_ChainOf.l0 k x0 x1 x5)
def spec_ChainOf.l0 : Nat → List (S51) → Int → List Int → Option (List Int)
  | 0, _, _, _ => none
  | k + 1, x0, x1, x5 => if x1 > 0 then (if x5.length < 17592186044416 then (if 0 ≤ (wrap64 (x1 - 1)) then (if (wrap64 (x1 - 1)) < (x0.length : Int) then (spec_ChainOf.l0 k x0 ((rd_T51 x0 (wrap64 (x1 - 1))).f5) (x5 ++ [x1])) else (none)) else (none)) else (none)) else (some x5)
end
def spec_ChainOf.f (k : Nat) (l0 : List (S51)) (a1 : Int) : Option (List Int) := (some (([] : List Int) : List Int)).bind fun y154 => ((spec_AreGrants.f k l0).bind fun t157 => (if t157 = true then ((spec_l1In.f a1 1 (l0.length : Int)).bind fun t158 => (spec_ChainOf.j0 k l0 a1 y154 (!t158))) else (spec_ChainOf.j0 k l0 a1 y154 true)))
theorem spec_ChainOf.mono_l : ∀ k, (∀ y0 y1 y2 y3, LeO (spec_ChainOf.j0 k y0 y1 y2 y3) (spec_ChainOf.j0 (k + 1) y0 y1 y2 y3)) ∧ (∀ y0 y1 y2, LeO (spec_ChainOf.l0 k y0 y1 y2) (spec_ChainOf.l0 (k + 1) y0 y1 y2))
  | 0 => ⟨fun _ _ _ _ r h => by simp [spec_ChainOf.j0] at h, fun _ _ _ r h => by simp [spec_ChainOf.l0] at h⟩
  | k + 1 => by
    obtain ⟨ih0, ih1⟩ := spec_ChainOf.mono_l k
    refine ⟨?_, ?_⟩
    · intro y0 y1 y2 y3
      unfold spec_ChainOf.j0
      repeat' first
      | (with_reducible exact ih0 _ _ _ _)
      | (with_reducible exact ih1 _ _ _)
      | (with_reducible exact spec_AreGrants.mono _ _)
      | (with_reducible exact LeO.refl _)
      | (with_reducible exact LeO.none _)
      | (with_reducible refine LeO.ite ?_ ?_)
      | (with_reducible refine LeO.bind ?_ (fun _ => ?_))
      | exact ih0 _ _ _ _
      | exact ih1 _ _ _
      | exact spec_AreGrants.mono _ _
      | exact LeO.none _
      | refine LeO.ite ?_ ?_
      | refine LeO.bind ?_ (fun _ => ?_)
    · intro y0 y1 y2
      unfold spec_ChainOf.l0
      repeat' first
      | (with_reducible exact ih0 _ _ _ _)
      | (with_reducible exact ih1 _ _ _)
      | (with_reducible exact spec_AreGrants.mono _ _)
      | (with_reducible exact LeO.refl _)
      | (with_reducible exact LeO.none _)
      | (with_reducible refine LeO.ite ?_ ?_)
      | (with_reducible refine LeO.bind ?_ (fun _ => ?_))
      | exact ih0 _ _ _ _
      | exact ih1 _ _ _
      | exact spec_AreGrants.mono _ _
      | exact LeO.none _
      | refine LeO.ite ?_ ?_
      | refine LeO.bind ?_ (fun _ => ?_)
theorem spec_ChainOf.mono : ∀ a0 a1 k, LeO (spec_ChainOf.f k a0 a1) (spec_ChainOf.f (k + 1) a0 a1) := by
  intro a0 a1 k
  obtain ⟨ih0, ih1⟩ := spec_ChainOf.mono_l k
  unfold spec_ChainOf.f
  repeat' first
      | (with_reducible exact ih0 _ _ _ _)
      | (with_reducible exact ih1 _ _ _)
      | (with_reducible exact spec_AreGrants.mono _ _)
      | (with_reducible exact LeO.refl _)
      | (with_reducible exact LeO.none _)
      | (with_reducible refine LeO.ite ?_ ?_)
      | (with_reducible refine LeO.bind ?_ (fun _ => ?_))
      | exact ih0 _ _ _ _
      | exact ih1 _ _ _
      | exact spec_AreGrants.mono _ _
      | exact LeO.none _
      | refine LeO.ite ?_ ?_
      | refine LeO.bind ?_ (fun _ => ?_)
set_option maxHeartbeats 8000000 in
set_option maxRecDepth 100000 in
theorem spec_ChainOf.calls (k : Nat) (A0 : Option Addr) (c0 : Nat) (l0 : List (S51)) (a1 : Int) (r : List Int) (w : World) (hr0 : Kd.C k51 w A0 l0.length l0) (hc0 : l0.length ≤ c0) (h : spec_ChainOf.f k l0 a1 = some r) :
    Calls Try.prog 162 #[.slice A0 l0.length c0, .int .i64 a1] w fun e w' => ∃ v0_ : Value, e = .returned (v0_) ∧ Kd.R (Kd.int .i64) 3 w' w.heap.size (fun _ => True) v0_ r ∧ Below w.heap.size w w' := by
  have HR0 := Aside0.mk hr0
  have HC0 := Aside0.mk hc0
  clear hr0 hc0
  have HB := Aside0.mk (Below.refl w.heap.size w)
  have H : ((some (([] : List Int) : List Int)).bind fun y154 => ((spec_AreGrants.f k l0).bind fun t157 => (if t157 = true then ((spec_l1In.f a1 1 (l0.length : Int)).bind fun t158 => (spec_ChainOf.j0 k l0 a1 y154 (!t158))) else (spec_ChainOf.j0 k l0 a1 y154 true)))) = some r := h
  clear h
  obtain ⟨y154, hy154⟩ : ∃ y_ : List Int, y_ = (([] : List Int)) := ⟨_, rfl⟩
  replace H : ((spec_AreGrants.f k l0).bind fun t157 => (if t157 = true then ((spec_l1In.f a1 1 (l0.length : Int)).bind fun t158 => (spec_ChainOf.j0 k l0 a1 y154 (!t158))) else (spec_ChainOf.j0 k l0 a1 y154 true))) = some r := by first | (rw [hy154]; with_reducible exact H) | (have H2_ := (Option.bind_some _ _).symm.trans H; rw [hy154]; with_reducible exact H2_) | (have H2_ := (Option.bind_some _ _).symm.trans H; with_reducible exact H2_) | with_reducible exact H | (rw [hy154]; exact H) | exact H
  have Ny154 := Aside0.mk hy154
  clear hy154
  have HC3 := Aside0.mk H
  clear H
  go_enter Try.func162, Try.ntmps162
  go_upto_region 2 with (first | ((with_reducible refine gate_dst (N := 6) rfl ?_); (try (refine gate_guard (by rfl) ?_; dsimp only)); refine Kd.R_lit (Kd.int .i64) _ 3 ?hg (N := 6) ?hd (xs := ([] : List Int)) (inner := []) (ok := fun _ => True) (okp := fun _ => True) ?hr ?hp (fun _ hk => hk) trivial (Below.refl _ _) (Nat.le_refl _) (by simp) ?_; (case hd => rfl); (case hg => rfl); (case hr => first | (go_simp; done) | (go_simp; rfl)); (case hp => exact (Reps.none _ _)); intro v155 w4 ho5 hb hg_ hnew_; clear hg_ hnew_; (first | rw [← Ny154.out] at ho5 | (simp only [Int.reduceToNat] at ho5; rw [← Ny154.out] at ho5)); have n0_ := Aside0.mk (Kd.R_lower ho5 (below_size (by repeat (first | (with_reducible first | exact HB.out | apply below_alloc | apply pw_below_drewN | apply below_drew1) | exact HB.out)))); have n1_ := Aside0.mk (below_step (by repeat (first | (with_reducible first | exact HB.out | apply below_alloc | apply pw_below_drewN | apply below_drew1) | exact HB.out)) hb); clear HB; have HO156 := n0_; have HB := n1_; clear n0_ n1_; clear hb ho5))
  (try simp only [Act.put, List.setIfInBounds_toArray, List.set_cons_zero, List.set_cons_succ])
  go_cut [16] (fun v16 wc => ∃ (kq : Nat) (x16_2 : Bool), v16 = .bool x16_2 ∧ Aside0 (spec_ChainOf.j0 kq l0 a1 y154 x16_2 = some r) ∧ Aside0 (kq ≤ k) ∧ Aside0 (Kd.R (Kd.int .i64) 3 wc w.heap.size (fun _ => True) v155 y154) ∧ Aside0 (Below w.heap.size w wc))
  case first =>
    have H := HC3.out
    clear HC3
    replace H := Option.bind_eq_some_iff.mp H
    obtain ⟨t157, A60, H⟩ := H
    replace H : (if t157 = true then ((spec_l1In.f a1 1 (l0.length : Int)).bind fun t158 => (spec_ChainOf.j0 k l0 a1 y154 (!t158))) else (spec_ChainOf.j0 k l0 a1 y154 true)) = some r := H
    have A6 := Aside0.mk A60
    clear A60
    by_cases c7 : t157 = true
    · subst c7
      have H1 : ((spec_l1In.f a1 1 (l0.length : Int)).bind fun t158 => (spec_ChainOf.j0 k l0 a1 y154 (!t158))) = some r := by rw [if_pos rfl] at H; exact H
      clear H
      have H := H1
      clear H1
      replace H := Option.bind_eq_some_iff.mp H
      obtain ⟨t158, A80, H⟩ := H
      replace H : (spec_ChainOf.j0 k l0 a1 y154 (!t158)) = some r := H
      have A8 := Aside0.mk A80
      clear A80
      have H' := Aside0.mk H
      clear H
      go_wp2_with (first | ((with_reducible refine gate_callee (f := 95) rfl ?_); refine goesL_ (some 8) rfl rfl Try.func95 (by kernel_rfl) rfl #[.slice A0 l0.length c0] rfl (by (try simp only [List.map_toArray, List.map_cons, List.map_nil]); first | done | rfl | (simp only [List.length_drop, List.length_take]; rfl)) ?_; (with_reducible refine (spec_AreGrants.calls k _ _ l0 true _ ?side1 ?side2 A6.out).mono ?_); (case side1 => repeat (first | exact (Kd.C_below HR0.out HB.out) | (with_reducible refine Kd.C_alloc ?_ _) | (with_reducible refine Kd.C_drewN ?_ _) | (with_reducible refine Kd.C_drew ?_))); (case side2 => exact HC0.out); rintro e w9 ⟨rfl, hb⟩; refine ⟨_, rfl, ?_⟩; have n0_ := Aside0.mk (Kd.R_below (by (with_reducible repeat (first | apply Kd.R_alloc | apply Kd.R_drewN | apply Kd.R_drew)); exact HO156.out) hb); have n1_ := Aside0.mk (below_step (by repeat (first | (with_reducible first | exact HB.out | apply below_alloc | apply pw_below_drewN | apply below_drew1) | exact HB.out)) hb); clear HO156; clear HB; have HO156 := n0_; have HB := n1_; clear n0_ n1_; (try clear hb); (try clear hb2); (try clear hk); (try clear hi)) | (go_at_call 96; (with_reducible refine (spec_l1In.calls a1 1 (l0.length : Int) t158 _ A8.out).mono ?_); rintro e w' ⟨rfl, ⟨nd, rfl⟩⟩))
      go_meet
      case rel => exact ⟨_, (!t158), (by first | rfl | (simp; done) | (simp [*]; done)), H', ⟨by first | omega | exact Nat.le_refl _⟩, ⟨by (with_reducible repeat (first | apply Kd.R_alloc | apply Kd.R_drewN | apply Kd.R_drew)); exact HO156.out⟩, ⟨by repeat (first | (with_reducible first | exact HB.out | apply below_alloc | apply pw_below_drewN | apply below_drew1) | exact HB.out)⟩⟩
    · replace c7 := Bool.eq_false_iff.mpr c7
      subst c7
      have H1 : (spec_ChainOf.j0 k l0 a1 y154 true) = some r := by rw [if_neg (show ¬ (false = true) by decide)] at H; exact H
      clear H
      have H := H1
      clear H1
      have H' := Aside0.mk H
      clear H
      go_wp2_with (first | ((with_reducible refine gate_callee (f := 95) rfl ?_); refine goesL_ (some 8) rfl rfl Try.func95 (by kernel_rfl) rfl #[.slice A0 l0.length c0] rfl (by (try simp only [List.map_toArray, List.map_cons, List.map_nil]); first | done | rfl | (simp only [List.length_drop, List.length_take]; rfl)) ?_; (with_reducible refine (spec_AreGrants.calls k _ _ l0 false _ ?side1 ?side2 A6.out).mono ?_); (case side1 => repeat (first | exact (Kd.C_below HR0.out HB.out) | (with_reducible refine Kd.C_alloc ?_ _) | (with_reducible refine Kd.C_drewN ?_ _) | (with_reducible refine Kd.C_drew ?_))); (case side2 => exact HC0.out); rintro e w10 ⟨rfl, hb⟩; refine ⟨_, rfl, ?_⟩; have n0_ := Aside0.mk (Kd.R_below (by (with_reducible repeat (first | apply Kd.R_alloc | apply Kd.R_drewN | apply Kd.R_drew)); exact HO156.out) hb); have n1_ := Aside0.mk (below_step (by repeat (first | (with_reducible first | exact HB.out | apply below_alloc | apply pw_below_drewN | apply below_drew1) | exact HB.out)) hb); clear HO156; clear HB; have HO156 := n0_; have HB := n1_; clear n0_ n1_; (try clear hb); (try clear hb2); (try clear hk); (try clear hi)))
      go_meet
      case rel => exact ⟨_, (true), (by first | rfl | (simp; done) | (simp [*]; done)), H', ⟨by first | omega | exact Nat.le_refl _⟩, ⟨by (with_reducible repeat (first | apply Kd.R_alloc | apply Kd.R_drewN | apply Kd.R_drew)); exact HO156.out⟩, ⟨by repeat (first | (with_reducible first | exact HB.out | apply below_alloc | apply pw_below_drewN | apply below_drew1) | exact HB.out)⟩⟩
  case rest =>
    clear HC3
    try clear c1
    try clear p2
    try clear c7
    try clear c9
    obtain ⟨kq, x16_2, rfl, HA, HJ2, HO_5, HB⟩ := hcut
    cases kq with
    | zero => exact absurd HA.out (by simp [spec_ChainOf.j0])
    | succ kj2 =>
      have H := HA.out
      clear HA
      simp only [spec_ChainOf.j0] at H
      by_cases c11 : x16_2 = true
      · subst c11
        have H1 : (some y154) = some r := by rw [if_pos rfl] at H; exact H
        clear H
        have H := H1
        clear H1
        obtain rfl := Option.some.inj H
        go_wp2
        go_ret
        exact ⟨_, by first | rfl | (simp [errW_none, errW_some] <;> rfl) | (simp [*, errW_none, errW_some] <;> rfl), by (with_reducible repeat (first | apply Kd.R_alloc | apply Kd.R_drewN | apply Kd.R_drew)); exact HO_5.out, by repeat (first | (with_reducible first | exact HB.out | apply below_alloc | apply pw_below_drewN | apply below_drew1) | exact HB.out)⟩
      · replace c11 := Bool.eq_false_iff.mpr c11
        subst c11
        have H1 : (spec_ChainOf.l0 kj2 l0 a1 y154) = some r := by rw [if_neg (show ¬ (false = true) by decide)] at H; exact H
        clear H
        have H := H1
        clear H1
        have H' := Aside0.mk H
        clear H
        go_wp2
        go_loopg [1, 5] kj2 (fun kq v1 v5 w' => ∃ (x1_2 : Int) (x5_2 : List Int), v1 = .int .i64 x1_2 ∧ Aside0 (spec_ChainOf.l0 kq l0 x1_2 x5_2 = some r) ∧ Aside0 (kq ≤ kj2) ∧ Aside0 (Kd.R (Kd.int .i64) 3 w' w.heap.size (fun _ => True) v5 x5_2) ∧ Aside0 (Below w.heap.size w w'))
        case atStart => exact ⟨(a1), (y154), (by first | rfl | (simp; done) | (simp [*]; done)), H', ⟨Nat.le_refl _⟩, ⟨by (with_reducible repeat (first | apply Kd.R_alloc | apply Kd.R_drewN | apply Kd.R_drew)); exact HO_5.out⟩, ⟨by repeat (first | (with_reducible first | exact HB.out | apply below_alloc | apply pw_below_drewN | apply below_drew1) | exact HB.out)⟩⟩
        case round =>
          clear H'
          try clear c1
          try clear p2
          try clear c7
          try clear c9
          try clear c11
          try clear p2
          obtain ⟨x1_2, x5_2, rfl, HA, HK2, HO_5, HB⟩ := hrel
          cases gk with
          | zero => exact absurd HA.out (by simp [spec_ChainOf.l0])
          | succ k2 =>
            have H := HA.out
            clear HA
            simp only [spec_ChainOf.l0] at H
            by_cases c12 : x1_2 > 0
            · rw [if_pos c12] at H
              have c12b0 : decide (0 < x1_2) = true := decide_eq_true c12
              clear c12
              by_cases c13 : x5_2.length < 17592186044416
              · rw [if_pos c13] at H
                have LMc13 := Aside0.mk c13
                clear c13
                obtain ⟨y159, hy159⟩ : ∃ y_ : List Int, y_ = (x5_2 ++ [x1_2]) := ⟨_, rfl⟩
                replace H : (if 0 ≤ (wrap64 (x1_2 - 1)) then (if (wrap64 (x1_2 - 1)) < (l0.length : Int) then (spec_ChainOf.l0 k2 l0 ((rd_T51 l0 (wrap64 (x1_2 - 1))).f5) y159) else (none)) else (none)) = some r := by first | (rw [hy159]; with_reducible exact H) | (have H2_ := (Option.bind_some _ _).symm.trans H; rw [hy159]; with_reducible exact H2_) | (have H2_ := (Option.bind_some _ _).symm.trans H; with_reducible exact H2_) | with_reducible exact H | (rw [hy159]; exact H) | exact H
                have Ny159 := Aside0.mk hy159
                clear hy159
                obtain ⟨ji14, hji14⟩ : ∃ j_ : Int, (wrap64 (x1_2 - 1)) = j_ := ⟨_, rfl⟩
                replace H : (if 0 ≤ (ji14) then (if (ji14) < (l0.length : Int) then (spec_ChainOf.l0 k2 l0 ((rd_T51 l0 (ji14)).f5) y159) else (none)) else (none)) = some r := by first | (rw [hji14] at H; exact H) | (simp only [hji14] at H ⊢; exact H)
                have hji14w : (IntKind.i64.wrap (x1_2 - 1)) = ji14 := (i64_w _).trans hji14
                by_cases c15 : 0 ≤ (ji14)
                · rw [if_pos c15] at H
                  have c15b0 : decide (0 ≤ (ji14)) = true := decide_eq_true c15
                  clear c15
                  by_cases c16 : (ji14) < (l0.length : Int)
                  · rw [if_pos c16] at H
                    have c16b0 : decide ((ji14) < (l0.length : Int)) = true := decide_eq_true c16
                    clear c16
                    have H' := Aside0.mk H
                    clear H
                    go_wp2_with (first | ((with_reducible refine gate_builtin (b := .append) (xs := #[.tmp 20, .tmp 22]) rfl ?_); (try (refine gate_guard (by rfl) ?_; dsimp only)); at_builtin; refine Kd.R_append (Kd.int .i64) (w0 := w) w.heap.size rfl (.tmp 20) (.tmp 22) 46 3 (.int .i64 0) 8 rfl Try.underlying46 info3 rfl (by decide) (by omega) u5 x5_2 x1_2 [.int .i64 x1_2] (fun _ => True) (fun _ => False) rfl rfl ?aP (fun _ hk => hk.elim) ?aF ?aO ?aB ?aS ?aL ?_; (case aP => exact rfl); (case aB => exact (by repeat (first | (with_reducible first | exact HB.out | apply below_alloc | apply pw_below_drewN | apply below_drew1) | exact HB.out))); (case aF => exact (fun _ _ => trivial)); (case aO => exact (by (with_reducible repeat (first | apply Kd.R_alloc | apply Kd.R_drewN | apply Kd.R_drew)); exact HO_5.out)); (case aS => exact (below_size (by repeat (first | (with_reducible first | exact HB.out | apply below_alloc | apply pw_below_drewN | apply below_drew1) | exact HB.out)))); (case aL => have := LMc13.out; omega); intro v160 w17 ho hb hg hat; rw [← Ny159.out] at ho; have n0_ := Aside0.mk (hb); have n1_ := Aside0.mk (ho); clear HB; clear HO_5; have HB := n0_; have HO161 := n1_; clear n0_ n1_; clear ho hb hg hat; have p162 : 0 ≤ ((ji14) : Int) := of_decide_eq_true (by first | (with_reducible assumption) | assumption); have q162 : (ji14) < (l0.length : Int) := of_decide_eq_true (by first | (with_reducible assumption) | assumption); obtain ⟨ad162, A162_3, c162_3, e162, hx162_0, hx162_1, hx162_2, hx162_3, hx162_4, hx162_5, hx162_6, hl162_3, hi162_3⟩ := at_T51 HR0.out (ji14) p162 q162; cases e162; replace hx162_0 := (HB.out.cell (World.block_lt_of_cell? w _ hx162_0)).trans hx162_0; replace hx162_1 := (HB.out.cell (World.block_lt_of_cell? w _ hx162_1)).trans hx162_1; replace hx162_2 := (HB.out.cell (World.block_lt_of_cell? w _ hx162_2)).trans hx162_2; replace hx162_3 := (HB.out.cell (World.block_lt_of_cell? w _ hx162_3)).trans hx162_3; replace hx162_4 := (HB.out.cell (World.block_lt_of_cell? w _ hx162_4)).trans hx162_4; replace hx162_5 := (HB.out.cell (World.block_lt_of_cell? w _ hx162_5)).trans hx162_5; replace hx162_6 := (HB.out.cell (World.block_lt_of_cell? w _ hx162_6)).trans hx162_6; have HR162_3 := Aside0.mk hi162_3; have HC162_3 := Aside0.mk hl162_3; clear hi162_3 hl162_3; replace p162 := eq_true p162; replace q162 := eq_true q162))
                    go_roundg k2
                    case measure => have := HJ2.out; have := HK2.out; omega
                    case rel => exact ⟨((rd_T51 l0 (ji14)).f5), (y159), (by first | rfl | (simp; done) | (simp only [← hji14] <;> (first | rfl | simp)) | (simp [*]; done)), H', ⟨by have := HJ2.out; have := HK2.out; omega⟩, ⟨by (with_reducible repeat (first | apply Kd.R_alloc | apply Kd.R_drewN | apply Kd.R_drew)); exact HO161.out⟩, ⟨by repeat (first | (with_reducible first | exact HB.out | apply below_alloc | apply pw_below_drewN | apply below_drew1) | exact HB.out)⟩⟩
                  · rw [if_neg c16] at H
                    exact absurd H (by simp)
                · rw [if_neg c15] at H
                  exact absurd H (by simp)
              · rw [if_neg c13] at H
                exact absurd H (by simp)
            · rw [if_neg c12] at H
              have c12b0 : decide (0 < x1_2) = false := decide_eq_false c12
              clear c12
              obtain rfl := Option.some.inj H
              go_wp2
              go_ret
              exact ⟨_, by first | rfl | (simp [errW_none, errW_some] <;> rfl) | (simp [*, errW_none, errW_some] <;> rfl), by (with_reducible repeat (first | apply Kd.R_alloc | apply Kd.R_drewN | apply Kd.R_drew)); exact HO_5.out, by repeat (first | (with_reducible first | exact HB.out | apply below_alloc | apply pw_below_drewN | apply below_drew1) | exact HB.out)⟩

/-! ### spec_RootOf: function 114 -/
def spec_RootOf.f (k : Nat) (l0 : List (S51)) (a1 : Int) : Option (Int) := (spec_ChainOf.f k l0 a1).bind fun t163 => (if (t163.length : Int) = 0 then (some 0) else (if 0 ≤ (wrap64 ((t163.length : Int) - 1)) then (if (wrap64 ((t163.length : Int) - 1)) < (t163.length : Int) then (if 0 ≤ (wrap64 ((rd t163 (wrap64 ((t163.length : Int) - 1))) - 1)) then (if (wrap64 ((rd t163 (wrap64 ((t163.length : Int) - 1))) - 1)) < (l0.length : Int) then (some ((rd_T51 l0 (wrap64 ((rd t163 (wrap64 ((t163.length : Int) - 1))) - 1))).f1)) else (none)) else (none)) else (none)) else (none)))
theorem spec_RootOf.mono : ∀ a0 a1 k, LeO (spec_RootOf.f k a0 a1) (spec_RootOf.f (k + 1) a0 a1) := by
  intro a0 a1 k
  unfold spec_RootOf.f
  repeat' first
      | (with_reducible exact spec_ChainOf.mono _ _ _)
      | (with_reducible exact LeO.refl _)
      | (with_reducible exact LeO.none _)
      | (with_reducible refine LeO.ite ?_ ?_)
      | (with_reducible refine LeO.bind ?_ (fun _ => ?_))
      | exact spec_ChainOf.mono _ _ _
      | exact LeO.none _
      | refine LeO.ite ?_ ?_
      | refine LeO.bind ?_ (fun _ => ?_)
set_option maxHeartbeats 8000000 in
set_option maxRecDepth 100000 in
theorem spec_RootOf.calls (k : Nat) (A0 : Option Addr) (c0 : Nat) (l0 : List (S51)) (a1 : Int) (r : Int) (w : World) (hr0 : Kd.C k51 w A0 l0.length l0) (hc0 : l0.length ≤ c0) (h : spec_RootOf.f k l0 a1 = some r) :
    Calls Try.prog 114 #[.slice A0 l0.length c0, .int .i64 a1] w fun e w' => e = .returned (.int .i64 r) ∧ Below w.heap.size w w' := by
  have HR0 := Aside0.mk hr0
  have HC0 := Aside0.mk hc0
  clear hr0 hc0
  have HB := Aside0.mk (Below.refl w.heap.size w)
  have H : ((spec_ChainOf.f k l0 a1).bind fun t163 => (if (t163.length : Int) = 0 then (some 0) else (if 0 ≤ (wrap64 ((t163.length : Int) - 1)) then (if (wrap64 ((t163.length : Int) - 1)) < (t163.length : Int) then (if 0 ≤ (wrap64 ((rd t163 (wrap64 ((t163.length : Int) - 1))) - 1)) then (if (wrap64 ((rd t163 (wrap64 ((t163.length : Int) - 1))) - 1)) < (l0.length : Int) then (some ((rd_T51 l0 (wrap64 ((rd t163 (wrap64 ((t163.length : Int) - 1))) - 1))).f1)) else (none)) else (none)) else (none)) else (none)))) = some r := h
  clear h
  replace H := Option.bind_eq_some_iff.mp H
  obtain ⟨t163, A30, H⟩ := H
  replace H : (if (t163.length : Int) = 0 then (some 0) else (if 0 ≤ (wrap64 ((t163.length : Int) - 1)) then (if (wrap64 ((t163.length : Int) - 1)) < (t163.length : Int) then (if 0 ≤ (wrap64 ((rd t163 (wrap64 ((t163.length : Int) - 1))) - 1)) then (if (wrap64 ((rd t163 (wrap64 ((t163.length : Int) - 1))) - 1)) < (l0.length : Int) then (some ((rd_T51 l0 (wrap64 ((rd t163 (wrap64 ((t163.length : Int) - 1))) - 1))).f1)) else (none)) else (none)) else (none)) else (none))) = some r := H
  have A3 := Aside0.mk A30
  clear A30
  by_cases c4 : (t163.length : Int) = 0
  · rw [if_pos c4] at H
    have c4b0 : ((t163.length : Int) == 0) = true := beq_iff_eq.mpr c4
    have c4b1 : ((t163.length : Int) != 0) = false := bne_eq_false_iff_eq.mpr c4
    clear c4
    obtain rfl := Option.some.inj H
    go_enter Try.func114, Try.ntmps114
    go_wp2_with (first | ((with_reducible refine gate_callee (f := 162) rfl ?_); refine goesL_ (some 8) rfl rfl Try.func162 (by kernel_rfl) rfl #[.slice A0 l0.length c0, .int .i64 a1] rfl (by (try simp only [List.map_toArray, List.map_cons, List.map_nil]); first | done | rfl | (simp only [List.length_drop, List.length_take]; rfl)) ?_; (with_reducible refine (spec_ChainOf.calls k _ _ l0 a1 t163 _ ?side1 ?side2 A3.out).mono ?_); (case side1 => repeat (first | exact HR0.out | (with_reducible refine Kd.C_alloc ?_ _) | (with_reducible refine Kd.C_drewN ?_ _) | (with_reducible refine Kd.C_drew ?_))); (case side2 => exact HC0.out); rintro e w5 ⟨v164, rfl, ho0, hb⟩; refine ⟨_, rfl, ?_⟩; have n0_ := Aside0.mk (Kd.R_lower ho0 (below_size (by repeat (first | (with_reducible first | exact HB.out | apply below_alloc | apply pw_below_drewN | apply below_drew1) | exact HB.out)))); have n1_ := Aside0.mk (below_step (by repeat (first | (with_reducible first | exact HB.out | apply below_alloc | apply pw_below_drewN | apply below_drew1) | exact HB.out)) hb); clear HB; have HO165 := n0_; have HB := n1_; clear n0_ n1_; (try clear hb); (try clear hb2); (try clear hk); (try clear hi); (try clear ho0); obtain ⟨Ao6, co6, eo6⟩ := Kd.R_slice HO165.out; subst eo6))
    go_ret
    exact ⟨by first | rfl | (simp [errW_none, errW_some] <;> rfl) | (simp [*, errW_none, errW_some] <;> rfl), by repeat (first | (with_reducible first | exact HB.out | apply below_alloc | apply pw_below_drewN | apply below_drew1) | exact HB.out)⟩
  · rw [if_neg c4] at H
    have c4b0 : ((t163.length : Int) == 0) = false := beq_eq_false_iff_ne.mpr c4
    have c4b1 : ((t163.length : Int) != 0) = true := bne_iff_ne.mpr c4
    have c4b2 : ¬ (t163 = []) := fun h_ => c4 (by rw [h_]; rfl)
    obtain ⟨ji7, hji7⟩ : ∃ j_ : Int, (wrap64 ((t163.length : Int) - 1)) = j_ := ⟨_, rfl⟩
    replace H : (if 0 ≤ (ji7) then (if (ji7) < (t163.length : Int) then (if 0 ≤ (wrap64 ((rd t163 (ji7)) - 1)) then (if (wrap64 ((rd t163 (ji7)) - 1)) < (l0.length : Int) then (some ((rd_T51 l0 (wrap64 ((rd t163 (ji7)) - 1))).f1)) else (none)) else (none)) else (none)) else (none)) = some r := by first | (rw [hji7] at H; exact H) | (simp only [hji7] at H ⊢; exact H)
    (try rw [hji7] at A3)
    have hji7w : (IntKind.i64.wrap ((t163.length : Int) - 1)) = ji7 := (i64_w _).trans hji7
    by_cases c8 : 0 ≤ (ji7)
    · rw [if_pos c8] at H
      have c8b0 : decide (0 ≤ (ji7)) = true := decide_eq_true c8
      clear c8
      by_cases c9 : (ji7) < (t163.length : Int)
      · rw [if_pos c9] at H
        have c9b0 : decide ((ji7) < (t163.length : Int)) = true := decide_eq_true c9
        clear c9
        obtain ⟨ji10, hji10⟩ : ∃ j_ : Int, (wrap64 ((rd t163 (ji7)) - 1)) = j_ := ⟨_, rfl⟩
        replace H : (if 0 ≤ (ji10) then (if (ji10) < (l0.length : Int) then (some ((rd_T51 l0 (ji10)).f1)) else (none)) else (none)) = some r := by first | (rw [hji10] at H; exact H) | (simp only [hji10] at H ⊢; exact H)
        (try rw [hji10] at A3)
        have hji10w : (IntKind.i64.wrap ((rd t163 (ji7)) - 1)) = ji10 := (i64_w _).trans hji10
        by_cases c11 : 0 ≤ (ji10)
        · rw [if_pos c11] at H
          have c11b0 : decide (0 ≤ (ji10)) = true := decide_eq_true c11
          clear c11
          by_cases c12 : (ji10) < (l0.length : Int)
          · rw [if_pos c12] at H
            have c12b0 : decide ((ji10) < (l0.length : Int)) = true := decide_eq_true c12
            clear c12
            obtain rfl := Option.some.inj H
            go_enter Try.func114, Try.ntmps114
            go_wp2_with (first | ((with_reducible refine gate_callee (f := 162) rfl ?_); refine goesL_ (some 8) rfl rfl Try.func162 (by kernel_rfl) rfl #[.slice A0 l0.length c0, .int .i64 a1] rfl (by (try simp only [List.map_toArray, List.map_cons, List.map_nil]); first | done | rfl | (simp only [List.length_drop, List.length_take]; rfl)) ?_; (with_reducible refine (spec_ChainOf.calls k _ _ l0 a1 t163 _ ?side1 ?side2 A3.out).mono ?_); (case side1 => repeat (first | exact HR0.out | (with_reducible refine Kd.C_alloc ?_ _) | (with_reducible refine Kd.C_drewN ?_ _) | (with_reducible refine Kd.C_drew ?_))); (case side2 => exact HC0.out); rintro e w13 ⟨v164, rfl, ho0, hb⟩; refine ⟨_, rfl, ?_⟩; have n0_ := Aside0.mk (Kd.R_lower ho0 (below_size (by repeat (first | (with_reducible first | exact HB.out | apply below_alloc | apply pw_below_drewN | apply below_drew1) | exact HB.out)))); have n1_ := Aside0.mk (below_step (by repeat (first | (with_reducible first | exact HB.out | apply below_alloc | apply pw_below_drewN | apply below_drew1) | exact HB.out)) hb); clear HB; have HO165 := n0_; have HB := n1_; clear n0_ n1_; (try clear hb); (try clear hb2); (try clear hk); (try clear hi); (try clear ho0); obtain ⟨Ao14, co14, eo14⟩ := Kd.R_slice HO165.out; subst eo14; have p166 : 0 ≤ ((ji7) : Int) := of_decide_eq_true (by first | (with_reducible assumption) | assumption); have q166 : (ji7) < (t163.length : Int) := of_decide_eq_true (by first | (with_reducible assumption) | assumption); obtain ⟨ad166, e166, hx166_0⟩ := Kd.at_int (Kd.R_reads' HO165.out).2.2 (ji7) p166 q166; cases e166; replace p166 := eq_true p166; replace q166 := eq_true q166; have p167 : 0 ≤ ((ji10) : Int) := of_decide_eq_true (by first | (with_reducible assumption) | assumption); have q167 : (ji10) < (l0.length : Int) := of_decide_eq_true (by first | (with_reducible assumption) | assumption); obtain ⟨ad167, A167_3, c167_3, e167, hx167_0, hx167_1, hx167_2, hx167_3, hx167_4, hx167_5, hx167_6, hl167_3, hi167_3⟩ := at_T51 HR0.out (ji10) p167 q167; cases e167; replace hx167_0 := (HB.out.cell (World.block_lt_of_cell? w _ hx167_0)).trans hx167_0; replace hx167_1 := (HB.out.cell (World.block_lt_of_cell? w _ hx167_1)).trans hx167_1; replace hx167_2 := (HB.out.cell (World.block_lt_of_cell? w _ hx167_2)).trans hx167_2; replace hx167_3 := (HB.out.cell (World.block_lt_of_cell? w _ hx167_3)).trans hx167_3; replace hx167_4 := (HB.out.cell (World.block_lt_of_cell? w _ hx167_4)).trans hx167_4; replace hx167_5 := (HB.out.cell (World.block_lt_of_cell? w _ hx167_5)).trans hx167_5; replace hx167_6 := (HB.out.cell (World.block_lt_of_cell? w _ hx167_6)).trans hx167_6; have HR167_3 := Aside0.mk hi167_3; have HC167_3 := Aside0.mk hl167_3; clear hi167_3 hl167_3; replace p167 := eq_true p167; replace q167 := eq_true q167))
            go_ret
            exact ⟨by first | rfl | (simp [errW_none, errW_some] <;> rfl) | (simp only [← hji7, ← hji10]; first | rfl | (simp [errW_none, errW_some] <;> rfl)) | (simp [*, errW_none, errW_some] <;> rfl), by repeat (first | (with_reducible first | exact HB.out | apply below_alloc | apply pw_below_drewN | apply below_drew1) | exact HB.out)⟩
          · rw [if_neg c12] at H
            exact absurd H (by simp)
        · rw [if_neg c11] at H
          exact absurd H (by simp)
      · rw [if_neg c9] at H
        exact absurd H (by simp)
    · rw [if_neg c8] at H
      exact absurd H (by simp)

/-! ### spec_MayActFor: function 47 -/
def spec_MayActFor.f (k : Nat) (l0 : List (S51)) (a1 : Int) (a2 : Int) (a3 : Int) (a4 : Int) : Option (Int) := (spec_IsGrantGood.f k l0 a1 a4).bind fun t168 => (if t168 = true then (if 0 ≤ (wrap64 (a1 - 1)) then (if (wrap64 (a1 - 1)) < (l0.length : Int) then (if ((rd_T51 l0 (wrap64 (a1 - 1))).f2) = a2 then ((spec_l13Has.f k ((rd_T51 l0 (wrap64 (a1 - 1))).f3) a3).bind fun t171 => (if t171 = true then ((spec_RootOf.f k l0 a1).bind fun t172 => (some t172)) else (some 0))) else (some 0)) else (none)) else (none)) else (some 0))
theorem spec_MayActFor.mono : ∀ a0 a1 a2 a3 a4 k, LeO (spec_MayActFor.f k a0 a1 a2 a3 a4) (spec_MayActFor.f (k + 1) a0 a1 a2 a3 a4) := by
  intro a0 a1 a2 a3 a4 k
  unfold spec_MayActFor.f
  repeat' first
      | (with_reducible exact spec_IsGrantGood.mono _ _ _ _)
      | (with_reducible exact spec_RootOf.mono _ _ _)
      | (with_reducible exact spec_l13Has.mono _ _ _)
      | (with_reducible exact LeO.refl _)
      | (with_reducible exact LeO.none _)
      | (with_reducible refine LeO.ite ?_ ?_)
      | (with_reducible refine LeO.bind ?_ (fun _ => ?_))
      | exact spec_IsGrantGood.mono _ _ _ _
      | exact spec_RootOf.mono _ _ _
      | exact spec_l13Has.mono _ _ _
      | exact LeO.none _
      | refine LeO.ite ?_ ?_
      | refine LeO.bind ?_ (fun _ => ?_)
set_option maxHeartbeats 8000000 in
set_option maxRecDepth 100000 in
theorem spec_MayActFor.calls (k : Nat) (A0 : Option Addr) (c0 : Nat) (l0 : List (S51)) (a1 : Int) (a2 : Int) (a3 : Int) (a4 : Int) (r : Int) (w : World) (hr0 : Kd.C k51 w A0 l0.length l0) (hc0 : l0.length ≤ c0) (h : spec_MayActFor.f k l0 a1 a2 a3 a4 = some r) :
    Calls Try.prog 47 #[.slice A0 l0.length c0, .int .i64 a1, .int .i64 a2, .int .i64 a3, .int .i64 a4] w fun e w' => e = .returned (.int .i64 r) ∧ Below w.heap.size w w' := by
  have HR0 := Aside0.mk hr0
  have HC0 := Aside0.mk hc0
  clear hr0 hc0
  have HB := Aside0.mk (Below.refl w.heap.size w)
  have H : ((spec_IsGrantGood.f k l0 a1 a4).bind fun t168 => (if t168 = true then (if 0 ≤ (wrap64 (a1 - 1)) then (if (wrap64 (a1 - 1)) < (l0.length : Int) then (if ((rd_T51 l0 (wrap64 (a1 - 1))).f2) = a2 then ((spec_l13Has.f k ((rd_T51 l0 (wrap64 (a1 - 1))).f3) a3).bind fun t171 => (if t171 = true then ((spec_RootOf.f k l0 a1).bind fun t172 => (some t172)) else (some 0))) else (some 0)) else (none)) else (none)) else (some 0))) = some r := h
  clear h
  replace H := Option.bind_eq_some_iff.mp H
  obtain ⟨t168, A60, H⟩ := H
  replace H : (if t168 = true then (if 0 ≤ (wrap64 (a1 - 1)) then (if (wrap64 (a1 - 1)) < (l0.length : Int) then (if ((rd_T51 l0 (wrap64 (a1 - 1))).f2) = a2 then ((spec_l13Has.f k ((rd_T51 l0 (wrap64 (a1 - 1))).f3) a3).bind fun t171 => (if t171 = true then ((spec_RootOf.f k l0 a1).bind fun t172 => (some t172)) else (some 0))) else (some 0)) else (none)) else (none)) else (some 0)) = some r := H
  have A6 := Aside0.mk A60
  clear A60
  by_cases c7 : t168 = true
  · subst c7
    have H1 : (if 0 ≤ (wrap64 (a1 - 1)) then (if (wrap64 (a1 - 1)) < (l0.length : Int) then (if ((rd_T51 l0 (wrap64 (a1 - 1))).f2) = a2 then ((spec_l13Has.f k ((rd_T51 l0 (wrap64 (a1 - 1))).f3) a3).bind fun t171 => (if t171 = true then ((spec_RootOf.f k l0 a1).bind fun t172 => (some t172)) else (some 0))) else (some 0)) else (none)) else (none)) = some r := by rw [if_pos rfl] at H; exact H
    clear H
    have H := H1
    clear H1
    obtain ⟨ji8, hji8⟩ : ∃ j_ : Int, (wrap64 (a1 - 1)) = j_ := ⟨_, rfl⟩
    replace H : (if 0 ≤ (ji8) then (if (ji8) < (l0.length : Int) then (if ((rd_T51 l0 (ji8)).f2) = a2 then ((spec_l13Has.f k ((rd_T51 l0 (ji8)).f3) a3).bind fun t171 => (if t171 = true then ((spec_RootOf.f k l0 a1).bind fun t172 => (some t172)) else (some 0))) else (some 0)) else (none)) else (none)) = some r := by first | (rw [hji8] at H; exact H) | (simp only [hji8] at H ⊢; exact H)
    (try rw [hji8] at A6)
    have hji8w : (IntKind.i64.wrap (a1 - 1)) = ji8 := (i64_w _).trans hji8
    by_cases c9 : 0 ≤ (ji8)
    · rw [if_pos c9] at H
      have c9b0 : decide (0 ≤ (ji8)) = true := decide_eq_true c9
      clear c9
      by_cases c10 : (ji8) < (l0.length : Int)
      · rw [if_pos c10] at H
        have c10b0 : decide ((ji8) < (l0.length : Int)) = true := decide_eq_true c10
        clear c10
        by_cases c11 : ((rd_T51 l0 (ji8)).f2) = a2
        · rw [if_pos c11] at H
          have c11b0 : (((rd_T51 l0 (ji8)).f2) == a2) = true := beq_iff_eq.mpr c11
          have c11b1 : (((rd_T51 l0 (ji8)).f2) != a2) = false := bne_eq_false_iff_eq.mpr c11
          clear c11
          replace H := Option.bind_eq_some_iff.mp H
          obtain ⟨t171, A120, H⟩ := H
          replace H : (if t171 = true then ((spec_RootOf.f k l0 a1).bind fun t172 => (some t172)) else (some 0)) = some r := H
          have A12 := Aside0.mk A120
          clear A120
          by_cases c13 : t171 = true
          · subst c13
            have H1 : ((spec_RootOf.f k l0 a1).bind fun t172 => (some t172)) = some r := by rw [if_pos rfl] at H; exact H
            clear H
            have H := H1
            clear H1
            replace H := Option.bind_eq_some_iff.mp H
            obtain ⟨t172, A140, H⟩ := H
            replace H : (some t172) = some r := H
            have A14 := Aside0.mk A140
            clear A140
            obtain rfl := Option.some.inj H
            go_enter Try.func47, Try.ntmps47
            go_wp2_with (first | ((with_reducible refine gate_callee (f := 113) rfl ?_); refine goesL_ (some 14) rfl rfl Try.func113 (by kernel_rfl) rfl #[.slice A0 l0.length c0, .int .i64 a1, .int .i64 a4] rfl (by (try simp only [List.map_toArray, List.map_cons, List.map_nil]); first | done | rfl | (simp only [List.length_drop, List.length_take]; rfl)) ?_; (with_reducible refine (spec_IsGrantGood.calls k _ _ l0 a1 a4 true _ ?side1 ?side2 A6.out).mono ?_); (case side1 => repeat (first | exact HR0.out | (with_reducible refine Kd.C_alloc ?_ _) | (with_reducible refine Kd.C_drewN ?_ _) | (with_reducible refine Kd.C_drew ?_))); (case side2 => exact HC0.out); rintro e w15 ⟨rfl, hb⟩; refine ⟨_, rfl, ?_⟩; have n0_ := Aside0.mk (below_step (by repeat (first | (with_reducible first | exact HB.out | apply below_alloc | apply pw_below_drewN | apply below_drew1) | exact HB.out)) hb); clear HB; have HB := n0_; clear n0_; (try clear hb); (try clear hb2); (try clear hk); (try clear hi); have p169 : 0 ≤ ((ji8) : Int) := of_decide_eq_true (by first | (with_reducible assumption) | assumption); have q169 : (ji8) < (l0.length : Int) := of_decide_eq_true (by first | (with_reducible assumption) | assumption); obtain ⟨ad169, A169_3, c169_3, e169, hx169_0, hx169_1, hx169_2, hx169_3, hx169_4, hx169_5, hx169_6, hl169_3, hi169_3⟩ := at_T51 HR0.out (ji8) p169 q169; cases e169; replace hx169_0 := (HB.out.cell (World.block_lt_of_cell? w _ hx169_0)).trans hx169_0; replace hx169_1 := (HB.out.cell (World.block_lt_of_cell? w _ hx169_1)).trans hx169_1; replace hx169_2 := (HB.out.cell (World.block_lt_of_cell? w _ hx169_2)).trans hx169_2; replace hx169_3 := (HB.out.cell (World.block_lt_of_cell? w _ hx169_3)).trans hx169_3; replace hx169_4 := (HB.out.cell (World.block_lt_of_cell? w _ hx169_4)).trans hx169_4; replace hx169_5 := (HB.out.cell (World.block_lt_of_cell? w _ hx169_5)).trans hx169_5; replace hx169_6 := (HB.out.cell (World.block_lt_of_cell? w _ hx169_6)).trans hx169_6; have HR169_3 := Aside0.mk hi169_3; have HC169_3 := Aside0.mk hl169_3; clear hi169_3 hl169_3; replace p169 := eq_true p169; replace q169 := eq_true q169; have p170 : 0 ≤ ((ji8) : Int) := of_decide_eq_true (by first | (with_reducible assumption) | assumption); have q170 : (ji8) < (l0.length : Int) := of_decide_eq_true (by first | (with_reducible assumption) | assumption); obtain ⟨ad170, A170_3, c170_3, e170, hx170_0, hx170_1, hx170_2, hx170_3, hx170_4, hx170_5, hx170_6, hl170_3, hi170_3⟩ := at_T51 HR0.out (ji8) p170 q170; obtain rfl : ad169 = ad170 := (by injection e170); replace hx170_0 := (HB.out.cell (World.block_lt_of_cell? w _ hx170_0)).trans hx170_0; replace hx170_1 := (HB.out.cell (World.block_lt_of_cell? w _ hx170_1)).trans hx170_1; replace hx170_2 := (HB.out.cell (World.block_lt_of_cell? w _ hx170_2)).trans hx170_2; replace hx170_3 := (HB.out.cell (World.block_lt_of_cell? w _ hx170_3)).trans hx170_3; replace hx170_4 := (HB.out.cell (World.block_lt_of_cell? w _ hx170_4)).trans hx170_4; replace hx170_5 := (HB.out.cell (World.block_lt_of_cell? w _ hx170_5)).trans hx170_5; replace hx170_6 := (HB.out.cell (World.block_lt_of_cell? w _ hx170_6)).trans hx170_6; have HR170_3 := Aside0.mk hi170_3; have HC170_3 := Aside0.mk hl170_3; clear hi170_3 hl170_3; replace p170 := eq_true p170; replace q170 := eq_true q170; have ea_ := Option.some.inj (hx169_3.symm.trans hx170_3); injection ea_ with ea_ en_ ec_; subst ea_; subst ec_; clear en_) | (go_at_call 103; (with_reducible refine (spec_l13Has.calls k _ _ ((rd_T51 l0 (ji8)).f3) a3 true _ ?side1 ?side2 A12.out).mono ?_); (case side1 => repeat (first | exact (Kd.C_below HR170_3.out HB.out) | (with_reducible refine Kd.C_alloc ?_ _) | (with_reducible refine Kd.C_drewN ?_ _) | (with_reducible refine Kd.C_drew ?_))); (case side2 => exact HC170_3.out); rintro e w' ⟨rfl, ⟨nd, rfl⟩⟩) | ((with_reducible refine gate_callee (f := 114) rfl ?_); refine goesL_ (some 39) rfl rfl Try.func114 (by kernel_rfl) rfl #[.slice (some ad169) l0.length c0, .int .i64 a1] rfl (by (try simp only [List.map_toArray, List.map_cons, List.map_nil]); first | done | rfl | (simp only [List.length_drop, List.length_take]; rfl)) ?_; (with_reducible refine (spec_RootOf.calls k _ _ l0 a1 t172 _ ?side1 ?side2 A14.out).mono ?_); (case side1 => repeat (first | exact (Kd.C_below HR0.out (by repeat (first | (with_reducible first | exact HB.out | apply below_alloc | apply pw_below_drewN | apply below_drew1) | exact HB.out))) | (with_reducible refine Kd.C_alloc ?_ _) | (with_reducible refine Kd.C_drewN ?_ _) | (with_reducible refine Kd.C_drew ?_))); (case side2 => exact HC0.out); rintro e w16 ⟨rfl, hb⟩; refine ⟨_, rfl, ?_⟩; have n0_ := Aside0.mk (below_step (by repeat (first | (with_reducible first | exact HB.out | apply below_alloc | apply pw_below_drewN | apply below_drew1) | exact HB.out)) hb); clear HB; have HB := n0_; clear n0_; (try clear hb); (try clear hb2); (try clear hk); (try clear hi)))
            go_ret
            exact ⟨by first | rfl | (simp [errW_none, errW_some] <;> rfl) | (simp only [← hji8]; first | rfl | (simp [errW_none, errW_some] <;> rfl)) | (simp [*, errW_none, errW_some] <;> rfl), by repeat (first | (with_reducible first | exact HB.out | apply below_alloc | apply pw_below_drewN | apply below_drew1) | exact HB.out)⟩
          · replace c13 := Bool.eq_false_iff.mpr c13
            subst c13
            have H1 : (some 0) = some r := by rw [if_neg (show ¬ (false = true) by decide)] at H; exact H
            clear H
            have H := H1
            clear H1
            obtain rfl := Option.some.inj H
            go_enter Try.func47, Try.ntmps47
            go_wp2_with (first | ((with_reducible refine gate_callee (f := 113) rfl ?_); refine goesL_ (some 14) rfl rfl Try.func113 (by kernel_rfl) rfl #[.slice A0 l0.length c0, .int .i64 a1, .int .i64 a4] rfl (by (try simp only [List.map_toArray, List.map_cons, List.map_nil]); first | done | rfl | (simp only [List.length_drop, List.length_take]; rfl)) ?_; (with_reducible refine (spec_IsGrantGood.calls k _ _ l0 a1 a4 true _ ?side1 ?side2 A6.out).mono ?_); (case side1 => repeat (first | exact HR0.out | (with_reducible refine Kd.C_alloc ?_ _) | (with_reducible refine Kd.C_drewN ?_ _) | (with_reducible refine Kd.C_drew ?_))); (case side2 => exact HC0.out); rintro e w17 ⟨rfl, hb⟩; refine ⟨_, rfl, ?_⟩; have n0_ := Aside0.mk (below_step (by repeat (first | (with_reducible first | exact HB.out | apply below_alloc | apply pw_below_drewN | apply below_drew1) | exact HB.out)) hb); clear HB; have HB := n0_; clear n0_; (try clear hb); (try clear hb2); (try clear hk); (try clear hi); have p169 : 0 ≤ ((ji8) : Int) := of_decide_eq_true (by first | (with_reducible assumption) | assumption); have q169 : (ji8) < (l0.length : Int) := of_decide_eq_true (by first | (with_reducible assumption) | assumption); obtain ⟨ad169, A169_3, c169_3, e169, hx169_0, hx169_1, hx169_2, hx169_3, hx169_4, hx169_5, hx169_6, hl169_3, hi169_3⟩ := at_T51 HR0.out (ji8) p169 q169; cases e169; replace hx169_0 := (HB.out.cell (World.block_lt_of_cell? w _ hx169_0)).trans hx169_0; replace hx169_1 := (HB.out.cell (World.block_lt_of_cell? w _ hx169_1)).trans hx169_1; replace hx169_2 := (HB.out.cell (World.block_lt_of_cell? w _ hx169_2)).trans hx169_2; replace hx169_3 := (HB.out.cell (World.block_lt_of_cell? w _ hx169_3)).trans hx169_3; replace hx169_4 := (HB.out.cell (World.block_lt_of_cell? w _ hx169_4)).trans hx169_4; replace hx169_5 := (HB.out.cell (World.block_lt_of_cell? w _ hx169_5)).trans hx169_5; replace hx169_6 := (HB.out.cell (World.block_lt_of_cell? w _ hx169_6)).trans hx169_6; have HR169_3 := Aside0.mk hi169_3; have HC169_3 := Aside0.mk hl169_3; clear hi169_3 hl169_3; replace p169 := eq_true p169; replace q169 := eq_true q169; have p170 : 0 ≤ ((ji8) : Int) := of_decide_eq_true (by first | (with_reducible assumption) | assumption); have q170 : (ji8) < (l0.length : Int) := of_decide_eq_true (by first | (with_reducible assumption) | assumption); obtain ⟨ad170, A170_3, c170_3, e170, hx170_0, hx170_1, hx170_2, hx170_3, hx170_4, hx170_5, hx170_6, hl170_3, hi170_3⟩ := at_T51 HR0.out (ji8) p170 q170; obtain rfl : ad169 = ad170 := (by injection e170); replace hx170_0 := (HB.out.cell (World.block_lt_of_cell? w _ hx170_0)).trans hx170_0; replace hx170_1 := (HB.out.cell (World.block_lt_of_cell? w _ hx170_1)).trans hx170_1; replace hx170_2 := (HB.out.cell (World.block_lt_of_cell? w _ hx170_2)).trans hx170_2; replace hx170_3 := (HB.out.cell (World.block_lt_of_cell? w _ hx170_3)).trans hx170_3; replace hx170_4 := (HB.out.cell (World.block_lt_of_cell? w _ hx170_4)).trans hx170_4; replace hx170_5 := (HB.out.cell (World.block_lt_of_cell? w _ hx170_5)).trans hx170_5; replace hx170_6 := (HB.out.cell (World.block_lt_of_cell? w _ hx170_6)).trans hx170_6; have HR170_3 := Aside0.mk hi170_3; have HC170_3 := Aside0.mk hl170_3; clear hi170_3 hl170_3; replace p170 := eq_true p170; replace q170 := eq_true q170; have ea_ := Option.some.inj (hx169_3.symm.trans hx170_3); injection ea_ with ea_ en_ ec_; subst ea_; subst ec_; clear en_) | (go_at_call 103; (with_reducible refine (spec_l13Has.calls k _ _ ((rd_T51 l0 (ji8)).f3) a3 false _ ?side1 ?side2 A12.out).mono ?_); (case side1 => repeat (first | exact (Kd.C_below HR170_3.out HB.out) | (with_reducible refine Kd.C_alloc ?_ _) | (with_reducible refine Kd.C_drewN ?_ _) | (with_reducible refine Kd.C_drew ?_))); (case side2 => exact HC170_3.out); rintro e w' ⟨rfl, ⟨nd, rfl⟩⟩))
            go_ret
            exact ⟨by first | rfl | (simp [errW_none, errW_some] <;> rfl) | (simp only [← hji8]; first | rfl | (simp [errW_none, errW_some] <;> rfl)) | (simp [*, errW_none, errW_some] <;> rfl), by repeat (first | (with_reducible first | exact HB.out | apply below_alloc | apply pw_below_drewN | apply below_drew1) | exact HB.out)⟩
        · rw [if_neg c11] at H
          have c11b0 : (((rd_T51 l0 (ji8)).f2) == a2) = false := beq_eq_false_iff_ne.mpr c11
          have c11b1 : (((rd_T51 l0 (ji8)).f2) != a2) = true := bne_iff_ne.mpr c11
          obtain rfl := Option.some.inj H
          go_enter Try.func47, Try.ntmps47
          go_wp2_with (first | ((with_reducible refine gate_callee (f := 113) rfl ?_); refine goesL_ (some 14) rfl rfl Try.func113 (by kernel_rfl) rfl #[.slice A0 l0.length c0, .int .i64 a1, .int .i64 a4] rfl (by (try simp only [List.map_toArray, List.map_cons, List.map_nil]); first | done | rfl | (simp only [List.length_drop, List.length_take]; rfl)) ?_; (with_reducible refine (spec_IsGrantGood.calls k _ _ l0 a1 a4 true _ ?side1 ?side2 A6.out).mono ?_); (case side1 => repeat (first | exact HR0.out | (with_reducible refine Kd.C_alloc ?_ _) | (with_reducible refine Kd.C_drewN ?_ _) | (with_reducible refine Kd.C_drew ?_))); (case side2 => exact HC0.out); rintro e w18 ⟨rfl, hb⟩; refine ⟨_, rfl, ?_⟩; have n0_ := Aside0.mk (below_step (by repeat (first | (with_reducible first | exact HB.out | apply below_alloc | apply pw_below_drewN | apply below_drew1) | exact HB.out)) hb); clear HB; have HB := n0_; clear n0_; (try clear hb); (try clear hb2); (try clear hk); (try clear hi); have p169 : 0 ≤ ((ji8) : Int) := of_decide_eq_true (by first | (with_reducible assumption) | assumption); have q169 : (ji8) < (l0.length : Int) := of_decide_eq_true (by first | (with_reducible assumption) | assumption); obtain ⟨ad169, A169_3, c169_3, e169, hx169_0, hx169_1, hx169_2, hx169_3, hx169_4, hx169_5, hx169_6, hl169_3, hi169_3⟩ := at_T51 HR0.out (ji8) p169 q169; cases e169; replace hx169_0 := (HB.out.cell (World.block_lt_of_cell? w _ hx169_0)).trans hx169_0; replace hx169_1 := (HB.out.cell (World.block_lt_of_cell? w _ hx169_1)).trans hx169_1; replace hx169_2 := (HB.out.cell (World.block_lt_of_cell? w _ hx169_2)).trans hx169_2; replace hx169_3 := (HB.out.cell (World.block_lt_of_cell? w _ hx169_3)).trans hx169_3; replace hx169_4 := (HB.out.cell (World.block_lt_of_cell? w _ hx169_4)).trans hx169_4; replace hx169_5 := (HB.out.cell (World.block_lt_of_cell? w _ hx169_5)).trans hx169_5; replace hx169_6 := (HB.out.cell (World.block_lt_of_cell? w _ hx169_6)).trans hx169_6; have HR169_3 := Aside0.mk hi169_3; have HC169_3 := Aside0.mk hl169_3; clear hi169_3 hl169_3; replace p169 := eq_true p169; replace q169 := eq_true q169))
          go_ret
          exact ⟨by first | rfl | (simp [errW_none, errW_some] <;> rfl) | (simp only [← hji8]; first | rfl | (simp [errW_none, errW_some] <;> rfl)) | (simp [*, errW_none, errW_some] <;> rfl), by repeat (first | (with_reducible first | exact HB.out | apply below_alloc | apply pw_below_drewN | apply below_drew1) | exact HB.out)⟩
      · rw [if_neg c10] at H
        exact absurd H (by simp)
    · rw [if_neg c9] at H
      exact absurd H (by simp)
  · replace c7 := Bool.eq_false_iff.mpr c7
    subst c7
    have H1 : (some 0) = some r := by rw [if_neg (show ¬ (false = true) by decide)] at H; exact H
    clear H
    have H := H1
    clear H1
    obtain rfl := Option.some.inj H
    go_enter Try.func47, Try.ntmps47
    go_wp2_with (first | ((with_reducible refine gate_callee (f := 113) rfl ?_); refine goesL_ (some 14) rfl rfl Try.func113 (by kernel_rfl) rfl #[.slice A0 l0.length c0, .int .i64 a1, .int .i64 a4] rfl (by (try simp only [List.map_toArray, List.map_cons, List.map_nil]); first | done | rfl | (simp only [List.length_drop, List.length_take]; rfl)) ?_; (with_reducible refine (spec_IsGrantGood.calls k _ _ l0 a1 a4 false _ ?side1 ?side2 A6.out).mono ?_); (case side1 => repeat (first | exact HR0.out | (with_reducible refine Kd.C_alloc ?_ _) | (with_reducible refine Kd.C_drewN ?_ _) | (with_reducible refine Kd.C_drew ?_))); (case side2 => exact HC0.out); rintro e w19 ⟨rfl, hb⟩; refine ⟨_, rfl, ?_⟩; have n0_ := Aside0.mk (below_step (by repeat (first | (with_reducible first | exact HB.out | apply below_alloc | apply pw_below_drewN | apply below_drew1) | exact HB.out)) hb); clear HB; have HB := n0_; clear n0_; (try clear hb); (try clear hb2); (try clear hk); (try clear hi)))
    go_ret
    exact ⟨by first | rfl | (simp [errW_none, errW_some] <;> rfl) | (simp [*, errW_none, errW_some] <;> rfl), by repeat (first | (with_reducible first | exact HB.out | apply below_alloc | apply pw_below_drewN | apply below_drew1) | exact HB.out)⟩

/-! ### impl_InRange: function 141 -/
def impl_InRange.f (a0 : Int) (a1 : Int) (a2 : Int) : Option (Bool) := if a1 ≤ a0 then (some (decide (a0 ≤ a2))) else (some false)
set_option maxHeartbeats 8000000 in
set_option maxRecDepth 100000 in
theorem impl_InRange.calls (a0 : Int) (a1 : Int) (a2 : Int) (r : Bool) (w : World) (h : impl_InRange.f a0 a1 a2 = some r) :
    Calls Try.prog 141 #[.int .i64 a0, .int .i64 a1, .int .i64 a2] w fun e w' => e = .returned (.bool r) ∧ Drawn0 w w' := by
  have H : (if a1 ≤ a0 then (some (decide (a0 ≤ a2))) else (some false)) = some r := h
  clear h
  by_cases c4 : a1 ≤ a0
  · rw [if_pos c4] at H
    have c4b0 : decide (a1 ≤ a0) = true := decide_eq_true c4
    clear c4
    obtain rfl := Option.some.inj H
    go_enter Try.func141, Try.ntmps141
    go_wp2
    go_ret
    exact ⟨by first | rfl | (simp; done) | (simp [*]; done), by repeat (first | exact Drawn0.refl _ | apply Drawn0.step)⟩
  · rw [if_neg c4] at H
    have c4b0 : decide (a1 ≤ a0) = false := decide_eq_false c4
    clear c4
    obtain rfl := Option.some.inj H
    go_enter Try.func141, Try.ntmps141
    go_wp2
    go_ret
    exact ⟨by first | rfl | (simp; done) | (simp [*]; done), by repeat (first | exact Drawn0.refl _ | apply Drawn0.step)⟩

/-! ### impl_IsName: function 121 -/
def impl_IsName.f (a0 : Int) : Option (Bool) := (impl_InRange.f a0 10 49).bind fun t173 => (some t173)
set_option maxHeartbeats 8000000 in
set_option maxRecDepth 100000 in
theorem impl_IsName.calls (a0 : Int) (r : Bool) (w : World) (h : impl_IsName.f a0 = some r) :
    Calls Try.prog 121 #[.int .i64 a0] w fun e w' => e = .returned (.bool r) ∧ Drawn0 w w' := by
  have H : ((impl_InRange.f a0 10 49).bind fun t173 => (some t173)) = some r := h
  clear h
  replace H := Option.bind_eq_some_iff.mp H
  obtain ⟨t173, A20, H⟩ := H
  replace H : (some t173) = some r := H
  have A2 := Aside0.mk A20
  clear A20
  obtain rfl := Option.some.inj H
  go_enter Try.func121, Try.ntmps121
  go_wp2_with (first | ((with_reducible refine gate_callee (f := 141) rfl ?_); refine goesL_ (some 4) rfl rfl Try.func141 (by kernel_rfl) rfl #[.int .i64 a0, .int .i64 10, .int .i64 49] rfl (by (try simp only [List.map_toArray, List.map_cons, List.map_nil]); first | done | rfl | (simp only [List.length_drop, List.length_take]; rfl)) ?_; (with_reducible refine (impl_InRange.calls a0 10 49 t173 _ A2.out).mono ?_); rintro e w' ⟨rfl, ⟨nd, rfl⟩⟩; refine ⟨_, rfl, ?_⟩))
  go_ret
  exact ⟨by first | rfl | (simp; done) | (simp [*]; done), by repeat (first | exact Drawn0.refl _ | apply Drawn0.step)⟩

/-! ### impl_KindOf: function 122 -/
def impl_KindOf.f (a0 : Int) : Option (Int) := (impl_IsName.f a0).bind fun t174 => (if t174 = true then (some (wrap64 (Int.tdiv a0 10))) else (some 0))
set_option maxHeartbeats 8000000 in
set_option maxRecDepth 100000 in
theorem impl_KindOf.calls (a0 : Int) (r : Int) (w : World) (h : impl_KindOf.f a0 = some r) :
    Calls Try.prog 122 #[.int .i64 a0] w fun e w' => e = .returned (.int .i64 r) ∧ Drawn0 w w' := by
  have H : ((impl_IsName.f a0).bind fun t174 => (if t174 = true then (some (wrap64 (Int.tdiv a0 10))) else (some 0))) = some r := h
  clear h
  replace H := Option.bind_eq_some_iff.mp H
  obtain ⟨t174, A20, H⟩ := H
  replace H : (if t174 = true then (some (wrap64 (Int.tdiv a0 10))) else (some 0)) = some r := H
  have A2 := Aside0.mk A20
  clear A20
  by_cases c3 : t174 = true
  · subst c3
    have H1 : (some (wrap64 (Int.tdiv a0 10))) = some r := by rw [if_pos rfl] at H; exact H
    clear H
    have H := H1
    clear H1
    obtain rfl := Option.some.inj H
    go_enter Try.func122, Try.ntmps122
    go_wp2_with (first | ((with_reducible refine gate_callee (f := 121) rfl ?_); refine goesL_ (some 4) rfl rfl Try.func121 (by kernel_rfl) rfl #[.int .i64 a0] rfl (by (try simp only [List.map_toArray, List.map_cons, List.map_nil]); first | done | rfl | (simp only [List.length_drop, List.length_take]; rfl)) ?_; (with_reducible refine (impl_IsName.calls a0 true _ A2.out).mono ?_); rintro e w' ⟨rfl, ⟨nd, rfl⟩⟩; refine ⟨_, rfl, ?_⟩))
    go_ret
    exact ⟨by first | rfl | (simp; done) | (simp [*]; done), by repeat (first | exact Drawn0.refl _ | apply Drawn0.step)⟩
  · replace c3 := Bool.eq_false_iff.mpr c3
    subst c3
    have H1 : (some 0) = some r := by rw [if_neg (show ¬ (false = true) by decide)] at H; exact H
    clear H
    have H := H1
    clear H1
    obtain rfl := Option.some.inj H
    go_enter Try.func122, Try.ntmps122
    go_wp2_with (first | ((with_reducible refine gate_callee (f := 121) rfl ?_); refine goesL_ (some 4) rfl rfl Try.func121 (by kernel_rfl) rfl #[.int .i64 a0] rfl (by (try simp only [List.map_toArray, List.map_cons, List.map_nil]); first | done | rfl | (simp only [List.length_drop, List.length_take]; rfl)) ?_; (with_reducible refine (impl_IsName.calls a0 false _ A2.out).mono ?_); rintro e w' ⟨rfl, ⟨nd, rfl⟩⟩; refine ⟨_, rfl, ?_⟩))
    go_ret
    exact ⟨by first | rfl | (simp; done) | (simp [*]; done), by repeat (first | exact Drawn0.refl _ | apply Drawn0.step)⟩

end Go.Proofs.Ytplfbjbbnjlnkaa.QFnExactMayActFor
