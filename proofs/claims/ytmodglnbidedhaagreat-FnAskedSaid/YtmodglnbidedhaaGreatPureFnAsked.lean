/- The law FnAsked answers true for all arguments, over numbers and lists alone: what each function computes, and that program and reference compute the same. No condition. -/
import Derived.Lib.RowBridge
import Derived.Test.YtmodglnbidedhaaGreatQFnAskedx0
import Derived.Test.YtmodglnbidedhaaGreatL
namespace Go.Proofs.YtmodglnbidedhaaGreat.Pure
open Go.RowKit Go.Proofs.YtmodglnbidedhaaGreat.QFnAsked Go.Proofs.YtmodglnbidedhaaGreatL Go.Proofs.YtmodglnbidedhaaGreatW.PrintWords Go.Proofs.YtmodglnbidedhaaGreatW.PrintLast
set_option linter.unusedVariables false
set_option linter.unusedSimpArgs false
theorem eta114 (x : S114) : (⟨x.f0, x.f1, x.f2, x.f3⟩ : S114) = x := by cases x; rfl
mutual
def n114 : S114 → Nat
 | ⟨x0, x1, x2, x3⟩ => x3.length + nL114 x3
def nL114 : List S114 → Nat
 | [] => 0
 | x :: l => n114 x + nL114 l
end
theorem nL114_eq : ∀ l : List S114, nL114 l = (l.map n114).sum
 | [] => by simp [nL114]
 | x :: l => by simp [nL114, nL114_eq l]
theorem n114_f (x : S114) : n114 x = x.f3.length + (x.f3.map n114).sum := by
 cases x
 simp only [n114, nL114_eq]
def n116 (x : S116) : Nat := n114 x.f3
def n27 (x : S27) : Nat := x.f1.length + (x.f1.map n116).sum
def n29 (x : S29) : Nat := x.f2.length + n27 x.f3
def n34 (x : S34) : Nat := n29 x.f1 + x.f2.length + x.f3.length + x.f5.length
theorem WI {l : List S109} {i : Nat} {x : S109} (h : l[i]? = some x) : Zu l (i : Int) = x := getD_nat l _ i x h
theorem Wz {l : List S114} {i : Nat} {x : S114} (h : l[i]? = some x) : ZR l (i : Int) = x := getD_nat l _ i x h
theorem WC {l : List S116} {i : Nat} {x : S116} (h : l[i]? = some x) : Zt l (i : Int) = x := getD_nat l _ i x h
theorem Wu {l : List S100} {i : Nat} {x : S100} (h : l[i]? = some x) : Zb l (i : Int) = x := getD_nat l _ i x h
theorem WA {l : List S82} {i : Nat} {x : S82} (h : l[i]? = some x) : XK l (i : Int) = x := getD_nat l _ i x h
theorem WB {l : List S62} {i : Nat} {x : S62} (h : l[i]? = some x) : ZB l (i : Int) = x := getD_nat l _ i x h
def eqT109 (x y : S109) : Bool := (x.f0 == y.f0) && ((x.f1 == y.f1))
def eqT100 (x y : S100) : Bool := (x.f0 == y.f0) && ((x.f1 == y.f1) && ((x.f2 == y.f2) && ((x.f3 == y.f3) && ((x.f4 == y.f4) && ((x.f5 == y.f5))))))
def eqT82 (x y : S82) : Bool := (x.f0 == y.f0) && ((x.f1 == y.f1))
def eqT38 (x y : S38) : Bool := (x.f0 == y.f0) && ((x.f1 == y.f1) && ((x.f2 == y.f2) && ((x.f3 == y.f3) && ((x.f4 == y.f4) && ((x.f5 == y.f5))))))
def eqT62 (x y : S62) : Bool := (x.f0.f0 == y.f0.f0) && ((x.f0.f1 == y.f0.f1) && ((x.f0.f2 == y.f0.f2) && ((x.f0.f3 == y.f0.f3) && ((x.f0.f4 == y.f0.f4) && ((x.f0.f5 == y.f0.f5) && ((x.f1 == y.f1) && ((x.f2 == y.f2))))))))
def eqT36 (x y : S36) : Bool := (x.f0 == y.f0) && ((x.f1 == y.f1) && ((x.f2 == y.f2) && ((x.f3 == y.f3) && ((x.f4 == y.f4) && ((x.f5 == y.f5))))))
theorem Tn (l : List Int) (h : l.length ≤ 1048576) : ∃ x, Ev (fun k => Y9.f k l) (l, 0, x) := by
 have key : ∀ (n i : Nat) (a : Int), i + n = l.length → ∃ x, Ev (fun k => Y9.l0 k l a (i : Int)) (l, 0, x) := by
  intro n
  induction n with
  | zero =>
   intro i a e
   obtain rfl : i = l.length := by omega
   refine ⟨a, Ev.succ ?_⟩
   simp only [Y9.l0, Int.lt_irrefl, if_false]
   exact Ev.now _
  | succ n ih =>
   intro i a e
   have hi : i < l.length := by omega
   have h1 : ((i : Int) < (l.length : Int)) = True := eq_true (by omega)
   have h2 : (0 ≤ (i : Int)) = True := eq_true (by omega)
   by_cases c : (i : Int) < 4000
   ·obtain ⟨x, hx⟩ := ih (i + 1) (Go.bits .and .i64 (wrap64 ((wrap64 ((wrap64 (a * 137)) + (wrap64 (rd l (i : Int))))) + 11)) 1073741823) (by omega)
    refine ⟨x, Ev.succ ?_⟩
    simp only [Y9.l0, h1, h2, if_true, if_pos c, wr1 hi (by omega)]
    exact hx
   ·refine ⟨a, Ev.succ ?_⟩
    simp only [Y9.l0, h1, if_true, if_neg c]
    exact Ev.now _
 exact key l.length 0 _ (by omega)
theorem and255 (a : Int) : 0 ≤ Go.bits .and .i64 a 255 ∧ Go.bits .and .i64 a 255 ≤ 255 := by
 show 0 ≤ IntKind.i64.wrap ((BitVec.ofInt 64 a &&& BitVec.ofInt 64 255).toNat : Int) ∧ IntKind.i64.wrap ((BitVec.ofInt 64 a &&& BitVec.ofInt 64 255).toNat : Int) ≤ 255
 have e : (BitVec.ofInt 64 255).toNat = 255 := by decide
 have h : (BitVec.ofInt 64 a &&& BitVec.ofInt 64 255).toNat ≤ 255 := by rw [BitVec.toNat_and, e]; exact Nat.and_le_right
 generalize (BitVec.ofInt 64 a &&& BitVec.ofInt 64 255).toNat = m at h ⊢
 have hw : IntKind.i64.wrap (m : Int) = (m : Int) := by
  rw [i64_w]
  exact wr (by omega) (by omega)
 rw [hw]
 omega
theorem Td (s : List Int) (i h : Int) (h0 : 0 ≤ i) (h1 : i ≤ s.length) (hs : s.length ≤ 1048576) : ∃ x j h', Xy.f s i h = some (x, j, h') ∧ 0 ≤ x ∧ x ≤ 255 ∧ 0 ≤ j ∧ j ≤ s.length := by
 unfold Xy.f
 by_cases c : i < (s.length : Int)
 ·rw [if_pos c, if_pos h0]
  have e : wrap64 (i + 1) = i + 1 := wr (by omega) (by omega)
  exact ⟨_, _, _, rfl, (and255 _).1, (and255 _).2, by omega, by omega⟩
 ·rw [if_neg c]
  exact ⟨_, _, _, rfl, (and255 _).1, (and255 _).2, h0, h1⟩
theorem ZN (s : List Int) (i h : Int) (h0 : 0 ≤ i) (h1 : i ≤ s.length) (hs : s.length ≤ 1048576) (n : Int) (n0 : 0 < n) (n1 : n ≤ 256) : ∃ x j h', Zd.f s i h n = some (x, j, h') ∧ 0 ≤ x ∧ x < n ∧ 0 ≤ j ∧ j ≤ s.length := by
 obtain ⟨x, j, h', e, x0, x1, j0, j1⟩ := Td s i h h0 h1 hs
 unfold Zd.f
 rw [if_neg (by omega), if_pos n1, e, Option.bind_some, if_neg (by omega)]
 exact ⟨_, _, _, rfl, Int.tmod_nonneg _ x0, Int.tmod_lt_of_pos _ n0, j0, j1⟩
theorem Uv (s : List Int) (i h : Int) (h0 : 0 ≤ i) (h1 : i ≤ s.length) (hs : s.length ≤ 1048576) : ∃ (l : List S109) (j g : Int), Ev (fun k => Yw.f k s i h) (l, j, g) ∧ l.length ≤ 3 ∧ 0 ≤ j ∧ j ≤ s.length := by
 have key : ∀ (m : Nat) (l : List S109) (i h : Int), 0 ≤ i → i ≤ s.length → l.length + m ≤ 3 → ∃ (l' : List S109) (j g : Int), Ev (fun k => Yw.l0 k s i h l (m : Int)) (l', j, g) ∧ l'.length ≤ 3 ∧ 0 ≤ j ∧ j ≤ s.length := by
  intro m
  induction m with
  | zero =>
   intro l i h i0 i1 hl
   refine ⟨l, i, h, Ev.succ ?_, by omega, i0, i1⟩
   simp only [Yw.l0]
   exact Ev.neg (by omega) (Ev.now _)
  | succ m ih =>
   intro l i h i0 i1 hl
   obtain ⟨a, i2, g2, e2, a0, a1, i20, i21⟩ := ZN s i h i0 i1 hs 5 (by omega) (by omega)
   have hw2 : wrap64 (1 + a) = 1 + a := wr (by omega) (by omega)
   obtain ⟨b, i3, g3, e3, _, _, i30, i31⟩ := ZN s i2 g2 i20 i21 hs (1 + a) (by omega) (by omega)
   obtain ⟨l', j, g, e', hl', hj⟩ := ih (l ++ [⟨1 + a, b⟩]) i3 g3 i30 i31 (by rw [List.length_append, List.length_singleton]; omega)
   refine ⟨l', j, g, Ev.succ ?_, hl', hj⟩
   have hp : (((m + 1 : Nat) : Int) > 0) = True := eq_true (by omega)
   have hw : wrap64 (((m + 1 : Nat) : Int) - 1) = (m : Int) := by rw [wr (by omega) (by omega)]; omega
   have hl2 : (l.length < 8796093022208) = True := eq_true (by omega)
   simp only [Yw.l0, hp, if_true, hw, e2, hw2, e3, Option.bind_some, hl2]
   exact e'
 obtain ⟨n, i2, g2, e2, n0, n1, i20, i21⟩ := ZN s i h h0 h1 hs 4 (by omega) (by omega)
 obtain ⟨m, rfl⟩ : ∃ m : Nat, n = (m : Int) := ⟨n.toNat, by omega⟩
 obtain ⟨l, j, g, e, hl, hj⟩ := key m [] i2 g2 i20 i21 (by simp; omega)
 refine ⟨l, j, g, ?_, hl, hj⟩
 unfold Yw.f
 simp only [e2, Option.bind_some]
 exact e
theorem Ww (s : List Int) (i h : Int) (h0 : 0 ≤ i) (h1 : i ≤ s.length) (hs : s.length ≤ 1048576) (a : Int) : ∃ x j h', Yz.f s i h a = some (x, j, h') ∧ 0 ≤ j ∧ j ≤ s.length := by
 obtain ⟨x, j, g, e, _, _, j0, j1⟩ := ZN s i h h0 h1 hs 3 (by omega) (by omega)
 unfold Yz.f
 rw [e, Option.bind_some]
 exact ⟨_, _, _, rfl, j0, j1⟩
theorem Vy (s : List Int) (i h : Int) (h0 : 0 ≤ i) (h1 : i ≤ s.length) (hs : s.length ≤ 1048576) : ∃ (x : S100) (j g : Int), XS.f s i h = some (x.f0, x.f1, x.f2, x.f3, x.f4, x.f5, j, g) ∧ 0 ≤ j ∧ j ≤ s.length := by
 obtain ⟨a, i1, g1, e1, _, _, i10, i11⟩ := ZN s i h h0 h1 hs 4 (by omega) (by omega)
 obtain ⟨b, i2, g2, e2, _, _, i20, i21⟩ := ZN s i1 g1 i10 i11 hs 3 (by omega) (by omega)
 obtain ⟨c, i3, g3, e3, _, _, i30, i31⟩ := ZN s i2 g2 i20 i21 hs 20 (by omega) (by omega)
 obtain ⟨d, i4, g4, e4, _, _, i40, i41⟩ := ZN s i3 g3 i30 i31 hs 30 (by omega) (by omega)
 obtain ⟨p, i5, g5, e5, i50, i51⟩ := Ww s i4 g4 i40 i41 hs 1
 obtain ⟨q, i6, g6, e6, i60, i61⟩ := Ww s i4 g4 i40 i41 hs 2
 obtain ⟨r, i7, g7, e7, i70, i71⟩ := Ww s i4 g4 i40 i41 hs 3
 obtain ⟨_, i8, g8, e8, _, _, i80, i81⟩ := ZN s i5 g5 i50 i51 hs 4 (by omega) (by omega)
 obtain ⟨_, i9, g9, e9, i90, i91⟩ := Ww s i5 g5 i50 i51 hs 2
 obtain ⟨_, j1, k1, f1, _, _, j10, j11⟩ := ZN s i6 g6 i60 i61 hs 4 (by omega) (by omega)
 obtain ⟨_, j2, k2, f2, _, _, j20, j21⟩ := ZN s i7 g7 i70 i71 hs 4 (by omega) (by omega)
 unfold XS.f
 simp only [e1, e2, e3, e4, e5, e6, e7, e8, e9, f1, f2, Option.bind_some]
 by_cases c1 : wrap64 (1 + a) = 1
 ·exact ⟨⟨_, _, _, _, _, _⟩, i8, g8, if_pos c1, i80, i81⟩
 rw [if_neg c1]
 by_cases c2 : wrap64 (1 + a) = 2
 ·exact ⟨⟨_, _, _, _, _, _⟩, i9, g9, if_pos c2, i90, i91⟩
 rw [if_neg c2]
 by_cases c3 : wrap64 (1 + a) = 3
 ·exact ⟨⟨_, _, _, _, _, _⟩, j1, k1, if_pos c3, j10, j11⟩
 rw [if_neg c3]
 exact ⟨⟨_, _, _, _, _, _⟩, j2, k2, rfl, j20, j21⟩
theorem Wq (a b c : Int) : Zw.f a b c = some (inB a b c) := by
 unfold Zw.f
 rw [ite_dand]; rfl
theorem Vz (a : Int) : XT.f a = some (nameB a) := by
 unfold XT.f
 rw [Wq]; rfl
theorem WT (a b : Int) : YE.f a b = some (kindB a b) := by
 unfold YE.f kindB
 rw [Vz, Option.bind_some]
 cases h : nameB a with
 | true => simp only [if_true, name_div h, Bool.true_and]; rfl
 | false => rfl
theorem Wt (a : Int) : Zj.f a = some (timeB a) := by
 unfold Zj.f
 rw [Wq]; rfl
def adjT {α : Type} (p : α → Bool) (q : α → α → Bool) : α → List α → Bool
 | _, [] => true
 | y, x :: t => p x && (q y x && adjT p q x t)
def adjB {α : Type} (p : α → Bool) (q : α → α → Bool) : List α → Bool
 | [] => true
 | x :: t => p x && adjT p q x t
theorem ev_adj {α : Type} (l : List α) (p : α → Bool) (q : α → α → Bool) (fin : Bool) (L : Nat → Int → Option Bool) (hend : Ev (fun k => L k (l.length : Int)) fin)
  (hs0 : ∀ x r, l[0]? = some x → Ev (fun k => L k ((0 + 1 : Nat) : Int)) r → Ev (fun k => L k 0) (p x && r))
  (hs : ∀ (i : Nat) y x r, l[i]? = some y → l[i + 1]? = some x → Ev (fun k => L k ((i + 1 + 1 : Nat) : Int)) r → Ev (fun k => L k ((i + 1 : Nat) : Int)) (p x && (q y x && r))) : Ev (fun k => L k 0) (adjB p q l && fin) := by
 have key : ∀ (d i : Nat) (y : α), l[i]? = some y → l.length - (i + 1) = d → Ev (fun k => L k ((i + 1 : Nat) : Int)) (adjT p q y (l.drop (i + 1)) && fin) := by
  intro d
  induction d with
  | zero =>
   intro i y hy hd
   have hi := lt_of_get hy
   have e : i + 1 = l.length := by omega
   rw [e, List.drop_length]
   exact hend
  | succ d ih =>
   intro i y hy hd
   have hi : i + 1 < l.length := by omega
   have hx : l[i + 1]? = some l[i + 1] := List.getElem?_eq_getElem hi
   have h := hs i y l[i + 1] _ hy hx (ih (i + 1) l[i + 1] hx (by omega))
   rw [List.drop_eq_getElem_cons hi]
   simp only [adjT, Bool.and_assoc]
   exact h
 cases l with
 | nil => exact hend
 | cons x t =>
  have h := hs0 x _ rfl (key _ 0 x rfl rfl)
  simp only [adjB, Bool.and_assoc]
  exact h
theorem wrp {i n : Nat} (h : i + 1 < n) (hn : n ≤ 9223372036854775807) : wrap64 (((i + 1 : Nat) : Int) - 1) = (i : Int) := by rw [wr (by omega) (by omega)]; omega
def claimB (x : S100) : Bool := if x.f0 = 1 then kindB x.f1 1 && inB x.f2 0 5 else if x.f0 = 2 then kindB x.f1 1 && kindB x.f2 2 else if x.f0 = 3 then kindB x.f1 2 && inB x.f2 0 3 else if x.f0 = 4 then kindB x.f1 3 && inB x.f2 0 3 else false
def factB (x : S100) : Bool := claimB x && (inB x.f3 0 9 && (timeB x.f4 && (timeB x.f5 && decide (x.f4 ≤ x.f5))))
def factQ (y x : S100) : Bool := if y.f0 = x.f0 then if y.f1 = x.f1 then if y.f2 = x.f2 then decide (y.f3 < x.f3) else decide (y.f2 < x.f2) else decide (y.f1 < x.f1) else decide (y.f0 < x.f0)
def storeB (l : List S100) : Bool := adjB factB factQ l && decide ((l.length : Int) ≤ 30)
theorem WP (x : S100) : Xz.f x.f0 x.f1 x.f2 x.f3 x.f4 x.f5 = some (factB x) := by
 unfold Xz.f factB claimB
 simp only [WT, Wq, Wt, Option.bind_some, ite_and]
 (repeat' split) <;> first | rfl | simp only [Bool.and_assoc, Bool.false_and]
theorem WN (y x : S100) : Yy.f y.f0 y.f1 y.f2 y.f3 y.f4 y.f5 x.f0 x.f1 x.f2 x.f3 x.f4 x.f5 = some (factQ y x) := by
 unfold Yy.f factQ
 (repeat' split) <;> rfl
theorem Vk (l : List S100) (h : l.length ≤ 1048576) : Ev (fun k => Z5.f k l) (storeB l) := by
 unfold Z5.f storeB
 refine ev_adj l factB factQ _ (fun k i => Z5.l0 k l i) ?_ ?_ ?_
 ·refine Ev.succ ?_
  simp only [Z5.l0, Int.lt_irrefl, if_false]
  exact Ev.now _
 ·intro x r hx hr
  have hi := lt_of_get hx
  have h1 : ((0 : Int) < (l.length : Int)) = True := eq_true (by omega)
  have e := Wu hx
  have e2 := wr1 hi (show l.length ≤ 9223372036854775807 by omega)
  simp only [Int.ofNat_zero, Int.natCast_zero] at e e2
  refine Ev.succ ?_
  simp only [Z5.l0, h1, if_true, Int.le_refl, gt_iff_lt, Int.lt_irrefl, if_false, e, e2, WP, WN, Option.bind_some]
  exact Ev.bifT fun _ => hr
 ·intro i y x r hy hx hr
  have hi := lt_of_get hx
  have h1 : (((i + 1 : Nat) : Int) < (l.length : Int)) = True := eq_true (by omega)
  have h2 : (0 ≤ ((i + 1 : Nat) : Int)) = True := eq_true (by omega)
  have h3 : (((i + 1 : Nat) : Int) > 0) = True := eq_true (by omega)
  have h4 : (0 ≤ (i : Int)) = True := eq_true (by omega)
  have h5 : ((i : Int) < (l.length : Int)) = True := eq_true (by omega)
  refine Ev.succ ?_
  simp only [Z5.l0, h1, h2, h3, h4, h5, if_true, Wu hx, Wu hy, wr1 hi (show l.length ≤ 9223372036854775807 by omega), wrp hi (show l.length ≤ 9223372036854775807 by omega), WP, WN, Option.bind_some]
  exact Ev.bifT fun _ => Ev.bifT fun _ => hr
theorem VY (y x : S100) : ∃ b, YO.f y.f0 y.f1 y.f2 y.f3 y.f4 y.f5 x.f0 x.f1 x.f2 x.f3 x.f4 x.f5 = some b := by
 unfold YO.f
 (repeat' split) <;> exact ⟨_, rfl⟩
theorem WX (l : List S100) (h : l.length ≤ 1048576) : Xv.f l = some l := by
 unfold Xv.f
 rw [if_pos (by omega)]; rfl
def Tt {α : Type} (f : Nat → Option α) (P : α → Prop) : Prop := ∃ a, Ev f a ∧ P a
theorem Tt.now {α : Type} {P : α → Prop} {a : α} (h : P a) : Tt (fun _ => some a) P := ⟨a, Ev.now a, h⟩
theorem Tt.ev {α : Type} {P : α → Prop} {f : Nat → Option α} {a : α} (e : Ev f a) (h : P a) : Tt f P := ⟨a, e, h⟩
theorem Tt.bind {α β : Type} {P : α → Prop} {Q : β → Prop} {f : Nat → Option α} {g : Nat → α → Option β} (h : Tt f P) (k : ∀ a, P a → Tt (fun n => g n a) Q) : Tt (fun n => (f n).bind (g n)) Q := by
 obtain ⟨a, e, ha⟩ := h
 obtain ⟨b, e2, hb⟩ := k a ha
 exact ⟨b, Ev.bind e e2, hb⟩
theorem Tt.mono {α : Type} {P Q : α → Prop} {f : Nat → Option α} (h : Tt f P) (k : ∀ a, P a → Q a) : Tt f Q := by
 obtain ⟨a, e, ha⟩ := h
 exact ⟨a, e, k a ha⟩
theorem Tt.ite {α : Type} {P : α → Prop} {c : Prop} [Decidable c] {f g : Nat → Option α} (h1 : c → Tt f P) (h2 : ¬ c → Tt g P) : Tt (fun k => if c then f k else g k) P := by
 by_cases hc : c
 ·simp only [if_pos hc]; exact h1 hc
 ·simp only [if_neg hc]; exact h2 hc
theorem Tt.pos {α : Type} {P : α → Prop} {c : Prop} [Decidable c] {f g : Nat → Option α} (hc : c) (h1 : Tt f P) : Tt (fun k => if c then f k else g k) P := by
 simp only [if_pos hc]; exact h1
theorem Tt.neg {α : Type} {P : α → Prop} {c : Prop} [Decidable c] {f g : Nat → Option α} (hc : ¬ c) (h1 : Tt g P) : Tt (fun k => if c then f k else g k) P := by
 simp only [if_neg hc]; exact h1
theorem Tt.succ {α : Type} {P : α → Prop} {g : Nat → Option α} (h : Tt (fun k => g (k + 1)) P) : Tt g P := by
 obtain ⟨a, e, ha⟩ := h
 exact ⟨a, Ev.succ e, ha⟩
theorem Tt.up {σ β : Type} {Q : β → Prop} (n : Nat) (L : Nat → Nat → σ → Option β) (I : Nat → σ → Prop)
  (hstep : ∀ i s, i < n → I i s → (∀ s', I (i + 1) s' → Tt (fun k => L k (i + 1) s') Q) → Tt (fun k => L k i s) Q)
  (hend : ∀ s, I n s → Tt (fun k => L k n s) Q) : ∀ i s, i ≤ n → I i s → Tt (fun k => L k i s) Q := by
 have key : ∀ d i s, n - i = d → i ≤ n → I i s → Tt (fun k => L k i s) Q := by
  intro d
  induction d with
  | zero =>
   intro i s hd hi hI
   obtain rfl : i = n := by omega
   exact hend s hI
  | succ d ih =>
   intro i s hd hi hI
   exact hstep i s (by omega) hI fun s' h' => ih (i + 1) s' (by omega) (by omega) h'
 exact fun i s hi hI => key (n - i) i s rfl hi hI
theorem Tt.down {σ β : Type} {Q : β → Prop} (L : Nat → Nat → σ → Option β) (I : Nat → σ → Prop)
  (hstep : ∀ m s, I (m + 1) s → (∀ s', I m s' → Tt (fun k => L k m s') Q) → Tt (fun k => L k (m + 1) s) Q)
  (hend : ∀ s, I 0 s → Tt (fun k => L k 0 s) Q) : ∀ m s, I m s → Tt (fun k => L k m s) Q := by
 intro m
 induction m with
 | zero => exact hend
 | succ m ih => exact fun s hI => hstep m s hI fun s' h' => ih s' h'
theorem Vl (l : List S100) (x : S100) (h : l.length ≤ 30) : Tt (fun k => Zm.f k l x.f0 x.f1 x.f2 x.f3 x.f4 x.f5) (fun r => r.1.length ≤ 30) := by
 have key := Tt.up (Q := fun r : List S100 × Bool => r.1.length ≤ 30) l.length (fun k i (s : List S100 × Bool) => Zm.l0 k l x.f0 x.f1 x.f2 x.f3 x.f4 x.f5 s.1 s.2 (i : Int)) (fun i s => s.1.length ≤ 2 * i)
  (by
   rintro i ⟨o, f⟩ hi hI ih
   obtain ⟨y, hy⟩ := getAt (l := l) (i := i) hi
   obtain ⟨b, hb⟩ := VY x y
   have h1 : ((i : Int) < (l.length : Int)) = True := eq_true (by omega)
   have h2 : (0 ≤ (i : Int)) = True := eq_true (by omega)
   refine Tt.succ ?_
   dsimp only at hI ⊢
   simp only [Zm.l0, h1, h2, if_true, Wu hy, hb, WN x y, Option.bind_some, wr1 hi (show l.length ≤ 9223372036854775807 by omega)]
   repeat' first
    | exact ih (_, _) (by simp only [List.length_append, List.length_singleton]; omega)
    | refine Tt.ite (fun _ => ?_) (fun _ => ?_)
    | (exfalso; rename_i hn; try simp only [List.length_append, List.length_singleton] at hn
       omega))
  (by
   rintro ⟨o, f⟩ hI
   dsimp only at hI ⊢
   refine Tt.succ ?_
   simp only [Zm.l0, Int.lt_irrefl, if_false, Option.bind_some, WX l (by omega)]
   repeat' first
    | refine Tt.ite (fun _ => ?_) (fun _ => ?_)
    | exact Tt.now h
    | (refine Tt.now ?_; dsimp only; omega)
    | (exfalso; rename_i hn; omega))
  0 ([], false) (by omega) (by simp)
 obtain ⟨b, hb⟩ := (⟨_, Vk l (by omega)⟩ : ∃ b, Ev (fun k => Z5.f k l) b)
 unfold Zm.f
 refine Tt.bind (Tt.ev (P := fun _ => True) hb trivial) fun t _ => ?_
 simp only [WP, Option.bind_some, WX l (by omega)]
 repeat' first
  | exact key
  | exact Tt.now h
  | refine Tt.ite (fun _ => ?_) (fun _ => ?_)
theorem UN (s : List Int) (i h : Int) (h0 : 0 ≤ i) (h1 : i ≤ s.length) (hs : s.length ≤ 1048576) : Tt (fun k => YP.f k s i h) (fun r => r.1.length ≤ 30 ∧ 0 ≤ r.2.1 ∧ r.2.1 ≤ s.length) := by
 obtain ⟨n, i1, g1, e1, n0, n1, i10, i11⟩ := ZN s i h h0 h1 hs 10 (by omega) (by omega)
 obtain ⟨m, rfl⟩ : ∃ m : Nat, n = (m : Int) := ⟨n.toNat, by omega⟩
 unfold YP.f
 simp only [e1, Option.bind_some]
 refine Tt.down (Q := fun r : List S100 × Int × Int => r.1.length ≤ 30 ∧ 0 ≤ r.2.1 ∧ r.2.1 ≤ s.length) (fun k m (t : List S100 × Int × Int) => YP.l0 k s t.2.1 t.2.2 t.1 (m : Int)) (fun m t => m ≤ 10 ∧ t.1.length ≤ 30 ∧ 0 ≤ t.2.1 ∧ t.2.1 ≤ s.length) ?_ ?_ m ([], i1, g1) ⟨by omega, by simp, i10, i11⟩
 ·rintro m ⟨l, i, h⟩ ⟨hm, hl, hi, hi'⟩ ih
  dsimp only at hl hi hi' ⊢
  obtain ⟨x, i2, g2, e2, i20, i21⟩ := Vy s i h hi hi' hs
  have hp : (((m + 1 : Nat) : Int) > 0) = True := eq_true (by omega)
  have hw : wrap64 (((m + 1 : Nat) : Int) - 1) = (m : Int) := by rw [wr (by omega) (by omega)]; omega
  refine Tt.succ ?_
  simp only [YP.l0, hp, if_true, hw, e2, Option.bind_some]
  exact Tt.bind (Vl l x hl) fun r hr => ih (r.1, i2, g2) ⟨by omega, hr, i20, i21⟩
 ·rintro ⟨l, i, h⟩ ⟨hm, hl, hi, hi'⟩
  refine Tt.succ ?_
  dsimp only at hl hi hi' ⊢
  simp only [YP.l0]
  exact Tt.neg (by omega) (Tt.now ⟨hl, hi, hi'⟩)
theorem WY (s : List Int) (i h : Int) (h0 : 0 ≤ i) (h1 : i ≤ s.length) (hs : s.length ≤ 1048576) : ∃ (a b c d e f : Int) (j g : Int), YJ.f s i h = some (a, b, c, d, e, f, j, g) ∧ 0 ≤ f ∧ f < 30 ∧ 0 ≤ j ∧ j ≤ s.length := by
 obtain ⟨a, i1, g1, e1, i10, i11⟩ := Ww s i h h0 h1 hs 1
 obtain ⟨b, i2, g2, e2, i20, i21⟩ := Ww s i1 g1 i10 i11 hs 2
 obtain ⟨c, i3, g3, e3, i30, i31⟩ := Ww s i2 g2 i20 i21 hs 3
 obtain ⟨d, i4, g4, e4, _, _, i40, i41⟩ := ZN s i3 g3 i30 i31 hs 2 (by omega) (by omega)
 obtain ⟨e, i5, g5, e5, i50, i51⟩ := Ww s i4 g4 i40 i41 hs 4
 obtain ⟨f, i6, g6, e6, f0, f1, i60, i61⟩ := ZN s i5 g5 i50 i51 hs 30 (by omega) (by omega)
 refine ⟨a, b, c, d, e, f, i6, g6, ?_, f0, f1, i60, i61⟩
 unfold YJ.f
 simp only [e1, e2, e3, e4, e5, e6, Option.bind_some]
theorem W6 (a b : Int) : Wc.f a b = some (if b > a then b else a) := by
 unfold Wc.f; split <;> rfl
theorem UO (s : List Int) (i h : Int) (h0 : 0 ≤ i) (h1 : i ≤ s.length) (hs : s.length ≤ 1048576) : Tt (fun k => Yv.f k s i h) (fun r => r.1.length ≤ 3 ∧ r.2.1.length ≤ 30 ∧ 0 ≤ r.2.2.2.2.2.2.2.2.1 ∧ r.2.2.2.2.2.2.2.2.1 ≤ s.length) := by
 unfold Yv.f
 obtain ⟨p, i1, g1, e1, hp, i10, i11⟩ := Uv s i h h0 h1 hs
 refine Tt.bind (Tt.ev (P := fun r => r = (p, i1, g1)) e1 rfl) ?_
 rintro _ rfl
 refine Tt.bind (UN s i1 g1 i10 i11 hs) ?_
 rintro ⟨st, i2, g2⟩ ⟨hst, i20, i21⟩
 dsimp only at hst i20 i21 ⊢
 obtain ⟨a, b, c, d, e, f, i3, g3, e3, _, _, i30, i31⟩ := WY s i2 g2 i20 i21 hs
 obtain ⟨n, i4, g4, e4, n0, n1, i40, i41⟩ := ZN s i3 g3 i30 i31 hs 5 (by omega) (by omega)
 obtain ⟨m, rfl⟩ : ∃ m : Nat, n = (m : Int) := ⟨n.toNat, by omega⟩
 simp only [e3, e4, Option.bind_some]
 refine Tt.down (Q := fun r : List S109 × List S100 × Int × Int × Int × Int × Int × Int × Int × Int => r.1.length ≤ 3 ∧ r.2.1.length ≤ 30 ∧ 0 ≤ r.2.2.2.2.2.2.2.2.1 ∧ r.2.2.2.2.2.2.2.2.1 ≤ s.length) (fun k m (t : List S100 × Int × Int) => Yv.l0 k s t.2.1 t.2.2 0 0 0 0 0 0 p t.1 a b c d e f (m : Int)) (fun m t => m ≤ 10 ∧ t.1.length ≤ 30 ∧ 0 ≤ t.2.1 ∧ t.2.1 ≤ s.length) ?_ ?_ m (st, i4, g4) ⟨by omega, hst, i40, i41⟩
 ·rintro m ⟨l, i, h⟩ ⟨hm, hl, hi, hi'⟩ ih
  dsimp only at hl hi hi' ⊢
  obtain ⟨x, i5, g5, e5, i50, i51⟩ := Vy s i h hi hi' hs
  obtain ⟨u, i6, g6, e6, _, _, i60, i61⟩ := ZN s i5 g5 i50 i51 hs 6 (by omega) (by omega)
  obtain ⟨v, i7, g7, e7, _, _, i70, i71⟩ := ZN s i6 g6 i60 i61 hs 10 (by omega) (by omega)
  have hp : (((m + 1 : Nat) : Int) > 0) = True := eq_true (by omega)
  have hw : wrap64 (((m + 1 : Nat) : Int) - 1) = (m : Int) := by rw [wr (by omega) (by omega)]; omega
  refine Tt.succ ?_
  simp only [Yv.l0, hp, if_true, hw, e5, e6, e7, W6, Option.bind_some]
  have st : ∀ y0 y1 y2 y3 y4 y5 : Int, Tt (fun k => (Zm.f k l y0 y1 y2 y3 y4 y5).bind fun t63 => Yv.l0 k s i7 g7 0 0 0 0 0 0 p t63.1 a b c d e f (m : Int)) (fun r => r.1.length ≤ 3 ∧ r.2.1.length ≤ 30 ∧ 0 ≤ r.2.2.2.2.2.2.2.2.1 ∧ r.2.2.2.2.2.2.2.2.1 ≤ s.length) := fun y0 y1 y2 y3 y4 y5 => Tt.bind (Vl l ⟨y0, y1, y2, y3, y4, y5⟩ hl) fun r hr => ih (r.1, i7, g7) ⟨by omega, hr, i70, i71⟩
  refine Tt.ite (fun _ => st _ _ _ _ _ _) (fun _ => Tt.ite (fun _ => st _ _ _ _ _ _) (fun _ => Tt.ite (fun _ => st _ _ _ _ _ _) (fun _ => st _ _ _ _ _ _)))
 ·rintro ⟨l, i, h⟩ ⟨hm, hl, hi, hi'⟩
  refine Tt.succ ?_
  dsimp only at hl hi hi' ⊢
  simp only [Yv.l0]
  exact Tt.neg (by omega) (Tt.now ⟨by dsimp only; omega, hl, hi, hi'⟩)
theorem Wx (s : List Int) (i h : Int) (h0 : 0 ≤ i) (h1 : i ≤ s.length) (hs : s.length ≤ 1048576) (l : List Int) (n0 : 0 < l.length) (n1 : l.length ≤ 256) : ∃ x j h', Ym.f s i h l = some (x, j, h') ∧ 0 ≤ j ∧ j ≤ s.length := by
 obtain ⟨x, j, h', e, x0, x1, j0, j1⟩ := ZN s i h h0 h1 hs (l.length : Int) (by omega) (by omega)
 unfold Ym.f
 rw [e, Option.bind_some, if_pos x0, if_pos x1]
 exact ⟨_, _, _, rfl, j0, j1⟩
theorem Vm (s : List Int) (i h : Int) (h0 : 0 ≤ i) (h1 : i ≤ s.length) (hs : s.length ≤ 1048576) : ∃ (x : S114) (j g : Int), Xa.f s i h = some (x.f0, x.f1, x.f2, x.f3, j, g) ∧ n114 x = 0 ∧ 0 ≤ j ∧ j ≤ s.length := by
 have nz : ∀ a b c : Int, n114 (⟨a, b, c, []⟩ : S114) = 0 := by intro a b c; rw [n114_f]; rfl
 obtain ⟨age, i1, g1, e1, i10, i11⟩ := Wx s i h h0 h1 hs [3, 10, 20] (by simp) (by simp)
 obtain ⟨m, i2, g2, e2, m0, m1, i20, i21⟩ := ZN s i1 g1 i10 i11 hs 7 (by omega) (by omega)
 obtain ⟨v, i3, g3, e3, _, _, i30, i31⟩ := ZN s i2 g2 i20 i21 hs 3 (by omega) (by omega)
 obtain ⟨v', i4, g4, e4, _, _, i40, i41⟩ := ZN s i2 g2 i20 i21 hs 2 (by omega) (by omega)
 obtain ⟨u, i5, g5, e5, i50, i51⟩ := Wx s i2 g2 i20 i21 hs [5, 15, 25] (by simp) (by simp)
 unfold Xa.f
 simp only [e1, e2, e3, e4, e5, Option.bind_some]
 by_cases c0 : m = 0
 ·exact ⟨⟨1, 0, 0, []⟩, i2, g2, if_pos c0, nz _ _ _, i20, i21⟩
 rw [if_neg c0]
 by_cases c1 : m = 1
 ·exact ⟨⟨2, v, age, []⟩, i3, g3, if_pos c1, nz _ _ _, i30, i31⟩
 rw [if_neg c1]
 by_cases c2 : m = 2
 ·exact ⟨⟨2, v, age, []⟩, i3, g3, if_pos c2, nz _ _ _, i30, i31⟩
 rw [if_neg c2]
 by_cases c3 : m = 3
 ·exact ⟨⟨3, 0, age, []⟩, i2, g2, if_pos c3, nz _ _ _, i20, i21⟩
 rw [if_neg c3]
 by_cases c4 : m = 4
 ·exact ⟨⟨4, wrap64 (1 + v), age, []⟩, i3, g3, if_pos c4, nz _ _ _, i30, i31⟩
 rw [if_neg c4]
 by_cases c5 : m = 5
 ·exact ⟨⟨5, wrap64 (1 + v'), age, []⟩, i4, g4, if_pos c5, nz _ _ _, i40, i41⟩
 rw [if_neg c5]
 exact ⟨⟨6, u, 0, []⟩, i5, g5, rfl, nz _ _ _, i50, i51⟩
theorem WF (s : List Int) (i h : Int) (h0 : 0 ≤ i) (h1 : i ≤ s.length) (hs : s.length ≤ 1048576) (n : Int) (n0 : 0 < n) (n1 : n ≤ 256) : ∃ x j h', YN.f s i h n = some (x, j, h') ∧ 0 ≤ j ∧ j ≤ s.length := by
 obtain ⟨x, j, g, e, _, _, j0, j1⟩ := ZN s i h h0 h1 hs n n0 n1
 unfold YN.f
 rw [e, Option.bind_some]
 exact ⟨_, _, _, rfl, j0, j1⟩
theorem copyC_evN (N : Nat) : ∀ x : S114, n114 x ≤ N → N ≤ 1048576 → Ev (fun k => ZE.f k x.f0 x.f1 x.f2 x.f3) (x.f0, x.f1, x.f2, x.f3) := by
 induction N using Nat.strongRecOn with
 | _ N ih =>
 intro x h hN
 rw [n114_f] at h
 refine Ev.succ ?_
 simp only [ZE.f]
 have key : ∀ (d i : Nat), x.f3.length - i = d → i ≤ x.f3.length → Ev (fun k => ZE.l0 k x.f0 x.f1 x.f2 x.f3 0 0 0 [] x.f0 x.f1 x.f2 (x.f3.take i) (i : Int)) (x.f0, x.f1, x.f2, x.f3) := by
  intro d
  induction d with
  | zero =>
   intro i hd hi
   obtain rfl : i = x.f3.length := by omega
   refine Ev.succ ?_
   simp only [ZE.l0, Int.lt_irrefl, if_false, List.take_length]
   exact Ev.now _
  | succ d ihd =>
   intro i hd hi
   have hi' : i < x.f3.length := by omega
   obtain ⟨y, hy⟩ := getAt (l := x.f3) (i := i) hi'
   have hn := le_sum n114 hy
   have h1 : ((i : Int) < (x.f3.length : Int)) = True := eq_true (by omega)
   have h2 : (0 ≤ (i : Int)) = True := eq_true (by omega)
   have h3 : ((x.f3.take i).length < 2932031007402) = True := eq_true (by rw [List.length_take]; omega)
   have e := ih (n114 y) (by omega) y (Nat.le_refl _) (by omega)
   have e3 : x.f3.take i ++ [y] = x.f3.take (i + 1) := by rw [List.take_add_one, hy]; rfl
   refine Ev.succ ?_
   simp only [ZE.l0, h1, h2, if_true, Wz hy, wr1 hi' (by omega)]
   refine Ev.bind e ?_
   simp only [h3, if_true, eta114, e3]
   exact ihd (i + 1) (by omega) (by omega)
 exact key x.f3.length 0 (by omega) (by omega)
theorem WD (x : S114) (h : n114 x ≤ 1048576) : Ev (fun k => ZE.f k x.f0 x.f1 x.f2 x.f3) (x.f0, x.f1, x.f2, x.f3) := copyC_evN _ x (Nat.le_refl _) h
theorem UP (x : S114) (h : n114 x ≤ 1048576) : Ev (fun k => XL.f k x.f0 x.f1 x.f2 x.f3) (7, 0, 0, [x]) := by
 unfold XL.f
 refine Ev.bind (WD x h) ?_
 simp only [eta114]
 exact Ev.now _
theorem Vn (x y : S114) (h : n114 x ≤ 1048576) (h2 : n114 y ≤ 1048576) : Ev (fun k => XC.f k x.f0 x.f1 x.f2 x.f3 y.f0 y.f1 y.f2 y.f3) (8, 0, 0, [x, y]) := by
 unfold XC.f
 refine Ev.bind (WD x h) (Ev.bind (WD y h2) ?_)
 simp only [eta114]
 exact Ev.now _
theorem Tf (x y : S114) (h : n114 x ≤ 1048576) (h2 : n114 y ≤ 1048576) : Ev (fun k => X6.f k x.f0 x.f1 x.f2 x.f3 y.f0 y.f1 y.f2 y.f3) (9, 0, 0, [x, y]) := by
 unfold X6.f
 refine Ev.bind (WD x h) (Ev.bind (WD y h2) ?_)
 simp only [eta114]
 exact Ev.now _
theorem condN1 (a b c : Int) (x : S114) : n114 (⟨a, b, c, [x]⟩ : S114) = 1 + n114 x := by rw [n114_f]; simp
theorem condN2 (a b c : Int) (x y : S114) : n114 (⟨a, b, c, [x, y]⟩ : S114) = 2 + (n114 x + n114 y) := by rw [n114_f]; simp
theorem Uw (s : List Int) (hs : s.length ≤ 1048576) : ∀ (D : Nat) (i h : Int), D ≤ 2 → 0 ≤ i → i ≤ s.length → ∃ (x : S114) (j g : Int), Ev (fun k => ZO.f k s i h (D : Int)) (x.f0, x.f1, x.f2, x.f3, j, g) ∧ n114 x ≤ (if D = 0 then 0 else if D = 1 then 2 else 6) ∧ 0 ≤ j ∧ j ≤ s.length := by
 intro D
 induction D with
 | zero =>
  intro i h _ i0 i1
  obtain ⟨x, j, g, e, hx, j0, j1⟩ := Vm s i h i0 i1 hs
  refine ⟨x, j, g, Ev.succ ?_, by omega, j0, j1⟩
  simp only [ZO.f, e, Option.bind_some]
  exact Ev.pos (by omega) (Ev.now _)
 | succ D ih =>
  intro i h hD i0 i1
  have w : wrap64 (((D + 1 : Nat) : Int) - 1) = (D : Int) := by rw [wr (by omega) (by omega)]; omega
  have hle : (if D = 0 then 0 else if D = 1 then 2 else 6 : Nat) ≤ 2 := by
   split
   ·omega
   ·split <;> omega
  have bnd : 2 + ((if D = 0 then 0 else if D = 1 then 2 else 6) + (if D = 0 then 0 else if D = 1 then 2 else 6)) ≤ (if D + 1 = 0 then 0 else if D + 1 = 1 then 2 else 6 : Nat) := by
   have hd : D = 0 ∨ D = 1 := by omega
   rcases hd with rfl | rfl <;> decide
  obtain ⟨o, i2, g2, e2, i20, i21⟩ := WF s i h i0 i1 hs 3 (by omega) (by omega)
  have hn : ¬ ((D + 1 : Nat) : Int) < 1 := by omega
  cases o with
  | true =>
   obtain ⟨x, j, g, e, hx, j0, j1⟩ := Vm s i2 g2 i20 i21 hs
   refine ⟨x, j, g, Ev.succ ?_, by omega, j0, j1⟩
   simp only [ZO.f, if_neg hn, e2, e, Option.bind_some, if_true]
   exact Ev.now _
  | false =>
   obtain ⟨m, i3, g3, e3, _, _, i30, i31⟩ := ZN s i2 g2 i20 i21 hs 5 (by omega) (by omega)
   obtain ⟨x, i4, g4, e4, hx, i40, i41⟩ := ih i3 g3 (by omega) i30 i31
   obtain ⟨y, i5, g5, e5, hy, i50, i51⟩ := ih i4 g4 (by omega) i40 i41
   by_cases c : m = 0
   ·refine ⟨⟨7, 0, 0, [x]⟩, i4, g4, Ev.succ ?_, by rw [condN1]; omega, i40, i41⟩
    simp only [ZO.f, if_neg hn, e2, e3, Option.bind_some, Bool.false_eq_true, if_false, if_pos c, w]
    exact Ev.bind e4 (Ev.bind (UP x (by omega)) (Ev.now _))
   by_cases c1 : m = 1
   ·refine ⟨⟨8, 0, 0, [x, y]⟩, i5, g5, Ev.succ ?_, by rw [condN2]; omega, i50, i51⟩
    simp only [ZO.f, if_neg hn, e2, e3, Option.bind_some, Bool.false_eq_true, if_false, if_neg c, if_pos c1, w]
    exact Ev.bind e4 (Ev.bind e5 (Ev.bind (Vn x y (by omega) (by omega)) (Ev.now _)))
   by_cases c2 : m = 2
   ·refine ⟨⟨8, 0, 0, [x, y]⟩, i5, g5, Ev.succ ?_, by rw [condN2]; omega, i50, i51⟩
    simp only [ZO.f, if_neg hn, e2, e3, Option.bind_some, Bool.false_eq_true, if_false, if_neg c, if_neg c1, if_pos c2, w]
    exact Ev.bind e4 (Ev.bind e5 (Ev.bind (Vn x y (by omega) (by omega)) (Ev.now _)))
   refine ⟨⟨9, 0, 0, [x, y]⟩, i5, g5, Ev.succ ?_, by rw [condN2]; omega, i50, i51⟩
   simp only [ZO.f, if_neg hn, e2, e3, Option.bind_some, Bool.false_eq_true, if_false, if_neg c, if_neg c1, if_neg c2, w]
   exact Ev.bind e4 (Ev.bind e5 (Ev.bind (Tf x y (by omega) (by omega)) (Ev.now _)))
theorem UQ (s : List Int) (hs : s.length ≤ 1048576) (i h : Int) (i0 : 0 ≤ i) (i1 : i ≤ s.length) : ∃ (x : S114) (j g : Int), Ev (fun k => ZO.f k s i h 2) (x.f0, x.f1, x.f2, x.f3, j, g) ∧ n114 x ≤ 6 ∧ 0 ≤ j ∧ j ≤ s.length := by
 obtain ⟨x, j, g, e, hx, hj⟩ := Uw s hs 2 i h (by omega) i0 i1
 exact ⟨x, j, g, e, hx, hj⟩
theorem UR (s : List Int) (i h : Int) (h0 : 0 ≤ i) (h1 : i ≤ s.length) (hs : s.length ≤ 1048576) : ∃ (x : S116) (j g : Int), Ev (fun k => XM.f k s i h) (x.f0, x.f1, x.f2, x.f3.f0, x.f3.f1, x.f3.f2, x.f3.f3, j, g) ∧ n114 x.f3 ≤ 6 ∧ 0 ≤ j ∧ j ≤ s.length := by
 obtain ⟨a, i1, g1, e1, i10, i11⟩ := Wx s i h h0 h1 hs [1, 1, 1, 0] (by simp) (by simp)
 obtain ⟨b, i2, g2, e2, i20, i21⟩ := Wx s i1 g1 i10 i11 hs [(-1), 0, 1, (-1)] (by simp) (by simp)
 obtain ⟨x, i3, g3, e3, hx, i30, i31⟩ := UQ s hs i2 g2 i20 i21
 obtain ⟨o, i4, g4, e4, i40, i41⟩ := WF s i3 g3 i30 i31 hs 2 (by omega) (by omega)
 cases o with
 | true =>
  obtain ⟨v, i5, g5, e5, i50, i51⟩ := Ww s i4 g4 i40 i41 hs 4
  refine ⟨⟨a, b, v, x⟩, i5, g5, ?_, hx, i50, i51⟩
  unfold XM.f
  simp only [e1, e2, Option.bind_some]
  refine Ev.bind e3 ?_
  simp only [e4, Option.bind_some, if_true, e5]
  exact Ev.now _
 | false =>
  refine ⟨⟨a, b, (-1), x⟩, i4, g4, ?_, hx, i40, i41⟩
  unfold XM.f
  simp only [e1, e2, Option.bind_some]
  refine Ev.bind e3 ?_
  simp only [e4, Option.bind_some, Bool.false_eq_true, if_false]
  exact Ev.now _
theorem Ua (s : List Int) (i h : Int) (h0 : 0 ≤ i) (h1 : i ≤ s.length) (hs : s.length ≤ 1048576) : ∃ (v : Int) (l : List S116) (j g : Int), Ev (fun k => Yj.f k s i h) (v, l, j, g) ∧ l.length ≤ 4 ∧ (∀ x ∈ l, n114 x.f3 ≤ 6) ∧ 0 ≤ j ∧ j ≤ s.length := by
 obtain ⟨v, i1, g1, e1, _, _, i10, i11⟩ := ZN s i h h0 h1 hs 5 (by omega) (by omega)
 have key : ∀ (m : Nat) (l : List S116) (i h : Int), 0 ≤ i → i ≤ s.length → l.length + m ≤ 4 → (∀ x ∈ l, n114 x.f3 ≤ 6) → ∃ (l' : List S116) (j g : Int), Ev (fun k => Yj.l0 k s i h 0 [] v l (m : Int)) (v, l', j, g) ∧ l'.length ≤ 4 ∧ (∀ x ∈ l', n114 x.f3 ≤ 6) ∧ 0 ≤ j ∧ j ≤ s.length := by
  intro m
  induction m with
  | zero =>
   intro l i h i0 i1 hl hx
   refine ⟨l, i, h, Ev.succ ?_, by omega, hx, i0, i1⟩
   simp only [Yj.l0]
   exact Ev.neg (by omega) (Ev.now _)
  | succ m ih =>
   intro l i h i0 i1 hl hx
   obtain ⟨x, i2, g2, e, hx3, i20, i21⟩ := UR s i h i0 i1 hs
   obtain ⟨l', j, g, e', hl', hx', hj⟩ := ih (l ++ [x]) i2 g2 i20 i21 (by rw [List.length_append, List.length_singleton]; omega) (fun y hy => by
    rcases List.mem_append.1 hy with hy | hy
    ·exact hx y hy
    ·rw [List.mem_singleton.1 hy]; exact hx3)
   refine ⟨l', j, g, Ev.succ ?_, hl', hx', hj⟩
   have hp : (((m + 1 : Nat) : Int) > 0) = True := eq_true (by omega)
   have hw : wrap64 (((m + 1 : Nat) : Int) - 1) = (m : Int) := by rw [wr (by omega) (by omega)]; omega
   have hl2 : (l.length < 1954687338268) = True := eq_true (by omega)
   simp only [Yj.l0, hp, if_true, hw]
   refine Ev.bind e ?_
   simp only [hl2, if_true, eta114]
   exact e'
 obtain ⟨n, i2, g2, e2, n0, n1, i20, i21⟩ := ZN s i1 g1 i10 i11 hs 4 (by omega) (by omega)
 obtain ⟨m, hm⟩ : ∃ m : Nat, wrap64 (1 + n) = (m : Int) := ⟨(1 + n).toNat, by rw [wr (by omega) (by omega)]; omega⟩
 have hm4 : m ≤ 4 := by rw [wr (by omega) (by omega)] at hm; omega
 obtain ⟨l, j, g, e, hl, hx, hj⟩ := key m [] i2 g2 i20 i21 (by simpa using hm4) (by simp)
 refine ⟨v, l, j, g, ?_, hl, hx, hj⟩
 unfold Yj.f
 simp only [e1, e2, Option.bind_some, hm]
 exact e
theorem UM (a b : Int) : Wo.f a b = some (if b < a then b else a) := by
 unfold Wo.f; split <;> rfl
def revP (x : S82) : Bool := inB x.f0 1 9999 && timeB x.f1
def revQ (y x : S82) : Bool := !decide (y.f0 ≥ x.f0)
def revB (l : List S82) : Bool := adjB revP revQ l && decide ((l.length : Int) ≤ 40)
theorem revP_step {x : S82} {g : Nat → Option Bool} {r : Bool} (h : revP x = true → Ev g r) : Ev (fun k => if inB x.f0 1 9999 = true then (if timeB x.f1 = true then g k else some false) else some false) (revP x && r) := by
 unfold revP at h ⊢
 rw [Bool.and_assoc]
 exact Ev.bifT fun a => Ev.bifT fun b => h (by rw [a, b]; rfl)
theorem WO (l : List S82) (h : l.length ≤ 1048576) : Ev (fun k => Zp.f k l) (revB l) := by
 unfold Zp.f revB
 refine ev_adj l revP revQ _ (fun k i => Zp.l0 k l i) ?_ ?_ ?_
 ·refine Ev.succ ?_
  simp only [Zp.l0, Int.lt_irrefl, if_false]
  exact Ev.now _
 ·intro x r hx hr
  have hi := lt_of_get hx
  have h1 : ((0 : Int) < (l.length : Int)) = True := eq_true (by omega)
  have e := WA hx
  have e2 := wr1 hi (show l.length ≤ 9223372036854775807 by omega)
  simp only [Int.ofNat_zero, Int.natCast_zero] at e e2
  refine Ev.succ ?_
  simp only [Zp.l0, h1, if_true, Int.le_refl, gt_iff_lt, Int.lt_irrefl, if_false, e, e2, Wq, Wt, Option.bind_some]
  exact revP_step fun _ => hr
 ·intro i y x r hy hx hr
  have hi := lt_of_get hx
  have h1 : (((i + 1 : Nat) : Int) < (l.length : Int)) = True := eq_true (by omega)
  have h2 : (0 ≤ ((i + 1 : Nat) : Int)) = True := eq_true (by omega)
  have h3 : (((i + 1 : Nat) : Int) > 0) = True := eq_true (by omega)
  have h4 : (0 ≤ (i : Int)) = True := eq_true (by omega)
  have h5 : ((i : Int) < (l.length : Int)) = True := eq_true (by omega)
  refine Ev.succ ?_
  simp only [Zp.l0, h1, h2, h3, h4, h5, if_true, WA hx, WA hy, wr1 hi (show l.length ≤ 9223372036854775807 by omega), wrp hi (show l.length ≤ 9223372036854775807 by omega), Wq, Wt, Option.bind_some]
  exact revP_step fun _ => Ev.dnot fun _ => hr
theorem VZ (l : List S82) (n t : Int) (h : l.length ≤ 40) : Tt (fun k => Zx.f k l n t) (fun r => r.1.length ≤ 40) := by
 have fin : ∀ o : List S82, o.length ≤ 1000 → Tt (fun k => (Zp.f k l).bind fun t59 => (if t59 = true then ((Zp.f k o).bind fun t63 => (if t63 = true then ((Zj.f t).bind fun t68 => (if t68 = true then (some (o, true)) else (if 0 + l.length ≤ 8796093022208 then (some ((([] : List S82) ++ l), false)) else none))) else (if 0 + l.length ≤ 8796093022208 then (some ((([] : List S82) ++ l), false)) else none))) else (if 0 + l.length ≤ 8796093022208 then (some ((([] : List S82) ++ l), false)) else none))) (fun r : List S82 × Bool => r.1.length ≤ 40) := by
  intro o ho
  have h0 : 0 + l.length ≤ 8796093022208 := by omega
  simp only [if_pos h0, List.nil_append, Wt, Option.bind_some]
  refine Tt.bind (Tt.ev (P := fun b => b = revB l) (WO l (by omega)) rfl) ?_
  rintro _ rfl
  refine Tt.ite (fun _ => ?_) (fun _ => Tt.now h)
  refine Tt.bind (Tt.ev (P := fun b => b = revB o) (WO o (by omega)) rfl) ?_
  rintro _ rfl
  refine Tt.ite (fun c => ?_) (fun _ => Tt.now h)
  refine Tt.ite (fun _ => Tt.now ?_) (fun _ => Tt.now h)
  unfold revB at c
  rw [Bool.and_eq_true] at c
  have := of_decide_eq_true c.2
  dsimp only
  omega
 have key := Tt.up (Q := fun r : List S82 × Bool => r.1.length ≤ 40) l.length (fun k i (s : List S82 × Bool) => Zx.l0 k l n t s.1 s.2 (i : Int)) (fun i s => s.1.length ≤ 2 * i)
  (by
   rintro i ⟨o, f⟩ hi hI ih
   obtain ⟨y, hy⟩ := getAt (l := l) (i := i) hi
   have h1 : ((i : Int) < (l.length : Int)) = True := eq_true (by omega)
   have h2 : (0 ≤ (i : Int)) = True := eq_true (by omega)
   refine Tt.succ ?_
   dsimp only at hI ⊢
   simp only [Zx.l0, h1, h2, if_true, WA hy, UM, Option.bind_some, wr1 hi (show l.length ≤ 9223372036854775807 by omega)]
   repeat' first
    | exact ih (_, _) (by simp only [List.length_append, List.length_singleton]; omega)
    | refine Tt.ite (fun _ => ?_) (fun _ => ?_)
    | (exfalso; rename_i hn; try simp only [List.length_append, List.length_singleton] at hn
       omega))
  (by
   rintro ⟨o, f⟩ hI
   dsimp only at hI ⊢
   refine Tt.succ ?_
   simp only [Zx.l0, Int.lt_irrefl, if_false, Option.bind_some]
   refine Tt.ite (fun _ => fin o (by omega)) (fun _ => Tt.pos (by omega) (fin _ (by rw [List.length_append, List.length_singleton]; omega))))
  0 ([], false) (by omega) (by simp)
 unfold Zx.f
 exact key
theorem US (s : List Int) (i h : Int) (h0 : 0 ≤ i) (h1 : i ≤ s.length) (hs : s.length ≤ 1048576) : Tt (fun k => YQ.f k s i h) (fun r => r.1.length ≤ 40 ∧ 0 ≤ r.2.1 ∧ r.2.1 ≤ s.length) := by
 obtain ⟨n, i1, g1, e1, n0, n1, i10, i11⟩ := ZN s i h h0 h1 hs 6 (by omega) (by omega)
 obtain ⟨m, rfl⟩ : ∃ m : Nat, n = (m : Int) := ⟨n.toNat, by omega⟩
 unfold YQ.f
 simp only [e1, Option.bind_some]
 refine Tt.down (Q := fun r : List S82 × Int × Int => r.1.length ≤ 40 ∧ 0 ≤ r.2.1 ∧ r.2.1 ≤ s.length) (fun k m (t : List S82 × Int × Int) => YQ.l0 k s t.2.1 t.2.2 t.1 (m : Int)) (fun m t => m ≤ 10 ∧ t.1.length ≤ 40 ∧ 0 ≤ t.2.1 ∧ t.2.1 ≤ s.length) ?_ ?_ m ([], i1, g1) ⟨by omega, by simp, i10, i11⟩
 ·rintro m ⟨l, i, h⟩ ⟨hm, hl, hi, hi'⟩ ih
  dsimp only at hl hi hi' ⊢
  obtain ⟨a, i2, g2, e2, _, _, i20, i21⟩ := ZN s i h hi hi' hs 9 (by omega) (by omega)
  obtain ⟨b, i3, g3, e3, _, _, i30, i31⟩ := ZN s i2 g2 i20 i21 hs 30 (by omega) (by omega)
  have hp : (((m + 1 : Nat) : Int) > 0) = True := eq_true (by omega)
  have hw : wrap64 (((m + 1 : Nat) : Int) - 1) = (m : Int) := by rw [wr (by omega) (by omega)]; omega
  refine Tt.succ ?_
  simp only [YQ.l0, hp, if_true, hw, e2, e3, Option.bind_some]
  exact Tt.bind (VZ l (wrap64 (1 + a)) b hl) fun r hr => ih (r.1, i3, g3) ⟨by omega, hr, i30, i31⟩
 ·rintro ⟨l, i, h⟩ ⟨hm, hl, hi, hi'⟩
  refine Tt.succ ?_
  dsimp only at hl hi hi' ⊢
  simp only [YQ.l0]
  exact Tt.neg (by omega) (Tt.now ⟨hl, hi, hi'⟩)
def endB (a b : Int) : Int := if timeB a = true ∧ timeB b = true then (if 10000 < a + b then 10000 else a + b) else 0
theorem timeB_iff {t : Int} : timeB t = true ↔ 0 ≤ t ∧ t ≤ 10000 := inB_iff
theorem To (a b : Int) : Wl.f a b = some (endB a b) := by
 unfold Wl.f endB
 simp only [Wt, UM, Option.bind_some]
 by_cases c : timeB a = true
 ·by_cases c2 : timeB b = true
  ·have h1 := timeB_iff.1 c
   have h2 := timeB_iff.1 (show timeB b = true from c2)
   simp only [if_pos c, if_pos c2, if_pos (show timeB a = true ∧ timeB b = true from ⟨c, c2⟩), wr (x := a + b) (by omega) (by omega)]
   by_cases c3 : a + b < 10000
   ·rw [if_pos c3, if_neg (by omega)]
   ·rw [if_neg c3]; by_cases c4 : 10000 < a + b
    ·rw [if_pos c4]
    ·rw [if_neg c4]; congr 1; omega
  ·simp only [if_pos c, if_neg c2, if_neg (show ¬ (timeB a = true ∧ timeB b = true) from fun h => c2 h.2)]
 ·simp only [if_neg c, if_neg (show ¬ (timeB a = true ∧ timeB b = true) from fun h => c h.1)]
def keyB (a : Int) : Bool := inB a 1 2147483646
def certB (a b c d e : Int) : Bool := inB a 1 9999 && (nameB b && (keyB c && (timeB d && (timeB e && inB (e - d) 0 50))))
def mdV (a : Int) : Int := Int.tmod (wrap64 (Int.tmod a 2147483647 + 2147483647)) 2147483647
def hsX (d v : Int) : Int := Int.tmod (wrap64 (wrap64 (wrap64 (d * 1000003) + mdV v) + 13)) 2147483647
def hashV (l : List Int) : Int := l.foldl hsX 11
def khV (a : Int) (l : List Int) : Int := hashV ([a] ++ l ++ [a])
theorem Tv (a : Int) : Wr.f a 2147483647 = some (mdV a) := by
 unfold Wr.f; rw [Wq]; rfl
theorem Ts (l : List Int) (h : l.length ≤ 2097152) : Ev (fun k => XB.f k l) (hashV l) := by
 unfold XB.f hashV
 refine ev_fold l hsX (fun s => s) (fun _ _ => True) (fun k s i => XB.l0 k l s i) ?_ (fun _ _ _ _ _ => trivial) ?_ 11 trivial
 ·intro s _
  refine Ev.succ ?_
  simp only [XB.l0, Int.lt_irrefl, if_false]
  exact Ev.now _
 ·intro i x s r hx _ hr
  have hi := lt_of_get hx
  have h1 : ((i : Int) < (l.length : Int)) = True := eq_true (by omega)
  have h2 : (0 ≤ (i : Int)) = True := eq_true (by omega)
  refine Ev.succ ?_
  simp only [XB.l0, h1, h2, if_true, rd_nat l i x hx, Tv, Option.bind_some, wr1 hi (by omega)]
  exact hr
theorem Ub (a : Int) (l : List Int) (h : l.length ≤ 1000) : Ev (fun k => Xg.f k a l) (khV a l) := by
 unfold Xg.f khV
 simp only [Option.bind_some]
 refine Ev.pos (by omega) (Ev.pos (by simp only [List.length_append, List.length_singleton]; omega) ?_)
 exact Ev.bind (Ts _ (by simp only [List.length_append, List.length_singleton]; omega)) (Ev.now _)
theorem Ve (s a b c d e g : Int) : Ev (fun k => Xb.f k s a b c d e g) (a, b, c, d, e, khV s [a, b, c, d, e]) := by
 unfold Xb.f
 exact Ev.bind (Ub s [a, b, c, d, e] (by simp)) (Ev.now _)
theorem WZ (a : Int) : YK.f a = some (keyB a) := by
 unfold YK.f; rw [Wq]; rfl
theorem VA (a b c d e g : Int) : XU.f a b c d e g = some (certB a b c d e) := by
 have key : timeB d = true → timeB e = true → (if d ≤ e then some (decide (wrap64 (e - d) ≤ 50)) else some false) = some (inB (e - d) 0 50) := by
  intro hd he
  unfold timeB at hd he
  rw [inB_iff] at hd he
  rw [wr (by omega) (by omega)]
  unfold inB
  by_cases c : d ≤ e
  ·rw [if_pos c, decide_eq_true (show 0 ≤ e - d by omega), Bool.true_and]
  ·rw [if_neg c, decide_eq_false (show ¬ 0 ≤ e - d by omega), Bool.false_and]
 unfold XU.f certB
 simp only [Wq, Vz, WZ, Wt, Option.bind_some]
 cases inB a 1 9999 with
 | false => rfl
 | true => cases nameB b with
  | false => rfl
  | true => cases keyB c with
   | false => rfl
   | true => cases hd : timeB d with
    | false => rfl
    | true => cases he : timeB e with
     | false => rfl
     | true => simp only [if_true, Bool.true_and]; exact key hd he
def issueB (s n u key t g : Int) : Bool := keyB s && (certB n u key t (endB t g) && !decide (g < 0))
def issueV (s n u key t g : Int) : Int × Int × Int × Int × Int × Int × Bool := if issueB s n u key t g = true then (n, u, key, t, endB t g, khV s [n, u, key, t, endB t g], true) else (0, 0, 0, 0, 0, 0, false)
theorem W7 (s n u key t g : Int) : Ev (fun k => YZ.f k s n u key t g) (issueV s n u key t g) := by
 unfold YZ.f issueV issueB
 simp only [To, Option.bind_some]
 refine Ev.bind (Ve s n u key t (endB t g) 0) ?_
 simp only [WZ, VA, Option.bind_some]
 cases keyB s <;> by_cases c : g < 0 <;> cases certB n u key t (endB t g) <;> simp [c] <;> exact Ev.now _
def ptOf {β : Type} (r : Int × Int × Int × List S109 × Int × List S116 × List S100 × List S82 × Int × List S62 × β) : S34 := ⟨r.1, ⟨r.2.1, r.2.2.1, r.2.2.2.1, ⟨r.2.2.2.2.1, r.2.2.2.2.2.1⟩⟩, r.2.2.2.2.2.2.1, r.2.2.2.2.2.2.2.1, r.2.2.2.2.2.2.2.2.1, r.2.2.2.2.2.2.2.2.2.1⟩
def atOf (r : Int × Int × Int × List S109 × Int × List S116 × List S100 × List S82 × Int × List S62 × Int × Int × Int × Int × Int × Int × Int × Int × Int × Int × Int × Int × Int × Int) : Int := r.2.2.2.2.2.2.2.2.2.2.2.2.2.2.2.2.2.2.2.2.2.2.1
theorem UT (s : List Int) (i h : Int) (h0 : 0 ≤ i) (h1 : i ≤ s.length) (hs : s.length ≤ 1048576) : Tt (fun k => XV.f k s i h) (fun r => n34 (ptOf r) ≤ 200 ∧ 0 ≤ atOf r ∧ atOf r ≤ s.length) := by
 unfold XV.f
 refine Tt.bind (UO s i h h0 h1 hs) ?_
 rintro ⟨P, st, a, b, c, d, e, f, i1, g1⟩ ⟨hP, hst, i10, i11⟩
 dsimp only at hP hst i10 i11 ⊢
 obtain ⟨v, R, i2, g2, e2, hR, hRn, i20, i21⟩ := Ua s i1 g1 i10 i11 hs
 refine Tt.bind (Tt.ev (P := fun r => r = (v, R, i2, g2)) e2 rfl) ?_
 rintro _ rfl
 obtain ⟨b1, i3, g3, e3, _, _, i30, i31⟩ := ZN s i2 g2 i20 i21 hs 3 (by omega) (by omega)
 obtain ⟨b2, i4, g4, e4, _, _, i40, i41⟩ := ZN s i3 g3 i30 i31 hs 13 (by omega) (by omega)
 obtain ⟨b3, i5, g5, e5, _, _, i50, i51⟩ := ZN s i4 g4 i40 i41 hs 9 (by omega) (by omega)
 simp only [e3, e4, e5, Xc.f, W6, Option.bind_some]
 refine Tt.bind (US s i5 g5 i50 i51 hs) ?_
 rintro ⟨rv, i6, g6⟩ ⟨hrv, i60, i61⟩
 dsimp only at hrv i60 i61 ⊢
 obtain ⟨b4, i7, g7, e7, _, _, i70, i71⟩ := ZN s i6 g6 i60 i61 hs 20 (by omega) (by omega)
 obtain ⟨b5, i8, g8, e8, _, _, i80, i81⟩ := ZN s i7 g7 i70 i71 hs 5 (by omega) (by omega)
 simp only [e7, e8, Option.bind_some]
 refine Tt.bind (Tt.ev (P := fun _ => True) (W7 77 (wrap64 (1 + b4)) b 200 _ 20) trivial) ?_
 intro C _
 refine Tt.now ⟨?_, i80, i81⟩
 have hS : ∀ L : List S116, (∀ x ∈ L, n114 x.f3 ≤ 6) → (L.map n116).sum ≤ 6 * L.length := by
  intro L
  induction L with
  | nil => intro _; simp
  | cons x L ih =>
   intro h
   have h1 := ih fun y hy => h y (List.mem_cons_of_mem _ hy)
   have h2 := h x List.mem_cons_self
   rw [List.map_cons, List.sum_cons, List.length_cons]
   have : n116 x = n114 x.f3 := rfl
   omega
 have := hS R hRn
 show P.length + (R.length + (R.map n116).sum) + st.length + rv.length + 0 ≤ 200
 omega
theorem UU (v : Int) (l : List S116) (h : l.length ≤ 1048576) (hn : ∀ x ∈ l, n114 x.f3 ≤ 1048576) : Ev (fun k => Yr.f k v l) (v, l) := by
 unfold Yr.f
 have key : ∀ (d i : Nat), l.length - i = d → i ≤ l.length → Ev (fun k => Yr.l0 k v l 0 [] v (l.take i) (i : Int)) (v, l) := by
  intro d
  induction d with
  | zero =>
   intro i hd hi
   obtain rfl : i = l.length := by omega
   refine Ev.succ ?_
   simp only [Yr.l0, Int.lt_irrefl, if_false, List.take_length]
   exact Ev.now _
  | succ d ihd =>
   intro i hd hi
   have hi' : i < l.length := by omega
   obtain ⟨y, hy⟩ := getAt (l := l) (i := i) hi'
   have h1 : ((i : Int) < (l.length : Int)) = True := eq_true (by omega)
   have h2 : (0 ≤ (i : Int)) = True := eq_true (by omega)
   have h3 : ((l.take i).length < 1954687338268) = True := eq_true (by rw [List.length_take]; omega)
   have e3 : l.take i ++ [y] = l.take (i + 1) := by rw [List.take_add_one, hy]; rfl
   refine Ev.succ ?_
   simp only [Yr.l0, h1, h2, if_true, WC hy, wr1 hi' (by omega)]
   refine Ev.bind (WD y.f3 (hn y (List.mem_of_getElem? hy))) ?_
   simp only [h3, if_true, eta114, e3]
   exact ihd (i + 1) (by omega) (by omega)
 exact key l.length 0 (by omega) (by omega)
theorem epN {x : S29} (h : n29 x ≤ 1048576) : x.f2.length ≤ 1048576 ∧ x.f3.f1.length ≤ 1048576 ∧ ∀ r ∈ x.f3.f1, n114 r.f3 ≤ 1048576 := by
 unfold n29 n27 at h
 refine ⟨by omega, by omega, fun r hr => ?_⟩
 obtain ⟨j, hj⟩ := List.getElem?_of_mem hr
 have h1 := le_sum n116 hj
 have h2 : n114 r.f3 ≤ n116 r := by unfold n116; omega
 omega
theorem UV (x : S29) (h : n29 x ≤ 1048576) : Ev (fun k => XW.f k x.f0 x.f1 x.f2 x.f3.f0 x.f3.f1) (x.f0, x.f1, x.f2, x.f3.f0, x.f3.f1) := by
 obtain ⟨h1, h2, h3⟩ := epN h
 unfold XW.f
 refine Ev.pos (by omega) ?_
 exact Ev.bind (UU x.f3.f0 x.f3.f1 h2 h3) (Ev.now _)
theorem UW (p : S34) (h : n34 p ≤ 1048576) : Ev (fun k => XX.f k p.f0 p.f1.f0 p.f1.f1 p.f1.f2 p.f1.f3.f0 p.f1.f3.f1 p.f2 p.f3 p.f4 p.f5) (p.f0, p.f1.f0, p.f1.f1, p.f1.f2, p.f1.f3.f0, p.f1.f3.f1, p.f2, p.f3, p.f4, p.f5) := by
 have h' := h
 unfold n34 at h'
 have h1 : n29 p.f1 ≤ 1048576 := by omega
 have h2 : p.f2.length ≤ 1048576 := by omega
 unfold XX.f
 refine Ev.bind (UV p.f1 h1) ?_
 simp only [WX p.f2 h2, Option.bind_some, List.nil_append]
 exact Ev.pos (by omega) (Ev.pos (by omega) (Ev.now _))
def reqB (a b c d e t : Int) : Bool := kindB a 1 && (kindB b 2 && (kindB c 3 && (kindB e 4 && (inB d 0 5 && timeB t))))
theorem WH (a b c d e t : Int) : Yn.f a b c d e t = some (reqB a b c d e t) := by
 unfold Yn.f reqB
 simp only [WT, Wt, Wq, Option.bind_some]
 cases kindB a 1 <;> cases kindB b 2 <;> cases kindB c 3 <;> cases kindB e 4 <;> cases inB d 0 5 <;> simp
def ageV (a b : Int) : Int := if timeB a = true ∧ timeB b = true ∧ a ≤ b then b - a else -1
def freshV (a b m : Int) : Bool := if ageV a b = -1 then false else decide (ageV a b ≤ m)
theorem timeAt {t : Int} (h : timeB t = true) : 0 ≤ t ∧ t ≤ 10000 := inB_iff.1 h
theorem ageV_cases (a b : Int) : ageV a b = -1 ∨ 0 ≤ ageV a b := by
 unfold ageV
 split
 ·right; omega
 ·left; rfl
def withinB (a b t : Int) : Bool := timeB a && (timeB b && (timeB t && (decide (a ≤ t) && decide (t ≤ b))))
def holdsB (x : S100) (now age : Int) : Bool := factB x && (withinB x.f4 x.f5 now && freshV x.f4 now age)
theorem fresh_age {a t : Int} (ha : timeB a = true) (ht : timeB t = true) (h : a ≤ t) (m : Int) : freshV a t m = decide (ageV a t ≤ m) := by
 unfold freshV
 have e : ageV a t = t - a := by unfold ageV; rw [if_pos ⟨ha, ht, h⟩]
 rw [e, if_neg (by omega)]
theorem within_iff {a b t : Int} (h : withinB a b t = true) : timeB a = true ∧ timeB b = true ∧ timeB t = true ∧ a ≤ t ∧ t ≤ b := by
 simpa [withinB, and_assoc] using h
theorem Vf (a b t : Int) : Xd.f a b t = some (withinB a b t) := by
 unfold Xd.f withinB
 simp only [Wt, Option.bind_some]
 cases timeB a <;> cases timeB b <;> cases timeB t <;> simp
 by_cases c : a ≤ t <;> simp [c]
def chkB (s : Int) (x : S36) (t : Int) : Bool := certB x.f0 x.f1 x.f2 x.f3 x.f4 && (withinB x.f3 x.f4 t && decide (khV s [x.f0, x.f1, x.f2, x.f3, x.f4] = x.f5))
theorem Uc (s : Int) (x : S36) (t : Int) : Ev (fun k => Xh.f k s x.f0 x.f1 x.f2 x.f3 x.f4 x.f5 t) (chkB s x t) := by
 unfold Xh.f chkB
 simp only [VA, Option.bind_some]
 refine Ev.bifT fun _ => ?_
 simp only [Vf, Option.bind_some]
 refine Ev.bifT fun _ => ?_
 exact Ev.bind (Ve s x.f0 x.f1 x.f2 x.f3 x.f4 x.f5) (Ev.eqv (by simp) (Ev.now _))
theorem Tp (a b : Int) : Wm.f a b = some (ageV a b) := by
 unfold Wm.f ageV
 simp only [Wt, Option.bind_some]
 by_cases c1 : timeB a = true
 ·by_cases c2 : timeB b = true
  ·have h1 := timeAt c1
   have h2 := timeAt c2
   by_cases c3 : a > b
   ·simp only [if_pos c1, if_pos c2, if_pos c3, if_neg (show ¬ (timeB a = true ∧ timeB b = true ∧ a ≤ b) from fun h => by omega)]
   ·simp only [if_pos c1, if_pos c2, if_neg c3, if_pos (show timeB a = true ∧ timeB b = true ∧ a ≤ b from ⟨c1, c2, by omega⟩), wr (x := b - a) (by omega) (by omega)]
  ·simp only [if_pos c1, if_neg c2, if_neg (show ¬ (timeB a = true ∧ timeB b = true ∧ a ≤ b) from fun h => c2 h.2.1)]
 ·simp only [if_neg c1, if_neg (show ¬ (timeB a = true ∧ timeB b = true ∧ a ≤ b) from fun h => c1 h.1)]
theorem Vo (a b m : Int) : XD.f a b m = some (freshV a b m) := by
 unfold XD.f freshV
 simp only [Tp, Option.bind_some]
 rcases ageV_cases a b with h | h
 ·rw [if_neg (by omega), if_pos h]
 ·rw [if_pos (by omega), if_neg (by omega)]
theorem Ud (a0 a1 a2 l3 a4 l5 l6 l7 a8 l9 n) : Xi.f a0 a1 a2 l3 a4 l5 l6 l7 a8 l9 n = some (freshV a8 n 10) := by
 unfold Xi.f
 simp only [Vo, Option.bind_some]
theorem idx_ev {α : Type} (L : Nat → Int → Option Int) (p : α → Bool) : ∀ (l : List α) (i n : Nat), i + l.length = n → Ev (fun k => L k (n : Int)) (-1) →
  (∀ (j : Nat) (x : α) (r : Int), i ≤ j → l[j - i]? = some x → (p x = true → Ev (fun k => L k (j : Int)) (j : Int)) ∧ (p x = false → Ev (fun k => L k ((j + 1 : Nat) : Int)) r → Ev (fun k => L k (j : Int)) r)) → Ev (fun k => L k (i : Int)) (idxV p l (i : Int))
 | [], i, n, hn, h0, _ => by
  simp only [List.length_nil, Nat.add_zero] at hn
  subst hn
  exact h0
 | x :: l, i, n, hn, h0, hs => by
  have h := hs i x (idxV p l ((i : Int) + 1)) (Nat.le_refl _) (by simp)
  unfold idxV
  cases c : p x with
  | true => simp only [if_true]; exact h.1 c
  | false =>
   simp only [Bool.false_eq_true, if_false]
   refine h.2 c ?_
   have := idx_ev L p l (i + 1) n (by simp only [List.length_cons] at hn; omega) h0 (fun j y r hj hy => hs j y r (by omega) (by rw [show j - i = (j - (i + 1)) + 1 by omega]; simpa using hy))
   exact_mod_cast this
theorem idxV_in {α : Type} (p : α → Bool) (l : List α) (h : ¬ idxV p l 0 < 0) : 0 ≤ idxV p l 0 ∧ idxV p l 0 < (l.length : Int) := by
 rcases idxV_spec p l with ⟨h1, _⟩ | ⟨j, x, h1, h2, _⟩
 ·omega
 ·have := lt_of_get h2; omega
def revAt (l : List S82) (n : Int) : Int := if idxV (fun x => x.f0 == n) l 0 < 0 then -1 else (XK l (idxV (fun x => x.f0 == n) l 0)).f1
theorem Ue (l : List S82) (n : Int) (h : l.length ≤ 1048576) : Ev (fun k => ZZ.f k l n) (revAt l n) := by
 unfold ZZ.f revAt
 refine ev_idx l (fun x => x.f0 == n) (fun i => if i < 0 then -1 else (XK l i).f1) (fun k i => ZZ.l0 k l n i) ?_ ?_
 ·refine Ev.succ ?_
  simp only [ZZ.l0, Int.lt_irrefl, if_false]
  exact Ev.now _
 ·intro i x hx
  have hi := lt_of_get hx
  have h1 : ((i : Int) < (l.length : Int)) = True := eq_true (by omega)
  have h2 : (0 ≤ (i : Int)) = True := eq_true (by omega)
  constructor
  ·intro c r hr
   have c' : ¬ x.f0 = n := by simpa using c
   refine Ev.succ ?_
   simp only [ZZ.l0, h1, h2, if_true, WA hx, wr1 hi (by omega), if_neg c']
   exact hr
  ·intro c
   have c' : x.f0 = n := by simpa using c
   refine Ev.succ ?_
   simp only [ZZ.l0, h1, h2, if_true, WA hx, if_pos c', if_neg (show ¬ (i : Int) < 0 by omega)]
   exact Ev.now _
theorem Uf (l : List S82) (n t : Int) (h : l.length ≤ 1048576) : Ev (fun k => Xj.f k l n t) (inB (revAt l n) 0 t) := by
 unfold Xj.f inB
 refine Ev.bind (Ue l n h) ?_
 by_cases c : revAt l n ≥ 0
 ·simp only [if_pos c, decide_eq_true (show 0 ≤ revAt l n from c), Bool.true_and]; exact Ev.now _
 ·simp only [if_neg c, decide_eq_false (show ¬ 0 ≤ revAt l n from c), Bool.false_and]; exact Ev.now _
def sameQ (a q : S38) : Bool := a.f0 == q.f0 && (a.f1 == q.f1 && (a.f2 == q.f2 && (a.f3 == q.f3 && (a.f4 == q.f4))))
theorem WJ (a q : S38) : Ye.f a.f0 a.f1 a.f2 a.f3 a.f4 a.f5 q.f0 q.f1 q.f2 q.f3 q.f4 q.f5 = some (sameQ a q) := by
 simp only [Ye.f, Y5.f, Option.bind_some, Option.some.injEq, sameQ]
 rw [Bool.eq_iff_iff]
 simp
def savedP (q : S38) (x : S62) : Bool := sameQ x.f0 q && (decide (x.f0.f5 ≤ q.f5) && decide (q.f5 ≤ x.f2))
theorem Ug (l : List S62) (q : S38) (h : l.length ≤ 1048576) : Ev (fun k => ZP.f k l q.f0 q.f1 q.f2 q.f3 q.f4 q.f5) (idxV (savedP q) l 0) := by
 unfold ZP.f
 refine ev_idx l (savedP q) id (fun k i => ZP.l0 k l q.f0 q.f1 q.f2 q.f3 q.f4 q.f5 i) ?_ ?_
 ·refine Ev.succ ?_
  simp only [ZP.l0, Int.lt_irrefl, if_false]
  exact Ev.now _
 ·intro i x hx
  have hi := lt_of_get hx
  have h1 : ((i : Int) < (l.length : Int)) = True := eq_true (by omega)
  have h2 : (0 ≤ (i : Int)) = True := eq_true (by omega)
  refine ⟨fun hp r hr => ?_, fun hp => ?_⟩
  ·refine Ev.succ ?_
   simp only [ZP.l0, h1, h2, if_true, WB hx, wr1 hi (by omega), WJ, Option.bind_some]
   unfold savedP at hp
   cases c : sameQ x.f0 q with
   | false => exact hr
   | true =>
    rw [c, Bool.true_and, Bool.and_eq_false_iff, decide_eq_false_iff_not, decide_eq_false_iff_not] at hp
    simp only [if_true]
    repeat' refine Ev.ite (fun c => ?_) (fun c => ?_)
    all_goals first | exact hr | (exfalso; omega)
  ·refine Ev.succ ?_
   simp only [savedP, Bool.and_eq_true, decide_eq_true_eq] at hp
   simp only [ZP.l0, h1, h2, if_true, WB hx, WJ, Option.bind_some, hp.1, if_pos hp.2.1, if_pos hp.2.2]
   exact Ev.now _
theorem Ux (N : Nat) : ∀ (x : S114) (a : Int), n114 x ≤ N → N ≤ 1048576 → 0 ≤ a → a ≤ 1048576 → ∃ r, Ev (fun k => Z6.f k x.f0 x.f1 x.f2 x.f3 a) r ∧ -1 ≤ r ∧ (1 + (n114 x : Int) ≤ a → r = a - 1 - (n114 x : Int)) ∧ (a < 1 + (n114 x : Int) → r < 0) := by
 induction N using Nat.strongRecOn with
 | _ N ih =>
 intro x a hx hN ha0 ha1
 rw [n114_f] at hx ⊢
 have key : ∀ (d i : Nat) (s : Int), x.f3.length - i = d → i ≤ x.f3.length → -1 ≤ s → s ≤ 1048576 → ∃ r, Ev (fun k => Z6.l0 k s x.f0 x.f1 x.f2 x.f3 (i : Int)) r ∧ -1 ≤ r ∧ ((((x.f3.drop i).length + ((x.f3.drop i).map n114).sum : Nat) : Int) ≤ s → r = s - (((x.f3.drop i).length + ((x.f3.drop i).map n114).sum : Nat) : Int)) ∧ (s < (((x.f3.drop i).length + ((x.f3.drop i).map n114).sum : Nat) : Int) → r < 0) := by
  intro d
  induction d with
  | zero =>
   intro i s hd hi h0 hs
   obtain rfl : i = x.f3.length := by omega
   rw [List.drop_length, List.length_nil, List.map_nil, List.sum_nil]
   refine ⟨s, Ev.succ ?_, h0, fun _ => by omega, fun h => by omega⟩
   simp only [Z6.l0, Int.lt_irrefl, if_false]
   exact Ev.now _
  | succ d ih2 =>
   intro i s hd hi h0 hs
   have hi' : i < x.f3.length := by omega
   have hy : x.f3[i]? = some x.f3[i] := List.getElem?_eq_getElem hi'
   have hn := le_sum n114 hy
   rw [List.drop_eq_getElem_cons hi']
   simp only [List.length_cons, List.map_cons, List.sum_cons]
   generalize x.f3[i] = y at hy hn ⊢
   have h1 : ((i : Int) < (x.f3.length : Int)) = True := eq_true (by omega)
   have h2 : (0 ≤ (i : Int)) = True := eq_true (by omega)
   by_cases c : s ≥ 0
   ·obtain ⟨r1, e1, r10, r11, r12⟩ := ih (n114 y) (by omega) y s (Nat.le_refl _) (by omega) (by omega) hs
    obtain ⟨r, e, r0, r2, r3⟩ := ih2 (i + 1) r1 (by omega) (by omega) r10 (by
     by_cases q : 1 + (n114 y : Int) ≤ s
     ·have := r11 q; omega
     ·have := r12 (by omega); omega)
    refine ⟨r, Ev.succ ?_, r0, ?_, ?_⟩
    ·simp only [Z6.l0, h1, h2, if_true, if_pos c, Wz hy, wr1 hi' (by omega)]
     exact Ev.bind e1 e
    ·intro h
     have q := r11 (by omega)
     have := r2 (by omega)
     omega
    ·intro h
     by_cases q : 1 + (n114 y : Int) ≤ s
     ·have := r11 q; exact r3 (by omega)
     ·have := r12 (by omega); exact r3 (by omega)
   ·refine ⟨s, Ev.succ ?_, h0, fun h => by omega, fun _ => by omega⟩
    simp only [Z6.l0, h1, if_true, if_neg c]
    exact Ev.now _
 obtain ⟨r, e, r0, r1, r2⟩ := key x.f3.length 0 (a - 1) (by omega) (by omega) (by omega) (by omega)
 rw [List.drop_zero] at r1 r2
 refine ⟨r, Ev.succ ?_, r0, fun h => ?_, fun h => ?_⟩
 ·simp only [Z6.f, wr (show (-9223372036854775808 : Int) ≤ a - 1 by omega) (by omega)]
  exact e
 ·have := r1 (by omega); omega
 ·exact r2 (by omega)
theorem X8 (a b c : Int) : Zc.f a b c = some (inB a b c) := by
 unfold Zc.f
 rw [ite_dand]; rfl
theorem node_eq (a b c : Int) (l : List S114) : XO.f a b c l = YW.f a b c l := by
 unfold XO.f YW.f Yc.f ZS.f
 simp only [X8, Wq, Wt, Option.bind_some]
 generalize (l.length : Int) = n
 by_cases h1 : a = 1
 ·subst h1; simp [inB, timeB]; (repeat' split) <;> first | rfl | omega | (simp_all; done) | (simp_all; omega) | (rw [Option.some.injEq, Bool.eq_iff_iff]; simp_all; done) | (rw [Option.some.injEq, Bool.eq_iff_iff]; simp_all; omega)
 by_cases h2 : a = 2
 ·subst h2; simp [inB, timeB]; (repeat' split) <;> first | rfl | omega | (simp_all; done) | (simp_all; omega) | (rw [Option.some.injEq, Bool.eq_iff_iff]; simp_all; done) | (rw [Option.some.injEq, Bool.eq_iff_iff]; simp_all; omega)
 by_cases h3 : a = 3
 ·subst h3; simp [inB, timeB]; (repeat' split) <;> first | rfl | omega | (simp_all; done) | (simp_all; omega) | (rw [Option.some.injEq, Bool.eq_iff_iff]; simp_all; done) | (rw [Option.some.injEq, Bool.eq_iff_iff]; simp_all; omega)
 by_cases h4 : a = 4
 ·subst h4; simp [inB, timeB]; (repeat' split) <;> first | rfl | omega | (simp_all; done) | (simp_all; omega) | (rw [Option.some.injEq, Bool.eq_iff_iff]; simp_all; done) | (rw [Option.some.injEq, Bool.eq_iff_iff]; simp_all; omega)
 by_cases h5 : a = 5
 ·subst h5; simp [inB, timeB]; (repeat' split) <;> first | rfl | omega | (simp_all; done) | (simp_all; omega) | (rw [Option.some.injEq, Bool.eq_iff_iff]; simp_all; done) | (rw [Option.some.injEq, Bool.eq_iff_iff]; simp_all; omega)
 by_cases h6 : a = 6
 ·subst h6; simp [inB, timeB]; (repeat' split) <;> first | rfl | omega | (simp_all; done) | (simp_all; omega) | (rw [Option.some.injEq, Bool.eq_iff_iff]; simp_all; done) | (rw [Option.some.injEq, Bool.eq_iff_iff]; simp_all; omega)
 by_cases h7 : a = 7
 ·subst h7; simp [inB, timeB]; (repeat' split) <;> first | rfl | omega | (simp_all; done) | (simp_all; omega) | (rw [Option.some.injEq, Bool.eq_iff_iff]; simp_all; done) | (rw [Option.some.injEq, Bool.eq_iff_iff]; simp_all; omega)
 by_cases h8 : a = 8
 ·subst h8; simp [inB, timeB]; (repeat' split) <;> first | rfl | omega | (simp_all; done) | (simp_all; omega) | (rw [Option.some.injEq, Bool.eq_iff_iff]; simp_all; done) | (rw [Option.some.injEq, Bool.eq_iff_iff]; simp_all; omega)
 by_cases h9 : a = 9
 ·subst h9; simp [inB, timeB]; (repeat' split) <;> first | rfl | omega | (simp_all; done) | (simp_all; omega) | (rw [Option.some.injEq, Bool.eq_iff_iff]; simp_all; done) | (rw [Option.some.injEq, Bool.eq_iff_iff]; simp_all; omega)
 simp [h1, h2, h3, h4, h5, h6, h7, h8, h9, inB, timeB]; (repeat' split) <;> (try simp only [Option.bind_some]) <;> (repeat' split) <;> first | rfl | omega | (simp_all; done) | (simp_all; omega) | (rw [Option.some.injEq, Bool.eq_iff_iff]; simp_all; done) | (rw [Option.some.injEq, Bool.eq_iff_iff]; simp_all; omega)
theorem node_some (a b c : Int) (l : List S114) : ∃ t, YW.f a b c l = some t := by
 have ha : ∃ m, ZS.f a = some m := by
  unfold ZS.f
  (repeat' split) <;> exact ⟨_, rfl⟩
 obtain ⟨m, hm⟩ := ha
 unfold YW.f
 simp only [Wq, Wt, hm, Option.bind_some]
 (repeat' split) <;> exact ⟨_, rfl⟩
theorem idxV_anyI {α : Type} (q : α → Bool) : ∀ (l : List α) (i : Int), 0 ≤ i → decide (idxV q l i ≥ 0) = l.any q
 | [], i, _ => by simp [idxV]
 | x :: l, i, h => by
  unfold idxV
  rw [List.any_cons]
  cases c : q x with
  | true => simp only [if_true, Bool.true_or]; exact decide_eq_true h
  | false => simp only [Bool.false_eq_true, if_false, Bool.false_or]; exact idxV_anyI q l (i + 1) (by omega)
mutual
def vldC : S114 → Bool
 | ⟨a, b, c, l⟩ => (YW.f a b c l).getD false && vldL l
def vldL : List S114 → Bool
 | [] => true
 | x :: l => vldC x && vldL l
end
theorem vldL_eq : ∀ l : List S114, vldL l = l.all vldC
 | [] => by simp [vldL]
 | x :: l => by simp [vldL, vldL_eq l]
theorem vldC_f (x : S114) : vldC x = ((YW.f x.f0 x.f1 x.f2 x.f3).getD false && x.f3.all vldC) := by
 cases x
 simp only [vldC, vldL_eq]
def bothV (x : S114) (b : Bool) : Prop := Ev (fun k => ZQ.f k x.f0 x.f1 x.f2 x.f3) b ∧ Ev (fun k => Y4.f k x.f0 x.f1 x.f2 x.f3) b
theorem valid_evN (N : Nat) : ∀ x : S114, n114 x ≤ N → N ≤ 1048576 → bothV x (vldC x) := by
 induction N using Nat.strongRecOn with
 | _ N ih =>
 intro x hx hN
 rw [n114_f] at hx
 obtain ⟨t, ht⟩ := node_some x.f0 x.f1 x.f2 x.f3
 have hti := (node_eq x.f0 x.f1 x.f2 x.f3).trans ht
 rw [vldC_f, ht, Option.getD_some]
 cases t with
 | false => exact ⟨Ev.succ (by simp only [ZQ.f, ht, Option.bind_some, Bool.false_eq_true, if_false, Bool.false_and]; exact Ev.now _), Ev.succ (by simp only [Y4.f, hti, Option.bind_some, Bool.false_eq_true, if_false, Bool.false_and]; exact Ev.now _)⟩
 | true =>
 have hp : ∀ y ∈ x.f3, bothV y (vldC y) := fun y hy => by
  obtain ⟨i, hi, rfl⟩ := List.getElem_of_mem hy
  have hn := le_sum n114 (List.getElem?_eq_getElem hi)
  exact ih (n114 x.f3[i]) (by omega) _ (Nat.le_refl _) (by omega)
 rw [Bool.true_and]
 refine ⟨Ev.succ ?_, Ev.succ ?_⟩
 ·simp only [ZQ.f, ht, Option.bind_some, if_true]
  have key : ∀ d i : Nat, x.f3.length - i = d → i ≤ x.f3.length → Ev (fun k => ZQ.l0 k x.f0 x.f1 x.f2 x.f3 (i : Int)) ((x.f3.drop i).all vldC) := by
   intro d
   induction d with
   | zero =>
    intro i hd hi
    obtain rfl : i = x.f3.length := by omega
    refine Ev.succ ?_
    simp only [ZQ.l0, Int.lt_irrefl, if_false, List.drop_length, List.all_nil]
    exact Ev.now _
   | succ d ih2 =>
    intro i hd hi
    have hi' : i < x.f3.length := by omega
    have hy : x.f3[i]? = some x.f3[i] := List.getElem?_eq_getElem hi'
    have hb := (hp x.f3[i] (List.getElem_mem hi')).1
    rw [List.drop_eq_getElem_cons hi', List.all_cons]
    generalize x.f3[i] = y at hy hb ⊢
    have h1 : ((i : Int) < (x.f3.length : Int)) = True := eq_true (by omega)
    have h2 : (0 ≤ (i : Int)) = True := eq_true (by omega)
    refine Ev.succ ?_
    simp only [ZQ.l0, h1, h2, if_true, Wz hy, wr1 hi' (by omega)]
    refine Ev.bind hb ?_
    cases vldC y with
    | true => simp only [if_true, Bool.true_and]; exact ih2 (i + 1) (by omega) (by omega)
    | false => simp only [Bool.false_eq_true, if_false, Bool.false_and]; exact Ev.now _
  exact Ev.eqv (by rw [List.drop_zero]) (key x.f3.length 0 (by omega) (by omega))
 ·simp only [Y4.f, hti, Option.bind_some, if_true]
  have hI : Ev (fun k => Zk.f k x.f3) (idxV (fun y => !vldC y) x.f3 0) := by
   refine Ev.succ ?_
   simp only [Zk.f]
   refine idx_ev (fun k i => Zk.l0 k x.f3 (x.f3.length : Int) i) (fun y => !vldC y) x.f3 0 x.f3.length (by omega) ?_ ?_
   ·refine Ev.succ ?_
    simp only [Zk.l0, Int.lt_irrefl, if_false]
    exact Ev.now _
   ·intro j y r _ hy
    rw [Nat.sub_zero] at hy
    have hj := lt_of_get hy
    have h1 : ((j : Int) < (x.f3.length : Int)) = True := eq_true (by omega)
    have h2 : (0 ≤ (j : Int)) = True := eq_true (by omega)
    have hc : Ev (fun k => cl177.f k y.f0 y.f1 y.f2 y.f3) (!vldC y) := by
     refine Ev.succ ?_
     simp only [cl177.f]
     exact Ev.bind (hp y (List.mem_of_getElem? hy)).2 (Ev.now _)
    constructor
    ·intro hq
     refine Ev.succ ?_
     simp only [Zk.l0, h1, h2, if_true, Wz hy]
     refine Ev.bind hc ?_
     simp only [hq, if_true]
     exact Ev.now _
    ·intro hq he
     refine Ev.succ ?_
     simp only [Zk.l0, h1, h2, if_true, Wz hy, wr1 hj (by omega)]
     refine Ev.bind hc ?_
     simp only [hq, Bool.false_eq_true, if_false]
     exact he
  have hC : Ev (fun k => ZF.f k x.f3) (x.f3.any (fun y => !vldC y)) := by
   refine Ev.succ ?_
   simp only [ZF.f]
   exact Ev.bind hI (Ev.eqv (idxV_anyI (fun y => !vldC y) x.f3 0 (by omega)) (Ev.now _))
  refine Ev.bind hC ?_
  refine Ev.eqv ?_ (Ev.now _)
  simp [List.any_eq_not_all_not]
def condB (x : S114) : Bool := decide (1 + (n114 x : Int) ≤ 15) && vldC x
theorem VB (x : S114) (h : n114 x ≤ 1048576) : Ev (fun k => XP.f k x.f0 x.f1 x.f2 x.f3) (condB x) := by
 have hv := (valid_evN _ x (Nat.le_refl _) h).1
 obtain ⟨r, hr, _, r1, r2⟩ := Ux _ x 15 (Nat.le_refl _) h (by omega) (by omega)
 unfold XP.f condB
 by_cases c : 1 + (n114 x : Int) ≤ 15
 ·have q := r1 c
  refine Ev.bind hr ?_
  simp only [if_pos (show r ≥ 0 by omega), decide_eq_true c, Bool.true_and]
  exact Ev.bind hv (Ev.now _)
 ·have q := r2 (by omega)
  refine Ev.bind hr ?_
  simp only [if_neg (show ¬ r ≥ 0 by omega), decide_eq_false c, Bool.false_and]
  exact Ev.now _
def ruleB (r : S116) : Bool := inB r.f0 0 1 && (inB r.f1 (-1) 5 && ((r.f2 == -1 || kindB r.f2 4) && condB r.f3))
def policyB (p : S27) : Bool := inB p.f0 0 999 && (decide ((p.f1.length : Int) ≤ 8) && p.f1.all ruleB)
theorem rule_n (r : S116) : n114 r.f3 ≤ n116 r := by unfold n116; omega
theorem Tg (r : S116) (h : n116 r ≤ 1048576) : Ev (fun k => Wa.f k r.f0 r.f1 r.f2 r.f3.f0 r.f3.f1 r.f3.f2 r.f3.f3) (ruleB r) := by
 have hc := VB r.f3 (by have := rule_n r; omega)
 unfold Wa.f ruleB
 simp only [Wq, WT, Option.bind_some]
 refine Ev.bifT fun _ => Ev.bifT fun _ => ?_
 by_cases c : r.f2 = -1
 ·simp only [if_pos c, beq_iff_eq.2 c, Bool.true_or, Bool.true_and]
  exact Ev.bind hc (Ev.now _)
 ·simp only [if_neg c, beq_eq_false_iff_ne.2 c, Bool.false_or]
  exact Ev.bifT fun _ => Ev.bind hc (Ev.now _)
theorem WQ (p : S27) (h : n27 p ≤ 1048576) : Ev (fun k => ZX.f k p.f0 p.f1) (policyB p) := by
 unfold n27 at h
 unfold ZX.f policyB
 have key : ∀ d i : Nat, p.f1.length - i = d → i ≤ p.f1.length → Ev (fun k => ZX.l0 k p.f0 p.f1 (i : Int)) ((p.f1.drop i).all ruleB && (inB p.f0 0 999 && decide ((p.f1.length : Int) ≤ 8))) := by
  intro d
  induction d with
  | zero =>
   intro i hd hi
   obtain rfl : i = p.f1.length := by omega
   refine Ev.succ ?_
   simp only [ZX.l0, Int.lt_irrefl, if_false, List.drop_length, List.all_nil, Bool.true_and, Wq, Option.bind_some]
   exact Ev.bifT fun _ => Ev.now _
  | succ d ih =>
   intro i hd hi
   have hi' : i < p.f1.length := by omega
   have hx : p.f1[i]? = some p.f1[i] := List.getElem?_eq_getElem hi'
   have hr := ih (i + 1) (by omega) (by omega)
   have hn := le_sum n116 hx
   rw [List.drop_eq_getElem_cons hi', List.all_cons, Bool.and_assoc]
   generalize p.f1[i] = x at hx hn ⊢
   have h1 : ((i : Int) < (p.f1.length : Int)) = True := eq_true (by omega)
   have h2 : (0 ≤ (i : Int)) = True := eq_true (by omega)
   refine Ev.succ ?_
   simp only [ZX.l0, h1, h2, if_true, WC hx, wr1 hi' (show p.f1.length ≤ 9223372036854775807 by omega)]
   exact Ev.band (Tg x (by omega)) fun _ => hr
 refine Ev.eqv ?_ (key p.f1.length 0 (by omega) (by omega))
 rw [List.drop_zero]
 cases p.f1.all ruleB <;> cases inB p.f0 0 999 <;> simp
def forB (x : S116) (a o : Int) : Bool := (decide (x.f1 = -1) || decide (x.f1 = a)) && (decide (x.f2 = -1) || decide (x.f2 = o))
theorem Tq (x : S116) (a o : Int) : Wj.f x.f0 x.f1 x.f2 x.f3.f0 x.f3.f1 x.f3.f2 x.f3.f3 a o = some (forB x a o) := by
 unfold Wj.f forB
 by_cases c1 : x.f1 = -1
 ·rw [if_pos c1]
  by_cases c2 : x.f2 = -1
  ·rw [if_pos c2]; simp [c1, c2]
  ·rw [if_neg c2]; simp [c1, c2, Bool.beq_eq_decide_eq]
 ·rw [if_neg c1]
  by_cases c3 : x.f1 = a
  ·rw [if_pos c3]
   by_cases c2 : x.f2 = -1
   ·rw [if_pos c2]; simp [c3, c2]
   ·rw [if_neg c2]; simp [c3, c2, Bool.beq_eq_decide_eq]
  ·rw [if_neg c3]; simp [c1, c3]
theorem WM (x : S100) (t a : Int) : Y0.f x.f0 x.f1 x.f2 x.f3 x.f4 x.f5 t a = some (holdsB x t a) := by
 unfold Y0.f holdsB
 simp only [WP, Vf, Vo, Option.bind_some]
 cases factB x <;> cases withinB x.f4 x.f5 t <;> simp
def roleB (n : Int) : Bool := decide (0 ≤ n) && decide (n ≤ 5)
def mkR (m : List Bool) (r : Int) : Bool := m.getD r.toNat false
def visX (a : Int) (s : List Bool × List Int) (x : S109) : List Bool × List Int := if x.f0 = a ∧ roleB x.f1 = true ∧ mkR s.1 x.f1 = false then (s.1.set x.f1.toNat true, s.2 ++ [x.f1]) else s
def popX (l : List S109) (a : Int) (s : List Bool × List Int) : List Bool × List Int := l.foldl (visX a) s
def bfsX (l : List S109) : Nat → List Int → List Bool → Option (List Bool)
 | 0, _, _ => none
 | _ + 1, [], m => some m
 | k + 1, a :: rest, m => bfsX l k (popX l a (m, rest)).2 (popX l a (m, rest)).1
def edgeP (l : List S109) (a b : Int) : Prop := ∃ x ∈ l, x.f0 = a ∧ x.f1 = b ∧ roleB a = true ∧ roleB b = true
inductive Rch (l : List S109) (a : Int) : Int → Prop
 | refl : Rch l a a
 | step {b c : Int} : Rch l a b → edgeP l b c → Rch l a c
theorem Rch.trans {l : List S109} {a b c : Int} (h1 : Rch l a b) (h2 : Rch l b c) : Rch l a c := by
 induction h2 with
 | refl => exact h1
 | step _ e ih => exact .step ih e
def RchP (l : List S109) (a c : Int) : Prop := ∃ b, edgeP l a b ∧ Rch l b c
theorem RchP.step {l : List S109} {a b c : Int} (h : RchP l a b) (e : edgeP l b c) : RchP l a c := by
 obtain ⟨d, h1, h2⟩ := h
 exact ⟨d, h1, .step h2 e⟩
theorem Rch_iff {l : List S109} {a c : Int} : Rch l a c ↔ a = c ∨ RchP l a c := by
 constructor
 ·intro h
  induction h with
  | refl => exact .inl rfl
  | step h e ih =>
   rcases ih with rfl | ih
   ·exact .inr ⟨_, e, .refl⟩
   ·exact .inr (ih.step e)
 ·rintro (rfl | ⟨b, e, h⟩)
  ·exact .refl
  ·exact Rch.trans (.step .refl e) h
def markX (m : List Bool) (x : S109) : List Bool := if roleB x.f0 && roleB x.f1 && mkR m x.f0 then m.set x.f1.toNat true else m
def roundX (l : List S109) (m : List Bool) : List Bool := l.foldl markX m
def itX (l : List S109) : Nat → List Bool → List Bool
 | 0, m => m
 | n + 1, m => itX l n (roundX l m)
theorem roleB_iff {n : Int} : roleB n = true ↔ 0 ≤ n ∧ n ≤ 5 := by simp [roleB]
theorem mk_set {m : List Bool} (hm : m.length = 6) {r : Int} (hr : roleB r = true) (q : Int) (hq : roleB q = true) : mkR (m.set r.toNat true) q = (decide (q = r) || mkR m q) := by
 rw [roleB_iff] at hr hq
 unfold mkR
 rw [List.getD_eq_getElem?_getD, List.getD_eq_getElem?_getD]
 by_cases h : q = r
 ·subst h
  rw [List.getElem?_set_self (by omega)]
  simp
 ·rw [List.getElem?_set_ne (by omega)]
  simp [h]
theorem markX_len {m : List Bool} (x : S109) : (markX m x).length = m.length := by
 unfold markX; split <;> simp
theorem roundX_len (l : List S109) : ∀ m : List Bool, (roundX l m).length = m.length := by
 unfold roundX
 induction l with
 | nil => intro m; rfl
 | cons x l ih => intro m; rw [List.foldl_cons, ih, markX_len]
theorem mk_markX {m : List Bool} (hm : m.length = 6) (x : S109) (q : Int) (hq : roleB q = true) : mkR (markX m x) q = (mkR m q || (decide (q = x.f1) && (roleB x.f0 && roleB x.f1 && mkR m x.f0))) := by
 unfold markX
 split
 ·rename_i h
  rw [h]
  simp only [Bool.and_eq_true] at h
  rw [mk_set hm h.1.2 q hq, Bool.and_true, Bool.or_comm]
 ·rename_i h
  rw [Bool.not_eq_true] at h
  rw [h]; simp
theorem mk_mono_markX {m : List Bool} (hm : m.length = 6) (x : S109) {q : Int} (hq : roleB q = true) (h : mkR m q = true) : mkR (markX m x) q = true := by
 rw [mk_markX hm x q hq, h]; rfl
theorem mk_mono_round (l : List S109) : ∀ {m : List Bool}, m.length = 6 → ∀ {q : Int}, roleB q = true → mkR m q = true → mkR (roundX l m) q = true := by
 unfold roundX
 induction l with
 | nil => intro m hm q hq h; exact h
 | cons x l ih => intro m hm q hq h; exact ih (m := markX m x) (by rw [markX_len]; exact hm) hq (mk_mono_markX hm x hq h)
theorem round_edge (l : List S109) : ∀ {m : List Bool}, m.length = 6 → ∀ {a b : Int}, edgeP l a b → mkR m a = true → mkR (roundX l m) b = true := by
 induction l with
 | nil => rintro m hm a b ⟨x, hx, _⟩; cases hx
 | cons x l ih =>
  rintro m hm a b ⟨y, hy, rfl, rfl, ha, hb⟩ h
  have hl : (markX m x).length = 6 := by rw [markX_len]; exact hm
  change mkR (roundX l (markX m x)) y.f1 = true
  rcases List.mem_cons.1 hy with rfl | hy
  ·refine mk_mono_round l hl hb ?_
   rw [mk_markX hm y _ hb, ha, hb, h]; simp
  ·exact ih hl ⟨y, hy, rfl, rfl, ha, hb⟩ (mk_mono_markX hm x ha h)
theorem round_sound (l0 : List S109) (P : Int → Prop) (hP : ∀ a b, P a → edgeP l0 a b → P b) (l : List S109) (hl : ∀ x ∈ l, x ∈ l0) : ∀ {m : List Bool}, m.length = 6 → (∀ q, roleB q = true → mkR m q = true → P q) → ∀ q, roleB q = true → mkR (roundX l m) q = true → P q := by
 induction l with
 | nil => intro m hm h q hq hk; exact h q hq hk
 | cons x l ih =>
  intro m hm h
  refine ih (fun y hy => hl y (List.mem_cons_of_mem _ hy)) (m := markX m x) (by rw [markX_len]; exact hm) ?_
  intro q hq hk
  rw [mk_markX hm x q hq, Bool.or_eq_true] at hk
  rcases hk with hk | hk
  ·exact h q hq hk
  ·simp only [Bool.and_eq_true, decide_eq_true_eq] at hk
   obtain ⟨rfl, ⟨h1, h2⟩, h3⟩ := hk
   exact hP x.f0 x.f1 (h _ h1 h3) ⟨x, hl x List.mem_cons_self, rfl, rfl, h1, h2⟩
def cntB (m : List Bool) : Nat := m.countP id
theorem cnt_set : ∀ (m : List Bool) (i : Nat), cntB m ≤ cntB (m.set i true) ∧ (m[i]? = some false → cntB m < cntB (m.set i true)) := by
 intro m
 induction m with
 | nil => intro i; simp
 | cons b m ih =>
  intro i
  cases i with
  | zero => cases b <;> simp [cntB]
  | succ i =>
   have := ih i
   simp only [List.set_cons_succ, List.getElem?_cons_succ, cntB, List.countP_cons] at this ⊢
   exact ⟨by omega, fun h => by have := this.2 h; omega⟩
theorem cnt_markX (m : List Bool) (hm : m.length = 6) (x : S109) : cntB m ≤ cntB (markX m x) ∧ (markX m x = m ∨ cntB m < cntB (markX m x)) := by
 unfold markX
 split
 ·rename_i h
  simp only [Bool.and_eq_true, roleB_iff] at h
  have hlt : x.f1.toNat < m.length := by omega
  refine ⟨(cnt_set m _).1, ?_⟩
  cases hb : m[x.f1.toNat] with
  | true =>
   left
   apply List.ext_getElem?
   intro j
   by_cases e : x.f1.toNat = j
   ·subst e; rw [List.getElem?_set_self hlt, List.getElem?_eq_getElem hlt, hb]
   ·rw [List.getElem?_set_ne e]
  | false => exact .inr ((cnt_set m _).2 (by rw [List.getElem?_eq_getElem hlt, hb]))
 ·exact ⟨Nat.le_refl _, .inl rfl⟩
theorem cnt_round (l : List S109) : ∀ (m : List Bool), m.length = 6 → cntB m ≤ cntB (roundX l m) ∧ (roundX l m = m ∨ cntB m < cntB (roundX l m)) := by
 induction l with
 | nil => intro m hm; exact ⟨Nat.le_refl _, .inl rfl⟩
 | cons x l ih =>
  intro m hm
  obtain ⟨h1, h2⟩ := cnt_markX m hm x
  obtain ⟨h3, h4⟩ := ih (markX m x) (by rw [markX_len]; exact hm)
  change cntB m ≤ cntB (roundX l (markX m x)) ∧ (roundX l (markX m x) = m ∨ cntB m < cntB (roundX l (markX m x)))
  refine ⟨by omega, ?_⟩
  rcases h2 with h2 | h2
  ·rw [h2] at h4 ⊢; exact h4
  ·right; omega
theorem cnt_le (m : List Bool) : cntB m ≤ m.length := List.countP_le_length
theorem itX_len (l : List S109) : ∀ (n : Nat) (m : List Bool), (itX l n m).length = m.length := by
 intro n
 induction n with
 | zero => intro m; rfl
 | succ n ih => intro m; change (itX l n (roundX l m)).length = _; rw [ih, roundX_len]
theorem itX_fix (l : List S109) : ∀ (n : Nat) (m : List Bool), roundX l m = m → itX l n m = m := by
 intro n
 induction n with
 | zero => intro m _; rfl
 | succ n ih => intro m h; change itX l n (roundX l m) = m; rw [h]; exact ih m h
theorem itX_closed (l : List S109) : ∀ (n : Nat) (m : List Bool), m.length = 6 → 6 ≤ cntB m + n → roundX l (itX l n m) = itX l n m := by
 intro n
 induction n with
 | zero =>
  intro m hm h
  rcases (cnt_round l m hm).2 with h2 | h2
  ·exact h2
  ·have := cnt_le (roundX l m); rw [roundX_len] at this; omega
 | succ n ih =>
  intro m hm h
  change roundX l (itX l n (roundX l m)) = itX l n (roundX l m)
  rcases (cnt_round l m hm).2 with h2 | h2
  ·rw [h2, itX_fix l n m h2]; exact h2
  ·exact ih _ (by rw [roundX_len]; exact hm) (by omega)
theorem itX_sound (l : List S109) (P : Int → Prop) (hP : ∀ a b, P a → edgeP l a b → P b) : ∀ (n : Nat) (m : List Bool), m.length = 6 → (∀ q, roleB q = true → mkR m q = true → P q) → ∀ q, roleB q = true → mkR (itX l n m) q = true → P q := by
 intro n
 induction n with
 | zero => intro m _ h; exact h
 | succ n ih => intro m hm h; exact ih _ (by rw [roundX_len]; exact hm) (round_sound l P hP l (fun _ h => h) hm h)
theorem itX_mono (l : List S109) : ∀ (n : Nat) (m : List Bool), m.length = 6 → ∀ q, roleB q = true → mkR m q = true → mkR (itX l n m) q = true := by
 intro n
 induction n with
 | zero => intro m _ q _ h; exact h
 | succ n ih => intro m hm q hq h; exact ih _ (by rw [roundX_len]; exact hm) q hq (mk_mono_round l hm hq h)
def closX (l : List S109) (role : Int) : List Bool := itX l 6 ((List.replicate 6 false).set role.toNat true)
theorem mk_start {role : Int} (hr : roleB role = true) (q : Int) (hq : roleB q = true) : mkR ((List.replicate 6 false).set role.toNat true) q = decide (q = role) := by
 rw [mk_set (by simp) hr q hq]
 have : mkR (List.replicate 6 false) q = false := by
  unfold mkR
  rw [List.getD_eq_getElem?_getD, List.getElem?_replicate]
  split <;> rfl
 rw [this, Bool.or_false]
theorem closX_iff (l : List S109) {role : Int} (hr : roleB role = true) {q : Int} (hq : roleB q = true) : mkR (closX l role) q = true ↔ Rch l role q := by
 have hl : ((List.replicate 6 false).set role.toNat true).length = 6 := by simp
 constructor
 ·exact itX_sound l (Rch l role) (fun a b h e => .step h e) 6 _ hl (fun q hq h => by
   rw [mk_start hr q hq, decide_eq_true_eq] at h; subst h; exact .refl) q hq
 ·intro h
  have hc : roundX l (closX l role) = closX l role := itX_closed l 6 _ hl (by omega)
  have h6 : (closX l role).length = 6 := by unfold closX; rw [itX_len]; exact hl
  have key : roleB q = true ∧ mkR (closX l role) q = true := by
   clear hq
   induction h with
   | refl => exact ⟨hr, itX_mono l 6 _ hl _ hr (by rw [mk_start hr _ hr]; simp)⟩
   | step h e ih =>
    have := round_edge l h6 e ih.2
    rw [hc] at this
    obtain ⟨x, _, _, _, _, hb⟩ := e
    exact ⟨hb, this⟩
  exact key.2
theorem visX_len (a : Int) (s : List Bool × List Int) (x : S109) : (visX a s x).1.length = s.1.length := by
 unfold visX; split <;> simp
theorem popX_len (l : List S109) (a : Int) : ∀ s : List Bool × List Int, (popX l a s).1.length = s.1.length := by
 unfold popX
 induction l with
 | nil => intro s; rfl
 | cons x l ih => intro s; rw [List.foldl_cons, ih, visX_len]
theorem cnt_set_lt {m : List Bool} {r : Int} (hm : m.length = 6) (hr : roleB r = true) (h : mkR m r = false) : cntB (m.set r.toNat true) = cntB m + 1 := by
 rw [roleB_iff] at hr
 have hlt : r.toNat < m.length := by omega
 have hb : m[r.toNat] = false := by
  unfold mkR at h; rw [List.getD_eq_getElem?_getD, List.getElem?_eq_getElem hlt] at h; exact h
 have key : ∀ (m : List Bool) (i : Nat), m[i]? = some false → cntB (m.set i true) = cntB m + 1 := by
  intro m
  induction m with
  | nil => intro i h; simp at h
  | cons b m ih =>
   intro i h
   cases i with
   | zero => simp at h; subst h; simp [cntB]
   | succ i =>
    have := ih i (by simpa using h)
    simp only [List.set_cons_succ, cntB, List.countP_cons] at this ⊢
    omega
 exact key m _ (by rw [List.getElem?_eq_getElem hlt, hb])
structure VisOk (l0 : List S109) (a : Int) (s t : List Bool × List Int) : Prop where
 len : t.1.length = 6
 sum : t.2.length + (6 - cntB t.1) = s.2.length + (6 - cntB s.1)
 le : cntB s.1 ≤ cntB t.1
 mono : ∀ q, roleB q = true → mkR s.1 q = true → mkR t.1 q = true
 old : ∀ q, q ∈ s.2 → q ∈ t.2
 new : ∀ q, roleB q = true → mkR t.1 q = true → mkR s.1 q = true ∨ (q ∈ t.2 ∧ edgeP l0 a q)
 newq : ∀ q, q ∈ t.2 → q ∈ s.2 ∨ edgeP l0 a q
theorem VisOk.rfl' {l0 : List S109} {a : Int} {s : List Bool × List Int} (h : s.1.length = 6) : VisOk l0 a s s := ⟨h, rfl, Nat.le_refl _, fun _ _ h => h, fun _ h => h, fun _ _ h => .inl h, fun _ h => .inl h⟩
theorem vis_ok (l0 : List S109) (a : Int) (ha : roleB a = true) (s : List Bool × List Int) (h : s.1.length = 6) (x : S109) (hx : x ∈ l0) : VisOk l0 a s (visX a s x) := by
 unfold visX
 split
 ·rename_i hc
  obtain ⟨h1, h2, h3⟩ := hc
  have e : edgeP l0 a x.f1 := ⟨x, hx, h1, rfl, ha, h2⟩
  have hcn := cnt_set_lt h h2 h3
  have hle := cnt_le (s.1.set x.f1.toNat true)
  rw [List.length_set] at hle
  refine ⟨by simp [h], ?_, by rw [hcn]; omega, fun q hq hm => ?_, fun q hq => List.mem_append_left _ hq, fun q hq hm => ?_, fun q hq => ?_⟩
  ·simp only [List.length_append, List.length_singleton, hcn]; omega
  ·show mkR (s.1.set _ true) q = true
   rw [mk_set h h2 q hq, hm, Bool.or_true]
  ·rw [show (s.1.set x.f1.toNat true, s.2 ++ [x.f1]).1 = s.1.set x.f1.toNat true from rfl, mk_set h h2 q hq, Bool.or_eq_true, decide_eq_true_eq] at hm
   rcases hm with rfl | hm
   ·exact .inr ⟨by simp, e⟩
   ·exact .inl hm
  ·rcases List.mem_append.1 hq with hq | hq
   ·exact .inl hq
   ·rw [List.mem_singleton.1 hq]; exact .inr e
 ·exact VisOk.rfl' h
theorem VisOk.trans {l0 : List S109} {a : Int} {s t u : List Bool × List Int} (h1 : VisOk l0 a s t) (h2 : VisOk l0 a t u) : VisOk l0 a s u :=
 ⟨h2.len, h2.sum.trans h1.sum, Nat.le_trans h1.le h2.le, fun q hq h => h2.mono q hq (h1.mono q hq h), fun q h => h2.old q (h1.old q h),
  fun q hq h => by
   rcases h2.new q hq h with h | h
   ·rcases h1.new q hq h with h | ⟨h, e⟩
    ·exact .inl h
    ·exact .inr ⟨h2.old q h, e⟩
   ·exact .inr h,
  fun q h => by
   rcases h2.newq q h with h | h
   ·exact h1.newq q h
   ·exact .inr h⟩
theorem pop_ok (l0 : List S109) (a : Int) (ha : roleB a = true) (l : List S109) (hl : ∀ x ∈ l, x ∈ l0) : ∀ (s : List Bool × List Int), s.1.length = 6 → VisOk l0 a s (popX l a s) ∧ ∀ x ∈ l, x.f0 = a → roleB x.f1 = true → mkR (popX l a s).1 x.f1 = true := by
 unfold popX
 induction l with
 | nil => intro s h; exact ⟨VisOk.rfl' h, by intro x hx; cases hx⟩
 | cons x l ih =>
  intro s h
  have h1 := vis_ok l0 a ha s h x (hl x List.mem_cons_self)
  obtain ⟨h2, h3⟩ := ih (fun y hy => hl y (List.mem_cons_of_mem _ hy)) (visX a s x) h1.len
  refine ⟨h1.trans h2, fun y hy e1 e2 => ?_⟩
  rw [List.foldl_cons]
  rcases List.mem_cons.1 hy with rfl | hy
  ·refine h2.mono _ e2 ?_
   unfold visX
   split
   ·rw [show (s.1.set y.f1.toNat true, s.2 ++ [y.f1]).1 = s.1.set y.f1.toNat true from rfl, mk_set h e2 _ e2]; simp
   ·rename_i hc
    cases hmk : mkR s.1 y.f1 with
    | true => rfl
    | false => exact absurd ⟨e1, e2, hmk⟩ hc
  ·exact h3 y hy e1 e2
theorem bfsX_nil (l : List S109) (role : Int) (k : Nat) (m : List Bool) (hk : 0 < k) (hm : m.length = 6) (hs : ∀ q, roleB q = true → mkR m q = true → RchP l role q) (hc : ∀ a, (a = role ∨ roleB a = true ∧ mkR m a = true) → a ∈ ([] : List Int) ∨ ∀ b, edgeP l a b → mkR m b = true) :
  ∃ r, bfsX l k [] m = some r ∧ r.length = 6 ∧ ∀ q, roleB q = true → (mkR r q = true ↔ RchP l role q) := by
 obtain ⟨k, rfl⟩ : ∃ j, k = j + 1 := ⟨k - 1, by omega⟩
 refine ⟨m, rfl, hm, fun q hq => ⟨hs q hq, ?_⟩⟩
 rintro ⟨b, e, h⟩
 have h0 : mkR m b = true := (hc role (.inl rfl)).elim (fun h => absurd h (by simp)) (fun h => h b e)
 have key : mkR m q = true := by
  clear hq
  induction h with
  | refl => exact h0
  | step h e2 ih =>
   obtain ⟨x, _, _, _, hb, _⟩ := id e2
   exact (hc _ (.inr ⟨hb, ih⟩)).elim (fun h => absurd h (by simp)) (fun h => h _ e2)
 exact key
theorem bfsX_spec (l : List S109) (role : Int) (hr : roleB role = true) : ∀ (d k : Nat) (todo : List Int) (m : List Bool), m.length = 6 → todo.length + (6 - cntB m) ≤ d → d < k →
  (∀ q ∈ todo, roleB q = true ∧ Rch l role q) → (∀ q, roleB q = true → mkR m q = true → RchP l role q) → (∀ a, (a = role ∨ roleB a = true ∧ mkR m a = true) → a ∈ todo ∨ ∀ b, edgeP l a b → mkR m b = true) →
  ∃ r, bfsX l k todo m = some r ∧ r.length = 6 ∧ ∀ q, roleB q = true → (mkR r q = true ↔ RchP l role q) := by
 intro d
 induction d with
 | zero =>
  intro k todo m hm hd hk ht hs hc
  cases todo with
  | cons a rest => simp at hd
  | nil => exact bfsX_nil l role k m (by omega) hm hs hc
 | succ d ih =>
  intro k todo m hm hd hk ht hs hc
  cases todo with
  | nil => exact bfsX_nil l role k m (by omega) hm hs hc
  | cons a rest =>
   obtain ⟨k, rfl⟩ : ∃ j, k = j + 1 := ⟨k - 1, by omega⟩
   obtain ⟨ha, hra⟩ := ht a List.mem_cons_self
   obtain ⟨ok, hall⟩ := pop_ok l a ha l (fun _ h => h) (m, rest) hm
   refine ih k _ _ ok.len (by have := ok.sum; simp only [List.length_cons] at hd this ⊢; omega) (by omega) (fun q hq => ?_) (fun q hq hmq => ?_) (fun b hb => ?_)
   ·rcases ok.newq q hq with h | h
    ·exact ht q (List.mem_cons_of_mem _ h)
    ·obtain ⟨x, _, _, _, _, hb⟩ := id h
     exact ⟨hb, .step hra h⟩
   ·rcases ok.new q hq hmq with h | ⟨_, h⟩
    ·exact hs q hq h
    ·rcases Rch_iff.1 hra with rfl | h2
     ·exact ⟨q, h, .refl⟩
     ·exact h2.step h
   ·have hmono : ∀ c, mkR m c = true → roleB c = true → mkR (popX l a (m, rest)).1 c = true := fun c h hcr => ok.mono c hcr h
    have edgeR : ∀ {c e : Int}, edgeP l c e → roleB e = true := fun ⟨_, _, _, _, _, h⟩ => h
    by_cases hba : b = a
    ·subst hba
     right
     rintro c ⟨x, hx, e1, e2, _, hcr⟩
     subst e2
     exact hall x hx e1 hcr
    ·have hold : b = role ∨ roleB b = true ∧ mkR m b = true ∨ b ∈ (popX l a (m, rest)).2 := by
      rcases hb with rfl | ⟨h1, h2⟩
      ·exact .inl rfl
      ·rcases ok.new b h1 h2 with h | ⟨h, _⟩
       ·exact .inr (.inl ⟨h1, h⟩)
       ·exact .inr (.inr h)
     rcases hold with h | h | h
     ·rcases hc b (.inl h) with h3 | h3
      ·rcases List.mem_cons.1 h3 with h3 | h3
       ·exact absurd h3 hba
       ·exact .inl (ok.old b h3)
      ·exact .inr fun c e => hmono c (h3 c e) (edgeR e)
     ·rcases hc b (.inr h) with h3 | h3
      ·rcases List.mem_cons.1 h3 with h3 | h3
       ·exact absurd h3 hba
       ·exact .inl (ok.old b h3)
      ·exact .inr fun c e => hmono c (h3 c e) (edgeR e)
     ·exact .inl h
theorem below_spec (l : List S109) (role : Int) (hr : roleB role = true) (k : Nat) (hk : 8 ≤ k) : ∃ r, bfsX l k [role] (List.replicate 6 false) = some r ∧ r.length = 6 ∧ ∀ q, roleB q = true → (mkR r q = true ↔ RchP l role q) := by
 have h0 : ∀ q, mkR (List.replicate 6 false) q = false := by
  intro q
  unfold mkR
  rw [List.getD_eq_getElem?_getD, List.getElem?_replicate]
  split <;> rfl
 refine bfsX_spec l role hr 7 k [role] _ (by simp) (by simp; omega) (by omega) (fun q hq => ?_) (fun q _ h => ?_) (fun a ha => ?_)
 ·rw [List.mem_singleton.1 hq]; exact ⟨hr, .refl⟩
 ·rw [h0] at h; cases h
 ·rcases ha with rfl | ⟨_, h⟩
  ·exact .inl (by simp)
  ·rw [h0] at h; cases h
def hasI (l : List Int) (a : Int) : Bool := l.any (fun x => decide (a = x))
def underB (a b : List Int) : Bool := !(a.any fun x => !hasI b x)
def outV (m : List Bool) : List Int := [0, 1, 2, 3, 4, 5].filter (fun r => mkR m r)
def rolesV (l : List S109) (role : Int) : List Int := if inB role 0 5 = true then outV (closX l role) else []
def pairP (l : List S109) (x : S109) : Bool := roleB x.f0 && (roleB x.f1 && !hasI (rolesV l x.f1) x.f0)
def pairsB (l : List S109) : Bool := l.all (pairP l) && decide ((l.length : Int) ≤ 10)
theorem roleB_in (n : Int) : inB n 0 5 = roleB n := rfl
theorem has_out (m : List Bool) (r : Int) (hr : roleB r = true) : hasI (outV m) r = mkR m r := by
 have h := roleB_iff.1 hr
 unfold hasI outV
 rw [Bool.eq_iff_iff, List.any_eq_true]
 constructor
 ·rintro ⟨x, hx, he⟩
  rw [of_decide_eq_true he]
  exact (List.mem_filter.1 hx).2
 ·intro hm
  exact ⟨r, List.mem_filter.2 ⟨by rcases (by omega : r = 0 ∨ r = 1 ∨ r = 2 ∨ r = 3 ∨ r = 4 ∨ r = 5) with rfl | rfl | rfl | rfl | rfl | rfl <;> simp, hm⟩, decide_eq_true rfl⟩
theorem has_roles (l : List S109) (a b : Int) (ha : roleB a = true) (hb : roleB b = true) : hasI (rolesV l b) a = mkR (closX l b) a := by
 unfold rolesV
 rw [roleB_in, if_pos hb, has_out _ _ ha]
theorem pairs_alike (l : List S109) (p : S109 → Bool) (hp : ∀ x, p x = true ↔ roleB x.f0 = true ∧ roleB x.f1 = true ∧ ¬ RchP l x.f0 x.f0) : l.all p = l.all (pairP l) := by
 have hq : ∀ x, pairP l x = true ↔ roleB x.f0 = true ∧ roleB x.f1 = true ∧ ¬ Rch l x.f1 x.f0 := by
  intro x
  unfold pairP
  simp only [Bool.and_eq_true, Bool.not_eq_true']
  constructor
  ·rintro ⟨h1, h2, h3⟩
   refine ⟨h1, h2, fun h => ?_⟩
   rw [has_roles l _ _ h1 h2, (closX_iff l h2 h1).2 h] at h3
   cases h3
  ·rintro ⟨h1, h2, h3⟩
   refine ⟨h1, h2, ?_⟩
   rw [has_roles l _ _ h1 h2]
   cases hm : mkR (closX l x.f1) x.f0 with
   | false => rfl
   | true => exact absurd ((closX_iff l h2 h1).1 hm) h3
 rw [Bool.eq_iff_iff, List.all_eq_true, List.all_eq_true]
 constructor
 ·intro h x hx
  obtain ⟨h1, h2, h3⟩ := (hp x).1 (h x hx)
  exact (hq x).2 ⟨h1, h2, fun hr => h3 ⟨x.f1, ⟨x, hx, rfl, rfl, h1, h2⟩, hr⟩⟩
 ·intro h x hx
  obtain ⟨h1, h2, _⟩ := (hq x).1 (h x hx)
  refine (hp x).2 ⟨h1, h2, ?_⟩
  rintro ⟨b, ⟨y, hy, e1, rfl, _, _⟩, hr⟩
  have := (hq y).1 (h y hy)
  rw [e1] at this
  exact this.2.2 hr
theorem roles_l2 (m : List Bool) (hm : m.length = 6) : ∀ (d : Nat) (r : Nat) (out : List Int), r + d = 6 → out.length ≤ r → Ev (fun k => Ze.l2 k out m (r : Int)) (out ++ (([0, 1, 2, 3, 4, 5] : List Int).drop r).filter (fun r => mkR m r)) := by
 intro d
 induction d with
 | zero =>
  intro r out hr _
  obtain rfl : r = 6 := by omega
  refine Ev.succ ?_
  simp only [Ze.l2]
  refine Ev.neg (by omega) ?_
  simp only [List.drop_succ_cons, List.drop_nil, List.filter_nil, List.append_nil]
  exact Ev.now _
 | succ d ih =>
  intro r out hr ho
  have hd : (([0, 1, 2, 3, 4, 5] : List Int).drop r) = (r : Int) :: (([0, 1, 2, 3, 4, 5] : List Int).drop (r + 1)) := by
   rcases (by omega : r = 0 ∨ r = 1 ∨ r = 2 ∨ r = 3 ∨ r = 4 ∨ r = 5) with rfl | rfl | rfl | rfl | rfl | rfl <;> rfl
  have e : wrap64 ((r : Int) + 1) = ((r + 1 : Nat) : Int) := wr1 (n := 6) (by omega) (by omega)
  have e2 : rdOf false m (r : Int) = mkR m (r : Int) := rfl
  rw [hd, List.filter_cons]
  refine Ev.succ ?_
  simp only [Ze.l2, e, e2]
  refine Ev.pos (by omega) (Ev.pos (by omega) (Ev.pos (by omega) ?_))
  cases mkR m (r : Int) with
  | false => simp only [Bool.false_eq_true, if_false]; exact ih (r + 1) out (by omega) (by omega)
  | true =>
   simp only [if_true]
   refine Ev.pos (by omega) ?_
   have := ih (r + 1) (out ++ [(r : Int)]) (by omega) (by simp; omega)
   rw [List.append_assoc] at this
   exact this
theorem roles_l0 (l : List S109) (h : l.length ≤ 1048576) : ∀ (d n : Nat) (m : List Bool), n + d = 6 → m.length = 6 → Ev (fun k => Ze.l0 k l [] m (n : Int)) (outV (itX l d m)) := by
 intro d
 induction d with
 | zero =>
  intro n m hn hm
  obtain rfl : n = 6 := by omega
  refine Ev.succ ?_
  simp only [Ze.l0]
  refine Ev.neg (by omega) ?_
  exact roles_l2 m hm 6 0 [] rfl (by simp)
 | succ d ih =>
  intro n m hn hm
  have e : wrap64 ((n : Int) + 1) = ((n + 1 : Nat) : Int) := wr1 (n := 6) (by omega) (by omega)
  refine Ev.succ ?_
  simp only [Ze.l0]
  refine Ev.pos (by omega) ?_
  change Ev _ ((fun s => outV (itX l d s)) (l.foldl markX m))
  refine ev_fold l markX (fun s => outV (itX l d s)) (fun _ s => s.length = 6) (fun k s i => Ze.l1 k l [] s (n : Int) i) ?_ ?_ ?_ m hm
  ·intro s hs
   refine Ev.succ ?_
   simp only [Ze.l1, Int.lt_irrefl, if_false, e]
   exact ih (n + 1) s (by omega) hs
  ·intro i x s _ hs; rw [markX_len]; exact hs
  ·intro i x s r hx hs hr
   have hi := lt_of_get hx
   have h1 : ((i : Int) < (l.length : Int)) = True := eq_true (by omega)
   have h2 : (0 ≤ (i : Int)) = True := eq_true (by omega)
   have e3 := wr1 hi (show l.length ≤ 9223372036854775807 by omega)
   refine Ev.succ ?_
   simp only [Ze.l1, h1, h2, if_true, WI hx, Wq, Option.bind_some, roleB_in, e3]
   unfold markX at hr
   cases h5 : roleB x.f0 with
   | false =>
    simp only [Bool.false_eq_true, if_false]
    simp only [h5, Bool.false_and, Bool.false_eq_true, if_false] at hr
    exact hr
   | true =>
    cases h6 : roleB x.f1 with
    | false =>
     simp only [Bool.false_eq_true, if_false, if_true]
     simp only [h5, h6, Bool.false_and, Bool.and_false, Bool.false_eq_true, if_false] at hr
     exact hr
    | true =>
     have h7 := roleB_iff.1 h5
     simp only [if_true]
     simp only [h5, h6, Bool.true_and] at hr
     refine Ev.pos (by omega) (Ev.pos (by omega) ?_)
     have h8 := roleB_iff.1 h6
     have hk : rdOf false s x.f0 = mkR s x.f0 := rfl
     rw [hk]
     cases h9 : mkR s x.f0 with
     | false => simp only [h9, Bool.false_eq_true, if_false] at hr ⊢; exact hr
     | true =>
      simp only [h9, if_true] at hr ⊢
      exact Ev.pos (by omega) (Ev.pos (by omega) hr)
theorem W0 (l : List S109) (role : Int) (h : l.length ≤ 1048576) : Ev (fun k => Ze.f k l role) (rolesV l role) := by
 unfold Ze.f rolesV
 simp only [Option.bind_some, Wq]
 cases hr : inB role 0 5 with
 | false => simp only [Bool.false_eq_true, if_false]; exact Ev.now _
 | true =>
  have h2 := inB_iff.1 hr
  simp only [if_true]
  refine Ev.pos (by omega) (Ev.pos (by simp only [List.length_replicate]; omega) ?_)
  exact roles_l0 l h 6 0 _ rfl (by simp)
def bestP (a b t g : Int) (x : S100) : Bool := decide (x.f0 = a) && (decide (x.f1 = b) && holdsB x t g)
def bestV (a b t g : Int) : List S100 → Int → Int
 | [], m => m
 | x :: l, m => bestV a b t g l (if bestP a b t g x = true then (if m < x.f2 then x.f2 else m) else m)
def givesP (p t g : Int) (x : S100) : Bool := decide (x.f0 = 1) && (decide (x.f1 = p) && holdsB x t g)
def hasRB (l : List S109) (s : List S100) (p r t g : Int) : Bool := s.any fun x => givesP p t g x && hasI (rolesV l x.f2) r
theorem rolesV_len (l : List S109) (r : Int) : (rolesV l r).length ≤ 6 := by
 unfold rolesV
 split
 ·unfold outV
  exact Nat.le_trans (List.length_filter_le _ _) (by simp)
 ·simp
theorem rolesV_role (l : List S109) (r : Int) : ∀ q ∈ rolesV l r, roleB q = true := by
 intro q hq
 unfold rolesV at hq
 split at hq
 ·unfold outV at hq
  have := (List.mem_filter.1 hq).1
  rw [roleB_iff]
  simp at this
  omega
 ·simp at hq
theorem any_hasI (l : List Int) (r : Int) : hasI l r = true ↔ r ∈ l := by
 unfold hasI
 rw [List.any_eq_true]
 constructor
 ·rintro ⟨x, hx, e⟩; rw [decide_eq_true_eq] at e; rw [e]; exact hx
 ·intro h; exact ⟨r, h, by simp⟩
theorem rolesOf_l2 (m : List Bool) (hm : m.length = 6) : ∀ (d : Nat) (r : Nat) (out : List Int), r + d = 6 → out.length ≤ r → Ev (fun k => Zi.l2 k m out (r : Int)) (out ++ (([0, 1, 2, 3, 4, 5] : List Int).drop r).filter (fun r => mkR m r)) := by
 intro d
 induction d with
 | zero =>
  intro r out hr _
  obtain rfl : r = 6 := by omega
  refine Ev.succ ?_
  simp only [Zi.l2]
  refine Ev.neg (by omega) ?_
  simp only [List.drop_succ_cons, List.drop_nil, List.filter_nil, List.append_nil]
  exact Ev.now _
 | succ d ih =>
  intro r out hr ho
  have hd : (([0, 1, 2, 3, 4, 5] : List Int).drop r) = (r : Int) :: (([0, 1, 2, 3, 4, 5] : List Int).drop (r + 1)) := by
   rcases (by omega : r = 0 ∨ r = 1 ∨ r = 2 ∨ r = 3 ∨ r = 4 ∨ r = 5) with rfl | rfl | rfl | rfl | rfl | rfl <;> rfl
  have e : wrap64 ((r : Int) + 1) = ((r + 1 : Nat) : Int) := wr1 (n := 6) (by omega) (by omega)
  have e2 : rdOf false m (r : Int) = mkR m (r : Int) := rfl
  rw [hd, List.filter_cons]
  refine Ev.succ ?_
  simp only [Zi.l2, e, e2]
  refine Ev.pos (by omega) (Ev.pos (by omega) (Ev.pos (by omega) ?_))
  cases mkR m (r : Int) with
  | false => simp only [Bool.false_eq_true, if_false]; exact ih (r + 1) out (by omega) (by omega)
  | true =>
   simp only [if_true]
   refine Ev.pos (by omega) ?_
   have := ih (r + 1) (out ++ [(r : Int)]) (by omega) (by simp; omega)
   rw [List.append_assoc] at this
   exact this
def setAll (m : List Bool) (u : List Int) : List Bool := u.foldl (fun m r => m.set r.toNat true) m
theorem setAll_len (u : List Int) : ∀ m : List Bool, (setAll m u).length = m.length := by
 induction u with
 | nil => intro m; rfl
 | cons r u ih => intro m; unfold setAll at *; rw [List.foldl_cons, ih, List.length_set]
theorem setAll_mk (u : List Int) : ∀ (m : List Bool), m.length = 6 → (∀ q ∈ u, roleB q = true) → ∀ q, roleB q = true → mkR (setAll m u) q = (mkR m q || hasI u q) := by
 induction u with
 | nil => intro m _ _ q _; simp [setAll, hasI]
 | cons r u ih =>
  intro m hm hu q hq
  have h1 := ih (m.set r.toNat true) (by rw [List.length_set]; exact hm) (fun y hy => hu y (List.mem_cons_of_mem _ hy)) q hq
  unfold setAll at h1 ⊢
  rw [List.foldl_cons, h1, mk_set hm (hu r List.mem_cons_self) q hq]
  unfold hasI
  rw [List.any_cons]
  cases mkR m q <;> cases decide (q = r) <;> simp
def marksV (l : List S109) (p t g : Int) : List S100 → List Bool → List Bool
 | [], m => m
 | x :: s, m => marksV l p t g s (if givesP p t g x = true then setAll m (rolesV l x.f2) else m)
theorem marksV_len (l : List S109) (p t g : Int) : ∀ (s : List S100) (m : List Bool), (marksV l p t g s m).length = m.length
 | [], _ => rfl
 | x :: s, m => by
  rw [marksV, marksV_len l p t g s]
  split
  ·exact setAll_len _ _
  ·rfl
theorem marksV_mk (l : List S109) (p t g : Int) (q : Int) (hq : roleB q = true) : ∀ (s : List S100) (m : List Bool), m.length = 6 → mkR (marksV l p t g s m) q = (mkR m q || hasRB l s p q t g)
 | [], m, _ => by simp [marksV, hasRB]
 | x :: s, m, hm => by
  rw [marksV, marksV_mk l p t g q hq s _ (by split <;> simp [setAll_len, hm])]
  unfold hasRB
  rw [List.any_cons]
  cases givesP p t g x with
  | false => simp
  | true =>
   simp only [if_true, Bool.true_and]
   rw [setAll_mk _ m hm (rolesV_role l x.f2) q hq, Bool.or_assoc]
theorem hasRB_role (l : List S109) (s : List S100) (p r t g : Int) (h : roleB r = false) : hasRB l s p r t g = false := by
 unfold hasRB
 rw [List.any_eq_false]
 intro x _
 have : hasI (rolesV l x.f2) r = false := by
  rw [Bool.eq_false_iff]
  intro hc
  have := rolesV_role l x.f2 r ((any_hasI _ _).1 hc)
  rw [h] at this; cases this
 simp [this]
theorem UX (l : List S109) (s : List S100) (p t g : Int) (hl : l.length ≤ 1048576) (h : s.length ≤ 1048576) : ∃ v, Ev (fun k => Zi.f k l s p t g) v ∧ v.length ≤ 6 ∧ ∀ r, hasI v r = hasRB l s p r t g := by
 have under : ∀ (u : List Int) (hu : ∀ q ∈ u, roleB q = true) (hn : u.length ≤ 6) (i : Nat) (r : List Int) (d j : Nat) (m : List Bool), m.length = 6 → u.length - j = d → j ≤ u.length → Ev (fun k => Zi.l0 k l s p t g (setAll m (u.drop j)) (wrap64 ((i : Int) + 1))) r → Ev (fun k => Zi.l1 k l s p t g m (i : Int) u (j : Int)) r := by
  intro u hu hn i r d
  induction d with
  | zero =>
   intro j m hm hd hj hr
   obtain rfl : j = u.length := by omega
   rw [List.drop_length] at hr
   refine Ev.succ ?_
   simp only [Zi.l1, Int.lt_irrefl, if_false]
   exact hr
  | succ d ih =>
   intro j m hm hd hj hr
   have hj' : j < u.length := by omega
   obtain ⟨y, hy⟩ := getAt (l := u) (i := j) hj'
   have hb := roleB_iff.1 (hu y (List.mem_of_getElem? hy))
   have ry := rd_nat _ _ _ hy
   have hd2 : u.drop j = y :: u.drop (j + 1) := by
    rw [List.drop_eq_getElem_cons hj']
    rw [List.getElem?_eq_getElem hj'] at hy
    rw [Option.some.inj hy]
   have hr2 := ih (j + 1) (m.set y.toNat true) (by rw [List.length_set]; exact hm) (by omega) (by omega) (by rw [hd2] at hr; exact hr)
   have k1 : ((j : Int) < (u.length : Int)) = True := eq_true (by omega)
   have k2 : (0 ≤ (j : Int)) = True := eq_true (by omega)
   have k3 : (0 ≤ y) = True := eq_true (by omega)
   have k4 : (y < (m.length : Int)) = True := eq_true (by omega)
   have w := wr1 hj' (show u.length ≤ 9223372036854775807 by omega)
   refine Ev.succ ?_
   simp only [Zi.l1, k1, k2, k3, k4, if_true, ry, w]
   exact hr2
 have key : ∀ (d i : Nat) (m : List Bool), m.length = 6 → s.length - i = d → i ≤ s.length → Ev (fun k => Zi.l0 k l s p t g m (i : Int)) (outV (marksV l p t g (s.drop i) m)) := by
  intro d
  induction d with
  | zero =>
   intro i m hm hd hi
   obtain rfl : i = s.length := by omega
   refine Ev.succ ?_
   simp only [Zi.l0, Int.lt_irrefl, if_false, List.drop_length, marksV]
   exact rolesOf_l2 m hm 6 0 [] rfl (by simp)
  | succ d ih =>
   intro i m hm hd hi
   have hi' : i < s.length := by omega
   have hx : s[i]? = some s[i] := List.getElem?_eq_getElem hi'
   rw [List.drop_eq_getElem_cons hi', marksV]
   generalize s[i] = x at hx ⊢
   have h1 : ((i : Int) < (s.length : Int)) = True := eq_true (by omega)
   have h2 : (0 ≤ (i : Int)) = True := eq_true (by omega)
   have hl6 := rolesV_len l x.f2
   have hno := ih (i + 1) m hm (by omega) (by omega)
   have hyes := ih (i + 1) (setAll m (rolesV l x.f2)) (by rw [setAll_len]; exact hm) (by omega) (by omega)
   have h3 := wr1 hi' (show s.length ≤ 9223372036854775807 by omega)
   have jno : givesP p t g x = false → Ev (fun k => Zi.l0 k l s p t g m ((i + 1 : Nat) : Int)) (outV (marksV l p t g (s.drop (i + 1)) (if givesP p t g x = true then setAll m (rolesV l x.f2) else m))) := by
    intro e
    simp only [e, Bool.false_eq_true, if_false]
    exact hno
   refine Ev.succ ?_
   simp only [Zi.l0, h1, h2, if_true, Wu hx, WM, Option.bind_some, h3]
   by_cases c0 : x.f0 = 1
   ·by_cases c1 : x.f1 = p
    ·cases c2 : holdsB x t g with
     | false => simp only [if_pos c0, if_pos c1, Bool.false_eq_true, if_false]; exact jno (by simp [givesP, c2])
     | true =>
      have e : givesP p t g x = true := by simp [givesP, c0, c1, c2]
      simp only [if_pos c0, if_pos c1, if_true, e]
      refine Ev.bind (W0 l x.f2 hl) ?_
      exact under _ (rolesV_role l x.f2) hl6 i _ _ 0 m hm rfl (by omega) (by rw [List.drop_zero, h3]; exact hyes)
    ·simp only [if_pos c0, if_neg c1]; exact jno (by simp [givesP, c1])
   ·simp only [if_neg c0]; exact jno (by simp [givesP, c0])
 have hk := key s.length 0 (List.replicate 6 false) (by simp) (by omega) (by omega)
 rw [List.drop_zero] at hk
 have hml : (marksV l p t g s (List.replicate 6 false)).length = 6 := by rw [marksV_len]; simp
 refine ⟨outV (marksV l p t g s (List.replicate 6 false)), ?_, ?_, fun r => ?_⟩
 ·unfold Zi.f
  exact hk
 ·exact Nat.le_trans (List.length_filter_le _ _) (by simp)
 ·cases c : roleB r with
  | true =>
   rw [has_out _ r c, marksV_mk l p t g r c s _ (by simp)]
   have : mkR (List.replicate 6 false) r = false := by
    have := roleB_iff.1 c
    rcases (by omega : r = 0 ∨ r = 1 ∨ r = 2 ∨ r = 3 ∨ r = 4 ∨ r = 5) with rfl | rfl | rfl | rfl | rfl | rfl <;> rfl
   rw [this, Bool.false_or]
  | false =>
   rw [hasRB_role l s p r t g c, Bool.eq_false_iff]
   intro hc
   have h1 := (any_hasI _ _).1 hc
   unfold outV at h1
   have h2 := (List.mem_filter.1 h1).1
   rw [Bool.eq_false_iff] at c
   apply c
   rw [roleB_iff]
   simp at h2
   omega
theorem VC (l : List Int) (a : Int) (h : l.length ≤ 1048576) : Ev (fun k => Yo.f k l a) (hasI l a) := by
 unfold Yo.f hasI
 rw [← idxV_any]
 refine ev_idx l (fun x => decide (a = x)) (fun r => decide (r ≥ 0)) (fun k i => Yo.l0 k l a i) ?_ ?_
 ·refine Ev.succ ?_
  simp only [Yo.l0, Int.lt_irrefl, if_false]
  exact Ev.now _
 ·intro i x hx
  have hi := lt_of_get hx
  have h1 : ((i : Int) < (l.length : Int)) = True := eq_true (by omega)
  have h2 : (0 ≤ (i : Int)) = True := eq_true (by omega)
  constructor
  ·intro c r hr
   have c' : ¬ x = a := fun e => of_decide_eq_false c e.symm
   refine Ev.succ ?_
   simp only [Yo.l0, h1, h2, if_true, rd_nat l i x hx, wr1 hi (by omega), if_neg c']
   exact hr
  ·intro c
   have c' : x = a := (of_decide_eq_true c).symm
   refine Ev.succ ?_
   simp only [Yo.l0, h1, h2, if_true, rd_nat l i x hx, if_pos c', show decide ((i : Int) ≥ 0) = true from decide_eq_true (by omega)]
   exact Ev.now _
theorem UY (l : List S109) (s : List S100) (p r t g : Int) (hl : l.length ≤ 1048576) (h : s.length ≤ 1048576) : Ev (fun k => XY.f k l s p r t g) (hasRB l s p r t g) := by
 obtain ⟨v, hE, hv, hh⟩ := UX l s p t g hl h
 unfold XY.f
 refine Ev.bind hE ?_
 rw [← hh r]
 exact Ev.bid (VC v r (by omega))
def findP (a b c t g : Int) (x : S100) : Bool := decide (x.f0 = a) && (decide (x.f1 = b) && (decide (x.f2 = c) && holdsB x t g))
theorem Uy (l : List S100) (a b c t g : Int) (h : l.length ≤ 1048576) : Ev (fun k => ZU.f k l a b c t g) (idxV (findP a b c t g) l 0) := by
 unfold ZU.f
 refine ev_idx l (findP a b c t g) id (fun k i => ZU.l0 k l a b c t g i) ?_ ?_
 ·refine Ev.succ ?_
  simp only [ZU.l0, Int.lt_irrefl, if_false]
  exact Ev.now _
 ·intro i x hx
  have hi := lt_of_get hx
  have h1 : ((i : Int) < (l.length : Int)) = True := eq_true (by omega)
  have h2 : (0 ≤ (i : Int)) = True := eq_true (by omega)
  have h3 := wr1 hi (show l.length ≤ 9223372036854775807 by omega)
  refine ⟨fun hp r hr => ?_, fun hp => ?_⟩
  ·refine Ev.succ ?_
   simp only [ZU.l0, h1, h2, if_true, Wu hx, h3, WM, Option.bind_some]
   unfold findP at hp
   by_cases c0 : x.f0 = a
   ·by_cases c1 : x.f1 = b
    ·by_cases c2 : x.f2 = c
     ·have hq : holdsB x t g = false := by simpa [c0, c1, c2] using hp
      simp only [if_pos c0, if_pos c1, if_pos c2, hq, Bool.false_eq_true, if_false]; exact hr
     ·simp only [if_pos c0, if_pos c1, if_neg c2]; exact hr
    ·simp only [if_pos c0, if_neg c1]; exact hr
   ·simp only [if_neg c0]; exact hr
  ·refine Ev.succ ?_
   simp only [findP, Bool.and_eq_true, decide_eq_true_eq] at hp
   simp only [ZU.l0, h1, h2, if_true, Wu hx, WM, Option.bind_some, if_pos hp.1, if_pos hp.2.1, if_pos hp.2.2.1, hp.2.2.2]
   exact Ev.now _
theorem W8 (l : List S100) (a b t g : Int) (h : l.length ≤ 1048576) : Ev (fun k => ZJ.f k l a b t g) (bestV a b t g l (-1)) := by
 have key : ∀ (d i : Nat) (m : Int), l.length - i = d → i ≤ l.length → Ev (fun k => ZJ.l0 k l a b t g m (i : Int)) (bestV a b t g (l.drop i) m) := by
  intro d
  induction d with
  | zero =>
   intro i m hd hi
   obtain rfl : i = l.length := by omega
   refine Ev.succ ?_
   simp only [ZJ.l0, Int.lt_irrefl, if_false, List.drop_length, bestV]
   exact Ev.now _
  | succ d ih =>
   intro i m hd hi
   have hi' : i < l.length := by omega
   have hx : l[i]? = some l[i] := List.getElem?_eq_getElem hi'
   rw [List.drop_eq_getElem_cons hi', bestV]
   generalize l[i] = x at hx ⊢
   have h1 : ((i : Int) < (l.length : Int)) = True := eq_true (by omega)
   have h2 : (0 ≤ (i : Int)) = True := eq_true (by omega)
   have hr := fun m => ih (i + 1) m (by omega) (by omega)
   have h3 := wr1 hi' (show l.length ≤ 9223372036854775807 by omega)
   refine Ev.succ ?_
   simp only [ZJ.l0, h1, h2, if_true, Wu hx, h3, WM, W6, Option.bind_some]
   by_cases c0 : x.f0 = a
   ·by_cases c1 : x.f1 = b
    ·cases c2 : holdsB x t g with
     | false =>
      have e : bestP a b t g x = false := by simp [bestP, c2]
      simp only [if_pos c0, if_pos c1, e, Bool.false_eq_true, if_false]; exact hr m
     | true =>
      have e : bestP a b t g x = true := by simp [bestP, c0, c1, c2]
      simp only [if_pos c0, if_pos c1, e, if_true]; exact hr _
    ·have e : bestP a b t g x = false := by simp [bestP, c1]
     simp only [if_pos c0, if_neg c1, e, Bool.false_eq_true, if_false]; exact hr m
   ·have e : bestP a b t g x = false := by simp [bestP, c0]
    simp only [if_neg c0, e, Bool.false_eq_true, if_false]; exact hr m
 unfold ZJ.f
 exact Ev.eqv (by rw [List.drop_zero]) (key l.length 0 (-1) (by omega) (by omega))
def leafB (l : List S109) (s : List S100) (q : S38) (o a g : Int) : Bool := if o = 1 then true else if o = 2 then hasRB l s q.f0 a q.f5 g else if o = 3 then decide (idxV (findP 2 q.f0 q.f1 q.f5 g) s 0 ≥ 0) else if o = 4 then decide (bestV 3 q.f1 q.f5 g s (-1) ≥ a) else if o = 5 then decide (bestV 4 q.f2 q.f5 g s (-1) ≥ a) else if o = 6 then decide (q.f5 ≤ a) else false
theorem idxV_ge {α : Type} (p : α → Bool) : ∀ (l : List α) (i : Int), 0 ≤ i → (idxV p l i = -1 ∨ 0 ≤ idxV p l i)
 | [], _, _ => .inl rfl
 | x :: xs, i, h => by
  rw [idxV]
  split
  ·exact .inr h
  ·exact idxV_ge p xs (i + 1) (by omega)
theorem idxV_ne {α : Type} (p : α → Bool) (l : List α) : (!decide (idxV p l 0 = -1)) = decide (idxV p l 0 ≥ 0) := by
 rcases idxV_ge p l 0 (by omega) with h | h
 ·rw [h]; rfl
 ·rw [decide_eq_true h]; simp; omega
theorem Uh (l : List S109) (s : List S100) (q : S38) (o a g : Int) (u : List S114) (hl : l.length ≤ 1048576) (h : s.length ≤ 1048576) : Ev (fun k => Xk.f k l s o a g u q.f0 q.f1 q.f2 q.f3 q.f4 q.f5) (leafB l s q o a g) := by
 unfold Xk.f leafB
 by_cases c1 : o = 1
 ·simp only [if_pos c1]; exact Ev.now _
 by_cases c2 : o = 2
 ·simp only [if_neg c1, if_pos c2]; exact Ev.bid (UY l s q.f0 a q.f5 g hl h)
 by_cases c3 : o = 3
 ·simp only [if_neg c1, if_neg c2, if_pos c3]
  ·refine Ev.bind (Uy s 2 q.f0 q.f1 q.f5 g h) ?_
   exact Ev.now _
 by_cases c4 : o = 4
 ·simp only [if_neg c1, if_neg c2, if_neg c3, if_pos c4]
  exact Ev.bind (W8 s 3 q.f1 q.f5 g h) (Ev.now _)
 by_cases c5 : o = 5
 ·simp only [if_neg c1, if_neg c2, if_neg c3, if_neg c4, if_pos c5]
  exact Ev.bind (W8 s 4 q.f2 q.f5 g h) (Ev.now _)
 by_cases c6 : o = 6
 ·simp only [if_neg c1, if_neg c2, if_neg c3, if_neg c4, if_neg c5, if_pos c6]; exact Ev.now _
 ·simp only [if_neg c1, if_neg c2, if_neg c3, if_neg c4, if_neg c5, if_neg c6]; exact Ev.now _
mutual
def evC (lf : Int → Int → Int → Bool) : S114 → Bool
 | ⟨a, b, c, l⟩ => if a = 7 then !(evL lf l).getD 0 false else if a = 8 then (evL lf l).getD 0 false && (evL lf l).getD 1 false else if a = 9 then (evL lf l).getD 0 false || (evL lf l).getD 1 false else lf a b c
def evL (lf : Int → Int → Int → Bool) : List S114 → List Bool
 | [] => []
 | x :: l => evC lf x :: evL lf l
end
theorem evL_eq (lf : Int → Int → Int → Bool) : ∀ l : List S114, evL lf l = l.map (evC lf)
 | [] => by simp [evL]
 | x :: l => by simp [evL, evL_eq lf l]
theorem evC_f (lf : Int → Int → Int → Bool) (x : S114) : evC lf x = if x.f0 = 7 then !(x.f3.map (evC lf)).getD 0 false else if x.f0 = 8 then (x.f3.map (evC lf)).getD 0 false && (x.f3.map (evC lf)).getD 1 false else if x.f0 = 9 then (x.f3.map (evC lf)).getD 0 false || (x.f3.map (evC lf)).getD 1 false else lf x.f0 x.f1 x.f2 := by
 cases x
 simp only [evC, evL_eq]
theorem node_args {a b c : Int} {l : List S114} (h : YW.f a b c l = some true) : (a = 7 → (l.length : Int) = 1) ∧ (a = 8 ∨ a = 9 → (l.length : Int) = 2) := by
 have ha : ∀ m, ZS.f a = some m → (l.length : Int) = m := by
  intro m hm
  refine Classical.byContradiction fun hc => ?_
  revert h
  unfold YW.f
  simp only [Wq, Wt, hm, Option.bind_some, if_neg hc]
  (repeat' split) <;> simp_all
 refine ⟨?_, ?_⟩
 ·rintro rfl; exact ha 1 rfl
 ·rintro (rfl | rfl)
  ·exact ha 2 rfl
  ·exact ha 2 rfl
theorem getD_map {f : S114 → Bool} {l : List S114} {i : Nat} {y : S114} (h : l[i]? = some y) : (l.map f).getD i false = f y := by
 rw [List.getD_eq_getElem?_getD, List.getElem?_map, h]; rfl
theorem vld_parts {x : S114} (hv : vldC x = true) : (x.f0 = 7 ∨ x.f0 = 8 ∨ x.f0 = 9 → ∃ y, x.f3[0]? = some y ∧ ZR x.f3 0 = y ∧ (0 < (x.f3.length : Int)) = True ∧ vldC y = true ∧ n114 y < n114 x) ∧ (x.f0 = 8 ∨ x.f0 = 9 → ∃ y, x.f3[1]? = some y ∧ ZR x.f3 1 = y ∧ (1 < (x.f3.length : Int)) = True ∧ vldC y = true ∧ n114 y < n114 x) := by
 rw [vldC_f, Bool.and_eq_true] at hv
 obtain ⟨t, ht⟩ := node_some x.f0 x.f1 x.f2 x.f3
 rw [ht, Option.getD_some] at hv
 obtain ⟨rfl, hc⟩ := hv
 have hargs := node_args ht
 have child : ∀ (i : Nat) (y : S114), x.f3[i]? = some y → vldC y = true ∧ n114 y < n114 x := fun i y hy => by
  have hn := le_sum n114 hy
  have hp := lt_of_get hy
  exact ⟨List.all_eq_true.1 hc y (List.mem_of_getElem? hy), by rw [n114_f x]; omega⟩
 constructor
 ·intro h
  have : 1 ≤ x.f3.length := by
   rcases h with h | h | h
   ·have := hargs.1 h; omega
   ·have := hargs.2 (.inl h); omega
   ·have := hargs.2 (.inr h); omega
  obtain ⟨y, hy⟩ := getAt (l := x.f3) (i := 0) (by omega)
  exact ⟨y, hy, Wz hy, eq_true (by omega), child 0 y hy⟩
 ·intro h
  have := hargs.2 h
  obtain ⟨y, hy⟩ := getAt (l := x.f3) (i := 1) (by omega)
  exact ⟨y, hy, Wz hy, eq_true (by omega), child 1 y hy⟩
def evalB (l : List S109) (s : List S100) (q : S38) (x : S114) : Bool := condB x && evC (leafB l s q) x
theorem UZ (l : List S109) (s : List S100) (q : S38) (hl : l.length ≤ 1048576) (hs : s.length ≤ 1048576) (N : Nat) : ∀ x : S114, n114 x ≤ N → vldC x = true → Ev (fun k => YF.f k l s x.f0 x.f1 x.f2 x.f3 q.f0 q.f1 q.f2 q.f3 q.f4 q.f5) (evC (leafB l s q) x) := by
 induction N using Nat.strongRecOn with
 | _ N ih =>
 intro x hx hv
 obtain ⟨two, three⟩ := vld_parts hv
 rw [evC_f]
 refine Ev.succ ?_
 by_cases c7 : x.f0 = 7
 ·obtain ⟨y, hy, ry, p0, hvy, hn⟩ := two (.inl c7)
  simp only [YF.f, if_pos c7, p0, if_true, ry]
  refine Ev.bind (ih _ (by omega) y (Nat.le_refl _) hvy) ?_
  rw [getD_map hy]
  exact Ev.now _
 by_cases c8 : x.f0 = 8
 ·obtain ⟨y, hy, ry, p0, hvy, hn⟩ := two (.inr (.inl c8))
  obtain ⟨z, hz, rz, p1, hvz, hn2⟩ := three (.inl c8)
  simp only [YF.f, if_neg c7, if_pos c8, p0, p1, if_true, ry, rz]
  rw [getD_map hy, getD_map hz]
  refine Ev.bind (ih _ (by omega) y (Nat.le_refl _) hvy) ?_
  cases evC (leafB l s q) y with
  | false => exact Ev.now _
  | true => simp only [if_true, Bool.true_and]; exact Ev.bid (ih _ (by omega) z (Nat.le_refl _) hvz)
 by_cases c9 : x.f0 = 9
 ·obtain ⟨y, hy, ry, p0, hvy, hn⟩ := two (.inr (.inr c9))
  obtain ⟨z, hz, rz, p1, hvz, hn2⟩ := three (.inr c9)
  simp only [YF.f, if_neg c7, if_neg c8, if_pos c9, p0, p1, if_true, ry, rz]
  rw [getD_map hy, getD_map hz]
  refine Ev.bind (ih _ (by omega) y (Nat.le_refl _) hvy) ?_
  cases evC (leafB l s q) y with
  | true => exact Ev.now _
  | false => simp only [Bool.false_eq_true, if_false, Bool.false_or]; exact Ev.bid (ih _ (by omega) z (Nat.le_refl _) hvz)
 simp only [YF.f, if_neg c7, if_neg c8, if_neg c9]
 exact Ev.bid ((Uh l s q x.f0 x.f1 x.f2 x.f3 hl hs))
theorem Uz (l : List S109) (s : List S100) (q : S38) (x : S114) (hl : l.length ≤ 1048576) (hs : s.length ≤ 1048576) (hx : n114 x ≤ 1048576) : Ev (fun k => Xx.f k l s x.f0 x.f1 x.f2 x.f3 q.f0 q.f1 q.f2 q.f3 q.f4 q.f5) (evalB l s q x) := by
 unfold Xx.f evalB
 refine Ev.bind (VB x hx) ?_
 cases c : condB x with
 | false => exact Ev.now _
 | true =>
  have hv : vldC x = true := by
   unfold condB at c
   rw [Bool.and_eq_true] at c
   exact c.2
  exact Ev.pos rfl (Ev.bid (UZ l s q hl hs _ x (Nat.le_refl _) hv))
def polB (v : Int) (P : List S116) : Bool := policyB ⟨v, P⟩
def nPol (P : List S116) : Nat := P.length + (P.map n116).sum
def thatV (p : S116 → Bool) : List S116 → Int → List Int
 | [], _ => []
 | x :: P, i => if p x = true then i :: thatV p P (i + 1) else thatV p P (i + 1)
theorem thatV_len (p : S116 → Bool) : ∀ (P : List S116) (i : Int), (thatV p P i).length ≤ P.length
 | [], _ => by simp [thatV]
 | x :: P, i => by
  have := thatV_len p P (i + 1)
  rw [thatV, List.length_cons]
  split
  ·rw [List.length_cons]; omega
  ·omega
theorem thatV_in (p : S116 → Bool) : ∀ (P : List S116) (i : Int), ∀ y ∈ thatV p P i, i ≤ y ∧ y < i + (P.length : Int)
 | [], _ => by simp [thatV]
 | x :: P, i => by
  have ih := thatV_in p P (i + 1)
  intro y hy
  rw [List.length_cons]
  rw [thatV] at hy
  split at hy
  ·rcases List.mem_cons.1 hy with rfl | hy
   ·omega
   ·have := ih y hy; omega
  ·have := ih y hy; omega
def rhoB (l : List S109) (s : List S100) (q : S38) (x : S116) : Bool := forB x q.f3 q.f4 && evalB l s q x.f3
def decE : List Int → Int → Int
 | [], a => a
 | e :: r, a => if e = 0 then 0 else if e = 1 then decE r 1 else decE r a
def decV (l : List S109) (s : List S100) (v : Int) (P : List S116) (q : S38) : Int := if reqB q.f0 q.f1 q.f2 q.f3 q.f4 q.f5 = true then if polB v P = true then decE ((thatV (rhoB l s q) P 0).map fun i => (Zt P i).f0) 0 else 0 else 0
theorem decE_all : ∀ (es : List Int) (a : Int), (∀ e ∈ es, e = 0 ∨ e = 1) → decE es a = if es.any (fun e => decide (e = 0)) = true then 0 else if es.length = 0 then a else 1
 | [], a, _ => by simp [decE]
 | e :: r, a, h => by
  have hr := fun b => decE_all r b (fun x hx => h x (List.mem_cons_of_mem _ hx))
  rcases h e List.mem_cons_self with rfl | rfl
  ·simp [decE]
  ·have e1 : decE (1 :: r) a = decE r 1 := by simp [decE]
   rw [e1, hr, List.any_cons]
   by_cases hz : r.any (fun e => decide (e = 0)) = true
   ·simp [hz]
   ·simp [hz]
theorem Vq (l : List S109) (s : List S100) (q : S38) (n0 : Int) (P : List S116) (hl : l.length ≤ 1048576) (hs : s.length ≤ 1048576) (hP : nPol P ≤ 1048576) : Ev (fun k => Zq.f k l s n0 P q.f0 q.f1 q.f2 q.f3 q.f4 q.f5) (thatV (rhoB l s q) P 0) := by
 unfold nPol at hP
 have key : ∀ (d i : Nat) (out : List Int), P.length - i = d → i ≤ P.length → out.length ≤ i → Ev (fun k => Zq.l0 k l s n0 P q.f0 q.f1 q.f2 q.f3 q.f4 q.f5 out (i : Int)) (out ++ thatV (rhoB l s q) (P.drop i) (i : Int)) := by
  intro d
  induction d with
  | zero =>
   intro i out hd hi ho
   obtain rfl : i = P.length := by omega
   refine Ev.succ ?_
   simp only [Zq.l0, Int.lt_irrefl, if_false, List.drop_length, thatV, List.append_nil]
   exact Ev.now _
  | succ d ih =>
   intro i out hd hi ho
   have hi' : i < P.length := by omega
   have hx : P[i]? = some P[i] := List.getElem?_eq_getElem hi'
   rw [List.drop_eq_getElem_cons hi', thatV]
   generalize P[i] = x at hx ⊢
   have hn := le_sum n116 hx
   have hn2 := rule_n x
   have h1 : ((i : Int) < (P.length : Int)) = True := eq_true (by omega)
   have h2 : (0 ≤ (i : Int)) = True := eq_true (by omega)
   have e1 := Uz l s q x.f3 hl hs (by omega)
   have v1 := ih (i + 1) out (by omega) (by omega) (by omega)
   have v2 := ih (i + 1) (out ++ [(i : Int)]) (by omega) (by omega) (by rw [List.length_append, List.length_singleton]; omega)
   have hol : (out.length < 17592186044416) = True := eq_true (by omega)
   have h3 := wr1 hi' (show P.length ≤ 9223372036854775807 by omega)
   have h4 : (i : Int) + 1 = ((i + 1 : Nat) : Int) := by omega
   rw [h4, show rhoB l s q x = (forB x q.f3 q.f4 && evalB l s q x.f3) from rfl]
   refine Ev.succ ?_
   simp only [Zq.l0, h1, h2, if_true, WC hx, Tq, Option.bind_some, h3]
   cases c : forB x q.f3 q.f4 with
   | false =>
    simp only [Bool.false_eq_true, if_false, Bool.false_and]
    exact v1
   | true =>
    simp only [if_true, Bool.true_and]
    refine Ev.bind e1 ?_
    cases evalB l s q x.f3 with
    | true =>
     simp only [if_true, hol]
     exact Ev.eqv (by rw [List.append_assoc]; rfl) v2
    | false => simp only [Bool.false_eq_true, if_false]; exact v1
 unfold Zq.f
 exact Ev.eqv (by rw [List.drop_zero, List.nil_append]; rfl) (key P.length 0 [] (by omega) (by omega) (by simp))
theorem WK (l : List S109) (s : List S100) (v : Int) (P : List S116) (q : S38) (hl : l.length ≤ 1048576) (hs : s.length ≤ 1048576) (hp : nPol P ≤ 1048576) : Ev (fun k => ZV.f k l s v P q.f0 q.f1 q.f2 q.f3 q.f4 q.f5) (decV l s v P q) := by
 unfold ZV.f decV
 simp only [WH, Option.bind_some]
 cases c : reqB q.f0 q.f1 q.f2 q.f3 q.f4 q.f5 with
 | false => simp only [Bool.false_eq_true, if_false]; exact Ev.now _
 | true =>
  simp only [if_true]
  refine Ev.bind (WQ ⟨v, P⟩ (by unfold n27; unfold nPol at hp; exact hp)) ?_
  unfold polB
  cases c2 : policyB ⟨v, P⟩ with
  | false => simp only [Bool.false_eq_true, if_false]; exact Ev.now _
  | true =>
   simp only [if_true]
   have hr : P.all ruleB = true := by
    have h := c2
    unfold policyB at h
    rw [Bool.and_eq_true, Bool.and_eq_true] at h
    exact h.2.2
   have hlen : P.length ≤ 1048576 := by unfold nPol at hp; omega
   have hL := thatV_len (rhoB l s q) P 0
   have hy := thatV_in (rhoB l s q) P 0
   refine Ev.bind (Vq l s q v P hl hs hp) ?_
   generalize thatV (rhoB l s q) P 0 = L at hL hy ⊢
   have eff : ∀ y ∈ L, (Zt P y).f0 = 0 ∨ (Zt P y).f0 = 1 := by
    intro y hm
    have hb := hy y hm
    obtain ⟨x, hx⟩ := getAt (l := P) (i := y.toNat) (by omega)
    have rx := WC hx
    rw [show ((y.toNat : Nat) : Int) = y by omega] at rx
    have hrx := List.all_eq_true.1 hr x (List.mem_of_getElem? hx)
    unfold ruleB at hrx
    rw [Bool.and_eq_true] at hrx
    have h0 := inB_iff.1 hrx.1
    rw [rx]; omega
   rw [decE_all _ 0 (fun e he => by
    obtain ⟨y, hm, rfl⟩ := List.mem_map.1 he
    exact eff y hm)]
   rw [List.any_map, List.length_map]
   have key : ∀ (d i : Nat), L.length - i = d → i ≤ L.length → Ev (fun k => ZV.l0 k v P L (i : Int)) (if (L.drop i).any ((fun e => decide (e = 0)) ∘ fun i => (Zt P i).f0) = true then 0 else if L.length = 0 then 0 else 1) := by
    intro d
    induction d with
    | zero =>
     intro i hd hi
     obtain rfl : i = L.length := by omega
     refine Ev.succ ?_
     simp only [ZV.l0, Int.lt_irrefl, if_false, List.drop_length, List.any_nil, Bool.false_eq_true]
     by_cases c3 : L.length = 0
     ·simp only [if_pos c3, if_pos (show (L.length : Int) = 0 by omega)]; exact Ev.now _
     ·simp only [if_neg c3, if_neg (show ¬ (L.length : Int) = 0 by omega)]; exact Ev.now _
    | succ d ih =>
     intro i hd hi
     have hi' : i < L.length := by omega
     have hx : L[i]? = some L[i] := List.getElem?_eq_getElem hi'
     have hb := hy _ (List.getElem_mem hi')
     rw [List.drop_eq_getElem_cons hi', List.any_cons]
     generalize L[i] = y at hx hb ⊢
     have h1 : ((i : Int) < (L.length : Int)) = True := eq_true (by omega)
     have h2 : (0 ≤ (i : Int)) = True := eq_true (by omega)
     have h3 : (0 ≤ y) = True := eq_true (by omega)
     have h4 : (y < (P.length : Int)) = True := eq_true (by omega)
     have h5 := wr1 hi' (show L.length ≤ 9223372036854775807 by omega)
     refine Ev.succ ?_
     simp only [ZV.l0, h1, h2, h3, h4, if_true, rd_nat _ _ _ hx, h5, Function.comp]
     by_cases c0 : (Zt P y).f0 = 0
     ·simp only [if_pos c0, c0, decide_true, Bool.true_or, if_true]; exact Ev.now _
     ·simp only [if_neg c0, decide_eq_false c0, Bool.false_or]
      exact ih (i + 1) (by omega) (by omega)
   exact Ev.eqv (by rw [List.drop_zero]) (key L.length 0 (by omega) (by omega))
def atT (q : S38) (t : Int) : S38 := ⟨q.f0, q.f1, q.f2, q.f3, q.f4, t⟩
def staysB (p : S34) (y : S62) : Nat → Int → Bool
 | 0, _ => true
 | n + 1, t => decide (decV p.f1.f2 p.f2 p.f1.f3.f0 p.f1.f3.f1 (atT y.f0 t) = y.f1) && staysB p y n (t + 1)
def trueB (p : S34) (y : S62) : Bool := reqB y.f0.f0 y.f0.f1 y.f0.f2 y.f0.f3 y.f0.f4 y.f0.f5 && (!decide (y.f0.f5 < p.f4) && (inB y.f2 y.f0.f5 (y.f0.f5 + 10) && staysB p y (y.f2 + 1 - y.f0.f5).toNat y.f0.f5))
def untilL (l : List S109) (s : List S100) (v : Int) (P : List S116) (q : S38) (e : Int) : Nat → Int → Int
 | 0, t => t
 | n + 1, t => if t < e ∧ t < 10000 then (if decV l s v P (atT q (t + 1)) = decV l s v P q then untilL l s v P q e n (t + 1) else t) else t
def untilV (l : List S109) (s : List S100) (v : Int) (P : List S116) (q : S38) (m : Int) : Int := if reqB q.f0 q.f1 q.f2 q.f3 q.f4 q.f5 = true then if policyB ⟨v, P⟩ = true then if inB m 0 60 = true then untilL l s v P q (q.f5 + m) 60 q.f5 else q.f5 else q.f5 else q.f5
def saveV (l : List S109) (s : List S100) (v : Int) (P : List S116) (q : S38) (m : Int) : S62 := ⟨q, decV l s v P q, untilV l s v P q m⟩
theorem Vr (l : List S109) (s : List S100) (v : Int) (P : List S116) (q : S38) (most : Int) (hl : l.length ≤ 1048576) (hs : s.length ≤ 1048576) (hp : nPol P ≤ 1048576) : Ev (fun k => ZG.f k l s v P q.f0 q.f1 q.f2 q.f3 q.f4 q.f5 most) (untilV l s v P q most) := by
 unfold ZG.f untilV
 simp only [WH, Option.bind_some]
 cases c : reqB q.f0 q.f1 q.f2 q.f3 q.f4 q.f5 with
 | false => simp only [Bool.false_eq_true, if_false]; exact Ev.now _
 | true =>
  have ht : 0 ≤ q.f5 ∧ q.f5 ≤ 10000 := by
   unfold reqB at c
   simp only [Bool.and_eq_true] at c
   exact timeAt c.2.2.2.2.2
  simp only [if_true]
  refine Ev.bind (WQ ⟨v, P⟩ (by unfold n27; unfold nPol at hp; exact hp)) ?_
  cases c2 : policyB ⟨v, P⟩ with
  | false => simp only [Bool.false_eq_true, if_false]; exact Ev.now _
  | true =>
   simp only [if_true, Wq, Option.bind_some]
   cases c3 : inB most 0 60 with
   | false => simp only [Bool.false_eq_true, if_false]; exact Ev.now _
   | true =>
    have hm := inB_iff.1 c3
    have hw : wrap64 (q.f5 + most) = q.f5 + most := wr (by omega) (by omega)
    simp only [if_true]
    refine Ev.bind (WK l s v P q hl hs hp) ?_
    have key : ∀ (n : Nat) (t : Int), q.f5 + most - t ≤ (n : Int) → 0 ≤ t → t ≤ 10000 → Ev (fun k => ZG.l0 k l s most v P q.f0 q.f1 q.f2 q.f3 q.f4 q.f5 (decV l s v P q) t) (untilL l s v P q (q.f5 + most) n t) := by
     intro n
     induction n with
     | zero =>
      intro t hd h0 h1
      refine Ev.succ ?_
      simp only [ZG.l0, hw, untilL]
      exact Ev.ite (fun _ => Ev.neg (by omega) (Ev.now _)) (fun _ => Ev.now _)
     | succ n ih =>
      intro t hd h0 h1
      refine Ev.succ ?_
      unfold untilL
      by_cases c4 : t < q.f5 + most ∧ t < 10000
      ·have hw2 : wrap64 (t + 1) = t + 1 := wr (by omega) (by omega)
       rw [if_pos c4]
       simp only [ZG.l0, hw, Y5.f, Option.bind_some, hw2]
       refine Ev.pos (by omega) (Ev.pos (by omega) ?_)
       refine Ev.bind (WK l s v P (atT q (t + 1)) hl hs hp) ?_
       by_cases c5 : decV l s v P (atT q (t + 1)) = decV l s v P q
       ·rw [if_pos c5]; exact Ev.pos c5 (ih (t + 1) (by omega) (by omega) (by omega))
       ·rw [if_neg c5]; exact Ev.neg c5 (Ev.now _)
      ·rw [if_neg c4]
       simp only [ZG.l0, hw]
       exact Ev.ite (fun _ => Ev.neg (by omega) (Ev.now _)) (fun _ => Ev.now _)
    exact key 60 q.f5 (by omega) ht.1 ht.2
theorem VD (l : List S109) (s : List S100) (v : Int) (P : List S116) (q : S38) (most : Int) (hl : l.length ≤ 1048576) (hs : s.length ≤ 1048576) (hp : nPol P ≤ 1048576) : Ev (fun k => YA.f k l s v P q.f0 q.f1 q.f2 q.f3 q.f4 q.f5 most) (q.f0, q.f1, q.f2, q.f3, q.f4, q.f5, (saveV l s v P q most).f1, (saveV l s v P q most).f2) := by
 unfold YA.f
 exact Ev.bind (WK l s v P q hl hs hp) (Ev.bind (Vr l s v P q most hl hs hp) (Ev.now _))
def putStep (x : S62) (s : List S62) (y : S62) : List S62 := if sameQ y.f0 x.f0 = true then s else s ++ [y]
def putEnd (x : S62) (s : List S62) : List S62 := if ((s ++ [x]).length : Int) > 8 then (s ++ [x]).drop 1 else s ++ [x]
def putV (l : List S62) (x : S62) : List S62 := putEnd x (l.foldl (putStep x) [])
theorem putStep_length (x : S62) (s : List S62) (y : S62) : (putStep x s y).length ≤ s.length + 1 := by
 unfold putStep
 split
 ·omega
 ·rw [List.length_append, List.length_singleton]; exact Nat.le_refl _
theorem putV_from (x : S62) : ∀ (l s : List S62), (l.foldl (putStep x) s).length ≤ s.length + l.length
 | [], s => by simp
 | y :: l, s => by
  have h1 := putV_from x l (putStep x s y)
  have h2 := putStep_length x s y
  simp only [List.foldl_cons, List.length_cons]
  omega
theorem putV_length (l : List S62) (x : S62) : (putV l x).length ≤ l.length ∨ (putV l x).length ≤ 8 := by
 have := putV_from x l []
 rw [List.length_nil] at this
 unfold putV putEnd
 split
 ·left; simp only [List.length_drop, List.length_append, List.length_singleton]; omega
 ·right; rename_i c; omega
theorem putV_len8 (l : List S62) (x : S62) (h : l.length ≤ 8) : (putV l x).length ≤ 8 := by
 rcases putV_length l x with q | q <;> omega
theorem putV_last (l : List S62) (x : S62) : ∃ s, putV l x = s ++ [x] := by
 unfold putV putEnd
 generalize l.foldl (putStep x) [] = s
 split
 ·rename_i c
  cases s with
  | nil => simp at c
  | cons y s => exact ⟨s, rfl⟩
 ·exact ⟨s, rfl⟩
theorem UA (l : List S62) (x : S62) (h : l.length ≤ 1048576) : Ev (fun k => Z9.f k l x.f0.f0 x.f0.f1 x.f0.f2 x.f0.f3 x.f0.f4 x.f0.f5 x.f1 x.f2) (putV l x) := by
 unfold Z9.f putV
 refine ev_fold l (putStep x) (putEnd x) (fun i s => s.length ≤ i) (fun k s i => Z9.l0 k l x.f0.f0 x.f0.f1 x.f0.f2 x.f0.f3 x.f0.f4 x.f0.f5 x.f1 x.f2 s i) ?_ ?_ ?_ [] (by simp)
 ·intro s hs
  have h3 : (s.length < 2199023255552) = True := eq_true (by have : s.length ≤ l.length := hs; omega)
  refine Ev.succ ?_
  have e : ∀ (y : S62), (⟨⟨y.f0.f0, y.f0.f1, y.f0.f2, y.f0.f3, y.f0.f4, y.f0.f5⟩, y.f1, y.f2⟩ : S62) = y := fun _ => rfl
  simp only [Z9.l0, Int.lt_irrefl, if_false, h3, if_true, Option.bind_some, putEnd, e]
  by_cases c : ((s ++ [x]).length : Int) > 8
  ·have c1 : 1 ≤ ((s ++ [x]).length : Int) := by omega
   simp only [if_pos c, if_pos c1]
   exact Ev.now _
  ·simp only [if_neg c]
   exact Ev.now _
 ·intro i y s hx hs
  have := putStep_length x s y
  show (putStep x s y).length ≤ i + 1
  omega
 ·intro i y s r hx hs hr
  have hi := lt_of_get hx
  have hs' : s.length ≤ i := hs
  have h1 : ((i : Int) < (l.length : Int)) = True := eq_true (by omega)
  have h2 : (0 ≤ (i : Int)) = True := eq_true (by omega)
  have h3 : (s.length < 2199023255552) = True := eq_true (by omega)
  refine Ev.succ ?_
  simp only [Z9.l0, h1, h2, h3, if_true, WB hx, wr1 hi (by omega), WJ y.f0 x.f0, Option.bind_some]
  unfold putStep at hr
  by_cases c : sameQ y.f0 x.f0 = true
  ·simp only [if_pos c] at hr ⊢; exact hr
  ·simp only [if_neg c] at hr ⊢; exact hr
def askG (s : Int) (x : S36) (q : S38) : Bool := reqB q.f0 q.f1 q.f2 q.f3 q.f4 q.f5 && (chkB s x q.f5 && decide (x.f1 = q.f1))
def ptSave (p : S34) (q : S38) : S62 := saveV p.f1.f2 p.f2 p.f1.f3.f0 p.f1.f3.f1 q 10
def askV (p : S34) (s : Int) (x : S36) (q : S38) : S34 × Int :=
 if askG s x q = true then if freshV p.f4 q.f5 10 = true then if inB (revAt p.f3 x.f0) 0 q.f5 = true then (p, 3) else if idxV (savedP q) p.f5 0 ≥ 0 then (p, (ZB p.f5 (idxV (savedP q) p.f5 0)).f1) else (⟨p.f0, p.f1, p.f2, p.f3, p.f4, putV p.f5 (ptSave p q)⟩, (ptSave p q).f1) else (p, 2) else (p, 4)
theorem askV_n (p : S34) (s : Int) (x : S36) (q : S38) : n34 (askV p s x q).1 ≤ n34 p + 8 := by
 unfold askV
 have h := putV_length p.f5 (ptSave p q)
 repeat' split
 all_goals first
  | exact Nat.le_add_right _ _
  | (unfold n34; simp only []; omega)
theorem ptN {p : S34} (h : n34 p ≤ 1048576) : n29 p.f1 ≤ 1048576 ∧ p.f1.f2.length ≤ 1048576 ∧ nPol p.f1.f3.f1 ≤ 1048576 ∧ p.f2.length ≤ 1048576 ∧ p.f3.length ≤ 1048576 ∧ p.f5.length ≤ 1048576 := by
 unfold n34 at h
 refine ⟨by omega, ?_, ?_, by omega, by omega, by omega⟩
 ·unfold n29 at h; omega
 ·unfold n29 n27 at h; unfold nPol; omega
theorem UB (p : S34) (s : Int) (x : S36) (q : S38) (h : n34 p ≤ 1048576) : Ev (fun k => XE.f k p.f0 p.f1.f0 p.f1.f1 p.f1.f2 p.f1.f3.f0 p.f1.f3.f1 p.f2 p.f3 p.f4 p.f5 s x.f0 x.f1 x.f2 x.f3 x.f4 x.f5 q.f0 q.f1 q.f2 q.f3 q.f4 q.f5) ((askV p s x q).1.f0, (askV p s x q).1.f1.f0, (askV p s x q).1.f1.f1, (askV p s x q).1.f1.f2, (askV p s x q).1.f1.f3.f0, (askV p s x q).1.f1.f3.f1, (askV p s x q).1.f2, (askV p s x q).1.f3, (askV p s x q).1.f4, (askV p s x q).1.f5, (askV p s x q).2) := by
 obtain ⟨h1, hl, hp, h2, h3, h5⟩ := ptN h
 unfold XE.f askV askG
 refine Ev.bind (UW p h) ?_
 simp only [WH, Option.bind_some]
 by_cases c1 : reqB q.f0 q.f1 q.f2 q.f3 q.f4 q.f5 = true
 ·simp only [if_pos c1, c1, Bool.true_and]
  refine Ev.bind (Uc s x q.f5) ?_
  by_cases c2 : chkB s x q.f5 = true
  ·simp only [if_pos c2, c2, Bool.true_and, decide_eq_true_eq]
   by_cases c3 : x.f1 = q.f1
   ·simp only [if_pos c3, Ud, Option.bind_some]
    by_cases c4 : freshV p.f4 q.f5 10 = true
    ·simp only [if_pos c4]
     refine Ev.bind (Uf p.f3 x.f0 q.f5 h3) ?_
     by_cases c5 : inB (revAt p.f3 x.f0) 0 q.f5 = true
     ·simp only [if_pos c5]; exact Ev.now _
     ·simp only [if_neg c5]
      refine Ev.bind (Ug p.f5 q h5) ?_
      by_cases c6 : idxV (savedP q) p.f5 0 ≥ 0
      ·simp only [if_pos c6]
       have := (idxV_in _ p.f5 (show ¬ idxV (savedP q) p.f5 0 < 0 by omega)).2
       exact Ev.pos (by omega) (Ev.now _)
      ·simp only [if_neg c6]
       refine Ev.bind (VD p.f1.f2 p.f2 p.f1.f3.f0 p.f1.f3.f1 q 10 hl h2 hp) ?_
       exact Ev.bind (UA p.f5 (ptSave p q) h5) (Ev.now _)
    ·simp only [if_neg c4]; exact Ev.now _
   ·simp only [if_neg c3]; exact Ev.now _
  ·simp only [if_neg c2, eq_false_of_ne_true c2, Bool.false_and, Bool.false_eq_true, if_false]; exact Ev.now _
 ·simp only [if_neg c1, eq_false_of_ne_true c1, Bool.false_and, Bool.false_eq_true, if_false]; exact Ev.now _
theorem U0 (s : List Int) (i h : Int) (h0 : 0 ≤ i) (h1 : i ≤ s.length) (hs : s.length ≤ 1048576) : Tt (fun k => YR.f k s i h) (fun r => n34 (ptOf r) ≤ 300 ∧ 0 ≤ atOf r ∧ atOf r ≤ s.length) := by
 unfold YR.f
 refine Tt.bind (UT s i h h0 h1 hs) ?_
 rintro ⟨p0, p1, p2, p3, p4, p5, p6, p7, p8, p9, c0, c1, c2, c3, c4, c5, q0, q1, q2, q3, q4, q5, i1, g1⟩ ⟨hp, i10, i11⟩
 dsimp only [atOf, ptOf] at hp i10 i11 ⊢
 obtain ⟨n, i2, g2, e2, n0, n1, i20, i21⟩ := ZN s i1 g1 i10 i11 hs 3 (by omega) (by omega)
 obtain ⟨m, rfl⟩ : ∃ m : Nat, n = (m : Int) := ⟨n.toNat, by omega⟩
 simp only [e2, Option.bind_some]
 refine Tt.down (Q := fun r => n34 (ptOf r) ≤ 300 ∧ 0 ≤ atOf r ∧ atOf r ≤ s.length) (fun k m (t : S34 × Int × Int) => YR.l0 k s t.2.1 t.2.2 0 0 0 [] 0 [] [] [] 0 [] 0 0 0 0 0 0 0 0 0 0 0 0 t.1.f0 t.1.f1.f0 t.1.f1.f1 t.1.f1.f2 t.1.f1.f3.f0 t.1.f1.f3.f1 t.1.f2 t.1.f3 t.1.f4 t.1.f5 c0 c1 c2 c3 c4 c5 q0 q1 q2 q3 q4 q5 (m : Int)) (fun m t => n34 t.1 + 8 * m ≤ 300 ∧ 0 ≤ t.2.1 ∧ t.2.1 ≤ s.length) ?_ ?_ m (⟨p0, ⟨p1, p2, p3, ⟨p4, p5⟩⟩, p6, p7, p8, p9⟩, i2, g2) ⟨by dsimp only; omega, i20, i21⟩
 ·rintro m ⟨p, i, h⟩ ⟨hp, hi, hi'⟩ ih
  dsimp only at hp hi hi' ⊢
  obtain ⟨u, i3, g3, e3, _, _, i30, i31⟩ := ZN s i h hi hi' hs 5 (by omega) (by omega)
  have hpos : (((m + 1 : Nat) : Int) > 0) = True := eq_true (by omega)
  have hw : wrap64 (((m + 1 : Nat) : Int) - 1) = (m : Int) := by rw [wr (by omega) (by omega)]; omega
  refine Tt.succ ?_
  simp only [YR.l0, hpos, if_true, hw, e3, W6, Y5.f, Option.bind_some]
  refine Tt.bind (Tt.ev (P := fun r => r = _) (UB p 77 ⟨c0, c1, c2, c3, c4, c5⟩ ⟨q0, q1, q2, q3, q4, _⟩ (by omega)) rfl) ?_
  rintro _ rfl
  exact ih ((askV p 77 ⟨c0, c1, c2, c3, c4, c5⟩ ⟨q0, q1, q2, q3, q4, _⟩).1, i3, g3) ⟨Nat.le_trans (Nat.add_le_add_right (askV_n _ _ _ _) _) (by omega), i30, i31⟩
 ·rintro ⟨p, i, h⟩ ⟨hp, hi, hi'⟩
  refine Tt.succ ?_
  dsimp only at hp hi hi' ⊢
  simp only [YR.l0]
  exact Tt.neg (by omega) (Tt.now ⟨by show n34 p ≤ 300; omega, hi, hi'⟩)
theorem U1 (s : List Int) (i h : Int) (h0 : 0 ≤ i) (h1 : i ≤ s.length) (hs : s.length ≤ 1048576) : Tt (fun k => XZ.f k s i h) (fun r => 0 ≤ r.2.2.2.2.2.2.1 ∧ r.2.2.2.2.2.2.1 ≤ s.length) := by
 obtain ⟨b1, i1, g1, e1, _, _, i10, i11⟩ := ZN s i h h0 h1 hs 9 (by omega) (by omega)
 obtain ⟨b2, i2, g2, e2, _, _, i20, i21⟩ := ZN s i1 g1 i10 i11 hs 3 (by omega) (by omega)
 obtain ⟨b3, i3, g3, e3, i30, i31⟩ := Ww s i2 g2 i20 i21 hs (wrap64 (1 + b2))
 obtain ⟨b4, i4, g4, e4, _, _, i40, i41⟩ := ZN s i3 g3 i30 i31 hs 5 (by omega) (by omega)
 obtain ⟨b5, i5, g5, e5, _, _, i50, i51⟩ := ZN s i4 g4 i40 i41 hs 20 (by omega) (by omega)
 obtain ⟨b6, i6, g6, e6, _, _, i60, i61⟩ := ZN s i5 g5 i50 i51 hs 51 (by omega) (by omega)
 unfold XZ.f
 simp only [e1, e2, e3, e4, e5, e6, Option.bind_some]
 refine Tt.bind (Tt.ev (P := fun _ => True) (W7 77 (wrap64 (1 + b1)) b3 (wrap64 (200 + b4)) b5 b6) trivial) ?_
 intro C _
 exact Tt.now ⟨i60, i61⟩
theorem VU (s : List Int) (i h : Int) (h0 : 0 ≤ i) (h1 : i ≤ s.length) (hs : s.length ≤ 1048576) : ∃ x j h', Wb.f s i h = some (x, j, h') ∧ 0 ≤ j ∧ j ≤ s.length := by
 obtain ⟨b, i1, g1, e1, i10, i11⟩ := WF s i h h0 h1 hs 6 (by omega) (by omega)
 obtain ⟨x, i2, g2, e2, i20, i21⟩ := Wx s i1 g1 i10 i11 hs [(-1), 9, 10, 49, 50, 19] (by simp) (by simp)
 obtain ⟨c, i3, g3, e3, _, _, i30, i31⟩ := ZN s i1 g1 i10 i11 hs 4 (by omega) (by omega)
 obtain ⟨y, i4, g4, e4, i40, i41⟩ := Ww s i3 g3 i30 i31 hs (wrap64 (1 + c))
 unfold Wb.f
 simp only [e1, Option.bind_some]
 cases b with
 | true => exact ⟨x, i2, g2, by simp only [if_true, e2, Option.bind_some], i20, i21⟩
 | false => exact ⟨y, i4, g4, by simp only [Bool.false_eq_true, if_false, e3, e4, Option.bind_some], i40, i41⟩
theorem VE (s : List Int) (i h : Int) (h0 : 0 ≤ i) (h1 : i ≤ s.length) (hs : s.length ≤ 1048576) : ∃ x j h', XQ.f s i h = some (x, j, h') ∧ 0 ≤ j ∧ j ≤ s.length := by
 obtain ⟨b, i1, g1, e1, i10, i11⟩ := WF s i h h0 h1 hs 8 (by omega) (by omega)
 obtain ⟨x, i2, g2, e2, i20, i21⟩ := Wx s i1 g1 i10 i11 hs [(-1), 0, 10000, 10001, 9223372036854775807, (-9223372036854775808)] (by simp) (by simp)
 obtain ⟨c, i3, g3, e3, _, _, i30, i31⟩ := ZN s i1 g1 i10 i11 hs 40 (by omega) (by omega)
 unfold XQ.f
 simp only [e1, Option.bind_some]
 cases b with
 | true => exact ⟨x, i2, g2, by simp only [if_true, e2, Option.bind_some], i20, i21⟩
 | false => exact ⟨c, i3, g3, by simp only [Bool.false_eq_true, if_false, e3, Option.bind_some], i30, i31⟩
theorem Th (s : List Int) (i h : Int) (h0 : 0 ≤ i) (h1 : i ≤ s.length) (hs : s.length ≤ 1048576) : Tt (fun k => We.f k s i h) (fun r => 0 ≤ r.2.2.2.2.2.2.1 ∧ r.2.2.2.2.2.2.1 ≤ s.length) := by
 unfold We.f
 refine Tt.bind (U1 s i h h0 h1 hs) ?_
 rintro ⟨c0, c1, c2, c3, c4, c5, i1, g1⟩ ⟨i10, i11⟩
 dsimp only at i10 i11 ⊢
 obtain ⟨m, i2, g2, e2, _, _, i20, i21⟩ := ZN s i1 g1 i10 i11 hs 9 (by omega) (by omega)
 obtain ⟨_, i3, g3, e3, i30, i31⟩ := Wx s i2 g2 i20 i21 hs [0, 1, 9999, 10000] (by simp) (by simp)
 obtain ⟨_, i4, g4, e4, i40, i41⟩ := VU s i2 g2 i20 i21 hs
 obtain ⟨_, i5, g5, e5, i50, i51⟩ := Wx s i2 g2 i20 i21 hs [0, (-1), 7] (by simp) (by simp)
 obtain ⟨_, i6, g6, e6, i60, i61⟩ := VE s i2 g2 i20 i21 hs
 simp only [e2, e3, e4, e5, e6, Option.bind_some]
 repeat' first
  | exact Tt.now ⟨i20, i21⟩
  | exact Tt.now ⟨i30, i31⟩
  | exact Tt.now ⟨i40, i41⟩
  | exact Tt.now ⟨i50, i51⟩
  | exact Tt.now ⟨i60, i61⟩
  | refine Tt.ite (fun _ => ?_) (fun _ => ?_)
theorem Ti (s : List Int) (i h : Int) (h0 : 0 ≤ i) (h1 : i ≤ s.length) (hs : s.length ≤ 1048576) : ∃ (a b c d e f : Int) (j g : Int), X7.f s i h = some (a, b, c, d, e, f, j, g) ∧ 0 ≤ j ∧ j ≤ s.length := by
 obtain ⟨a, b, c, d, e, f, i1, g1, e1, _, _, i10, i11⟩ := WY s i h h0 h1 hs
 obtain ⟨m, i2, g2, e2, _, _, i20, i21⟩ := ZN s i1 g1 i10 i11 hs 10 (by omega) (by omega)
 obtain ⟨_, i3, g3, e3, i30, i31⟩ := VU s i2 g2 i20 i21 hs
 obtain ⟨_, i4, g4, e4, i40, i41⟩ := Wx s i2 g2 i20 i21 hs [(-1), 5, 6] (by simp) (by simp)
 obtain ⟨_, i5, g5, e5, i50, i51⟩ := VE s i2 g2 i20 i21 hs
 unfold X7.f
 simp only [e1, e2, e3, e4, e5, Option.bind_some]
 by_cases c0 : m = 0
 ·exact ⟨_, _, _, _, _, _, i3, g3, if_pos c0, i30, i31⟩
 rw [if_neg c0]
 by_cases c1 : m = 1
 ·exact ⟨_, _, _, _, _, _, i4, g4, if_pos c1, i40, i41⟩
 rw [if_neg c1]
 by_cases c2 : m = 2
 ·exact ⟨_, _, _, _, _, _, i5, g5, if_pos c2, i50, i51⟩
 rw [if_neg c2]
 by_cases c3 : m = 3
 ·exact ⟨_, _, _, _, _, _, i3, g3, if_pos c3, i30, i31⟩
 rw [if_neg c3]
 exact ⟨_, _, _, _, _, _, i2, g2, rfl, i20, i21⟩
theorem VF (s : List Int) (hs : s.length ≤ 1048576) : Tt (fun k => YB.f k s) (fun r => n34 (ptOf r) ≤ 300) := by
 unfold YB.f
 obtain ⟨x, hx⟩ := Tn s hs
 refine Tt.bind (Tt.ev (P := fun r => r = (s, 0, x)) hx rfl) ?_
 rintro _ rfl
 refine Tt.bind (U0 s 0 x (by omega) (by omega) hs) ?_
 rintro ⟨p0, p1, p2, p3, p4, p5, p6, p7, p8, p9, c0, c1, c2, c3, c4, c5, q0, q1, q2, q3, q4, q5, i1, g1⟩ ⟨hp, i10, i11⟩
 dsimp only [atOf, ptOf] at hp i10 i11 ⊢
 obtain ⟨o, i2, g2, e2, i20, i21⟩ := WF s i1 g1 i10 i11 hs 8 (by omega) (by omega)
 simp only [e2, Option.bind_some]
 have st : ∀ (i3 g3 : Int), 0 ≤ i3 → i3 ≤ s.length → ∀ y0 y1 y2 y3 y4 y5 : Int, Tt (fun k => (YN.f s i3 g3 10).bind fun t23 => (if t23.1 = true then ((X7.f s t23.2.1 t23.2.2).bind fun t25 => ((Ym.f s t25.2.2.2.2.2.2.1 t25.2.2.2.2.2.2.2 ([77, 77, 77, 77, 77, 78] : List Int)).bind fun t29 => (some (p0, p1, p2, p3, p4, p5, p6, p7, p8, p9, t29.1, y0, y1, y2, y3, y4, y5, t25.1, t25.2.1, t25.2.2.1, t25.2.2.2.1, t25.2.2.2.2.1, t25.2.2.2.2.2.1)))) else ((Ym.f s t23.2.1 t23.2.2 ([77, 77, 77, 77, 77, 78] : List Int)).bind fun t29 => (some (p0, p1, p2, p3, p4, p5, p6, p7, p8, p9, t29.1, y0, y1, y2, y3, y4, y5, q0, q1, q2, q3, q4, q5))))) (fun r => n34 (ptOf r) ≤ 300) := by
  intro i3 g3 i30 i31 y0 y1 y2 y3 y4 y5
  obtain ⟨o2, i4, g4, e4, i40, i41⟩ := WF s i3 g3 i30 i31 hs 10 (by omega) (by omega)
  obtain ⟨a, b, c, d, e, f, i5, g5, e5, i50, i51⟩ := Ti s i4 g4 i40 i41 hs
  obtain ⟨_, i6, g6, e6, i60, i61⟩ := Wx s i5 g5 i50 i51 hs [77, 77, 77, 77, 77, 78] (by simp) (by simp)
  obtain ⟨_, i7, g7, e7, i70, i71⟩ := Wx s i4 g4 i40 i41 hs [77, 77, 77, 77, 77, 78] (by simp) (by simp)
  simp only [e4, e5, e6, e7, Option.bind_some]
  exact Tt.ite (fun _ => Tt.now hp) (fun _ => Tt.now hp)
 refine Tt.ite (fun _ => ?_) (fun _ => st i2 g2 i20 i21 _ _ _ _ _ _)
 refine Tt.bind (Th s i2 g2 i20 i21 hs) ?_
 rintro ⟨y0, y1, y2, y3, y4, y5, i3, g3⟩ ⟨i30, i31⟩
 exact st i3 g3 i30 i31 y0 y1 y2 y3 y4 y5
theorem copyI_evN (N : Nat) : ∀ x : S114, n114 x ≤ N → N ≤ 1048576 → Ev (fun k => Ya.f k x.f0 x.f1 x.f2 x.f3) (x.f0, x.f1, x.f2, x.f3) := by
 induction N using Nat.strongRecOn with
 | _ N ih =>
 intro x h hN
 rw [n114_f] at h
 refine Ev.succ ?_
 simp only [Ya.f]
 have key : ∀ (d i : Nat), x.f3.length - i = d → i ≤ x.f3.length → Ev (fun k => Ya.l0 k 0 0 0 [] x.f0 x.f1 x.f2 (x.f3.take i) x.f3 (x.f3.length : Int) (i : Int)) (x.f0, x.f1, x.f2, x.f3) := by
  intro d
  induction d with
  | zero =>
   intro i hd hi
   obtain rfl : i = x.f3.length := by omega
   refine Ev.succ ?_
   simp only [Ya.l0, Int.lt_irrefl, if_false, List.take_length]
   exact Ev.now _
  | succ d ihd =>
   intro i hd hi
   have hi' : i < x.f3.length := by omega
   obtain ⟨y, hy⟩ := getAt (l := x.f3) (i := i) hi'
   have hn := le_sum n114 hy
   have h1 : ((i : Int) < (x.f3.length : Int)) = True := eq_true (by omega)
   have h2 : (0 ≤ (i : Int)) = True := eq_true (by omega)
   have h3 : ((x.f3.take i).length < 2932031007402) = True := eq_true (by rw [List.length_take]; omega)
   have e := ih (n114 y) (by omega) y (Nat.le_refl _) (by omega)
   have e3 : x.f3.take i ++ [y] = x.f3.take (i + 1) := by rw [List.take_add_one, hy]; rfl
   refine Ev.succ ?_
   simp only [Ya.l0, h1, h2, if_true, Wz hy, wr1 hi' (by omega)]
   refine Ev.bind e ?_
   simp only [h3, if_true, eta114, e3]
   exact ihd (i + 1) (by omega) (by omega)
 exact key x.f3.length 0 (by omega) (by omega)
theorem UC (x : S114) (h : n114 x ≤ 1048576) : Ev (fun k => Ya.f k x.f0 x.f1 x.f2 x.f3) (x.f0, x.f1, x.f2, x.f3) := copyI_evN _ x (Nat.le_refl _) h
theorem Ui (l : List S116) (h : l.length ≤ 1048576) (hn : ∀ x ∈ l, n114 x.f3 ≤ 1048576) : Ev (fun k => Yk.f k l) l := by
 unfold Yk.f
 have key : ∀ (d i : Nat), l.length - i = d → i ≤ l.length → Ev (fun k => Yk.l0 k (l.take i) l (l.length : Int) (i : Int)) l := by
  intro d
  induction d with
  | zero =>
   intro i hd hi
   obtain rfl : i = l.length := by omega
   refine Ev.succ ?_
   simp only [Yk.l0, Int.lt_irrefl, if_false, List.take_length]
   exact Ev.now _
  | succ d ihd =>
   intro i hd hi
   have hi' : i < l.length := by omega
   obtain ⟨y, hy⟩ := getAt (l := l) (i := i) hi'
   have h1 : ((i : Int) < (l.length : Int)) = True := eq_true (by omega)
   have h2 : (0 ≤ (i : Int)) = True := eq_true (by omega)
   have h3 : ((l.take i).length < 1954687338268) = True := eq_true (by rw [List.length_take]; omega)
   have e3 : l.take i ++ [y] = l.take (i + 1) := by rw [List.take_add_one, hy]; rfl
   refine Ev.succ ?_
   simp only [Yk.l0, h1, h2, if_true, WC hy, wr1 hi' (by omega)]
   refine Ev.bind (UC y.f3 (hn y (List.mem_of_getElem? hy))) ?_
   simp only [h3, if_true, eta114, e3]
   exact ihd (i + 1) (by omega) (by omega)
 exact key l.length 0 (by omega) (by omega)
theorem V0 (v : Int) (l : List S116) (h : l.length ≤ 1048576) (hn : ∀ x ∈ l, n114 x.f3 ≤ 1048576) : Ev (fun k => Y6.f k v l) (v, l) := by
 unfold Y6.f
 exact Ev.bind (Ui l h hn) (Ev.now _)
theorem Uj (x : S29) (h : n29 x ≤ 1048576) : Ev (fun k => Xl.f k x.f0 x.f1 x.f2 x.f3.f0 x.f3.f1) (x.f0, x.f1, x.f2, x.f3.f0, x.f3.f1) := by
 obtain ⟨h1, h2, h3⟩ := epN h
 unfold Xl.f
 refine Ev.pos (by omega) ?_
 exact Ev.bind (V0 x.f3.f0 x.f3.f1 h2 h3) (Ev.now _)
theorem Uk (l : List S100) (h : l.length ≤ 1048576) : Xm.f l = some l := by
 unfold Xm.f
 rw [if_pos (by omega)]; rfl
theorem Ul (p : S34) (h : n34 p ≤ 1048576) : Ev (fun k => Xn.f k p.f0 p.f1.f0 p.f1.f1 p.f1.f2 p.f1.f3.f0 p.f1.f3.f1 p.f2 p.f3 p.f4 p.f5) (p.f0, p.f1.f0, p.f1.f1, p.f1.f2, p.f1.f3.f0, p.f1.f3.f1, p.f2, p.f3, p.f4, p.f5) := by
 have h' := h
 unfold n34 at h'
 have h1 : n29 p.f1 ≤ 1048576 := by omega
 have h2 : p.f2.length ≤ 1048576 := by omega
 unfold Xn.f
 refine Ev.bind (Uj p.f1 h1) ?_
 simp only [Uk p.f2 h2, Option.bind_some, List.nil_append]
 exact Ev.pos (by omega) (Ev.pos (by omega) (Ev.now _))
theorem W3 (a : Int) : XF.f a = some (nameB a) := by
 unfold XF.f
 rw [X8]; rfl
theorem Tj (a : Int) : Wf.f a = some (if nameB a = true then a / 10 else 0) := by
 unfold Wf.f
 rw [W3, Option.bind_some]
 cases h : nameB a with
 | true => simp only [if_true, name_div h]
 | false => rfl
theorem WU (a b : Int) : YG.f a b = some (kindB a b) := by
 unfold YG.f kindB
 rw [W3, Tj, Option.bind_some]
 cases h : nameB a with
 | true => simp only [if_true, Option.bind_some, Bool.true_and]; rfl
 | false => rfl
theorem Wy (a : Int) : Yf.f a = some (timeB a) := by
 unfold Yf.f
 rw [X8]; rfl
theorem WE (a b c d e t : Int) : Yi.f a b c d e t = some (reqB a b c d e t) := by
 unfold Yi.f reqB
 simp only [WU, Wy, X8, Option.bind_some]
 cases kindB a 1 <;> cases kindB b 2 <;> cases kindB c 3 <;> cases kindB e 4 <;> cases inB d 0 5 <;> simp
theorem V1 (a : Int) : Y7.f a = some (keyB a) := by
 unfold Y7.f; rw [X8]; rfl
theorem Tk (a b c d e g : Int) : Wg.f a b c d e g = some (certB a b c d e) := by
 have key : timeB d = true → timeB e = true → wrap64 (e - d) = e - d := by
  intro hd he
  unfold timeB at hd he
  rw [inB_iff] at hd he
  exact wr (by omega) (by omega)
 unfold Wg.f certB
 simp only [X8, W3, V1, Wy, Option.bind_some]
 cases inB a 1 9999 with
 | false => rfl
 | true => cases nameB b with
  | false => rfl
  | true => cases keyB c with
   | false => rfl
   | true => cases hd : timeB d with
    | false => rfl
    | true => cases he : timeB e with
     | false => rfl
     | true => simp only [if_true, Bool.true_and, key hd he]
def withB (a b c : Int) : Bool := timeB a && (timeB b && (timeB c && inB c a b))
theorem Vg (a b c : Int) : Xe.f a b c = some (withB a b c) := by
 unfold Xe.f withB
 simp only [Wy, X8, Option.bind_some]
 cases timeB a <;> cases timeB b <;> cases timeB c <;> rfl
theorem Vi (l : List Int) (n : Int) (h0 : 0 < n) (h1 : n < 2199023255552) : Wk.f l n = some [] := by
 unfold Wk.f
 rw [if_pos h0, if_pos h1]
theorem VI (ll : List (List Int)) (h0 : 0 < ll.flatten.length) (h1 : ll.flatten.length ≤ 2097152) (hl : ll.length ≤ 1048576) : Ev (fun k => Zz.f k ll) ll.flatten := by
 have hrd : ∀ {i : Nat} {x : List Int}, ll[i]? = some x → ll.getD (i : Int).toNat [] = x := fun hx => getD_nat ll [] _ _ hx
 unfold Zz.f
 have hsum : ∀ (l : List (List Int)) (s : Int), l.foldl (fun s x => s + (x.length : Int)) s = s + (l.flatten.length : Int) := by
  intro l
  induction l with
  | nil => intro s; simp
  | cons x l ih => intro s; rw [List.foldl_cons, ih]; simp only [List.flatten_cons, List.length_append]; omega
 have hin : ∀ (i : Nat) x, ll[i]? = some x → (ll.take (i + 1)).flatten.length = (ll.take i).flatten.length + x.length := by
  intro i x hx
  rw [List.take_add_one, hx, List.flatten_append, List.length_append]
  simp
 have hle : ∀ i : Nat, (ll.take i).flatten.length ≤ ll.flatten.length := by
  intro i
  conv => rhs; rw [← List.take_append_drop i ll]
  rw [List.flatten_append, List.length_append]; omega
 refine Ev.eqv (a := (fun s : Int => if 0 < s ∧ s < 2199023255552 then ll.flatten else []) (ll.foldl (fun s x => s + (x.length : Int)) 0)) (by simp only [hsum]; rw [if_pos (by omega)]) ?_
 refine ev_fold ll (fun (s : Int) x => s + (x.length : Int)) (fun s : Int => if 0 < s ∧ s < 2199023255552 then ll.flatten else []) (fun i s => s = ((ll.take i).flatten.length : Int)) (fun k s i => Zz.l0 k ll s ll (ll.length : Int) i) ?_ ?_ ?_ 0 (by simp)
 ·intro s hs
  rw [List.take_length] at hs
  refine Ev.succ ?_
  simp only [Zz.l0, Int.lt_irrefl, if_false]
  rw [Vi [] s (by omega) (by omega), if_pos (by omega)]
  simp only [Option.bind_some]
  refine Ev.eqv (a := (fun o : List Int => o) (ll.foldl (fun o x => o ++ x) [])) ?_ ?_
  ·have : ∀ (l : List (List Int)) (o : List Int), l.foldl (fun o x => o ++ x) o = o ++ l.flatten := by
    intro l
    induction l with
    | nil => intro o; simp
    | cons x l ih => intro o; rw [List.foldl_cons, ih]; simp
   rw [this]; rfl
  ·refine ev_fold ll (fun (o : List Int) x => o ++ x) (fun o => o) (fun i o => o.length = (ll.take i).flatten.length) (fun k o i => Zz.l1 k o ll (ll.length : Int) i) ?_ ?_ ?_ [] (by simp)
   ·intro o _
    refine Ev.succ ?_
    simp only [Zz.l1, Int.lt_irrefl, if_false]
    exact Ev.now _
   ·intro i x o hx ho
    rw [List.length_append, ho, hin i x hx]
   ·intro i x o r hx ho hr
    have hi := lt_of_get hx
    have h1' : ((i : Int) < (ll.length : Int)) = True := eq_true (by omega)
    have h2' : (0 ≤ (i : Int)) = True := eq_true (by omega)
    have e1 := hin i x hx
    have e2 := hle (i + 1)
    have e3 : rdOf ([] : List Int) ll (i : Int) = x := getD_nat ll [] i x hx
    refine Ev.succ ?_
    simp only [Zz.l1, h1', h2', if_true, e3, wr1 hi (by omega)]
    exact Ev.pos (by omega) hr
 ·intro i x s hx hs
  rw [hs, hin i x hx]; omega
 ·intro i x s r hx hs hr
  have hi := lt_of_get hx
  have h1' : ((i : Int) < (ll.length : Int)) = True := eq_true (by omega)
  have h2' : (0 ≤ (i : Int)) = True := eq_true (by omega)
  have e1 := hin i x hx
  have e2 := hle (i + 1)
  have e3 : rdOf ([] : List Int) ll (i : Int) = x := getD_nat ll [] i x hx
  have e4 : wrap64 (s + (x.length : Int)) = s + (x.length : Int) := wr (by omega) (by omega)
  refine Ev.succ ?_
  simp only [Zz.l0, h1', h2', if_true, e3, e4, wr1 hi (by omega)]
  exact Ev.neg (by omega) hr
theorem Tw (a : Int) : Ws.f a 2147483647 = some (mdV a) := by
 unfold Ws.f; rw [X8]; rfl
theorem Tu (l : List Int) (h : l.length ≤ 2097152) : Ev (fun k => X5.f k l) (hashV l) := by
 unfold X5.f hashV
 refine ev_fold l hsX (fun s => s) (fun _ _ => True) (fun k s i => X5.l0 k s l (l.length : Int) i) ?_ (fun _ _ _ _ _ => trivial) ?_ 11 trivial
 ·intro s _
  refine Ev.succ ?_
  simp only [X5.l0, Int.lt_irrefl, if_false]
  exact Ev.now _
 ·intro i x s r hx _ hr
  have hi := lt_of_get hx
  have h1 : ((i : Int) < (l.length : Int)) = True := eq_true (by omega)
  have h2 : (0 ≤ (i : Int)) = True := eq_true (by omega)
  refine Ev.succ ?_
  simp only [X5.l0, h1, h2, if_true, rd_nat l i x hx, Tw, Option.bind_some, wr1 hi (by omega)]
  exact hr
theorem Um (a : Int) (l : List Int) (h : l.length ≤ 1000) : Ev (fun k => Xo.f k a l) (khV a l) := by
 unfold Xo.f khV
 have e : ([[a], l, [a]] : List (List Int)).flatten = [a] ++ l ++ [a] := by simp
 refine Ev.bind (VI _ (by rw [e]; simp) (by rw [e]; simp only [List.length_append, List.length_singleton]; omega) (by simp)) ?_
 rw [e]
 exact Ev.bind (Tu _ (by simp only [List.length_append, List.length_singleton]; omega)) (Ev.now _)
theorem UD (s a b c d e g : Int) : Ev (fun k => XG.f k s a b c d e g) (a, b, c, d, e, khV s [a, b, c, d, e]) := by
 unfold XG.f
 exact Ev.bind (Um s [a, b, c, d, e] (by simp)) (Ev.now _)
theorem W9 (s : Int) (x : S36) (t : Int) : Ev (fun k => Y1.f k s x.f0 x.f1 x.f2 x.f3 x.f4 x.f5 t) (chkB s x t) := by
 unfold Y1.f chkB
 simp only [Tk, Option.bind_some]
 refine Ev.bifT fun _ => ?_
 simp only [Vg, Option.bind_some]
 refine Ev.bifT fun _ => ?_
 exact Ev.bind (UD s x.f0 x.f1 x.f2 x.f3 x.f4 x.f5) (Ev.eqv (by simp) (Ev.now _))
theorem VW (a b : Int) : Wi.f a b = some (ageV a b) := by
 unfold Wi.f ageV
 simp only [Wy, Option.bind_some]
 by_cases c1 : timeB a = true
 ·by_cases c2 : timeB b = true
  ·have h1 := timeAt c1
   have h2 := timeAt c2
   by_cases c3 : a > b
   ·simp only [if_pos c1, if_pos c2, if_pos c3, if_neg (show ¬ (timeB a = true ∧ timeB b = true ∧ a ≤ b) from fun h => by omega)]
   ·simp only [if_pos c1, if_pos c2, if_neg c3, if_pos (show timeB a = true ∧ timeB b = true ∧ a ≤ b from ⟨c1, c2, by omega⟩), wr (x := b - a) (by omega) (by omega)]
  ·simp only [if_pos c1, if_neg c2, if_neg (show ¬ (timeB a = true ∧ timeB b = true ∧ a ≤ b) from fun h => c2 h.2.1)]
 ·simp only [if_neg c1, if_neg (show ¬ (timeB a = true ∧ timeB b = true ∧ a ≤ b) from fun h => c1 h.1)]
theorem U2 (a b m : Int) : X0.f a b m = some (freshV a b m) := by
 unfold X0.f freshV
 simp only [VW, Option.bind_some]
 split <;> rfl
theorem Va (a0 a1 a2 l3 a4 l5 l6 l7 a8 l9 n) : Y2.f a0 a1 a2 l3 a4 l5 l6 l7 a8 l9 n = some (freshV a8 n 10) := by
 unfold Y2.f
 simp only [U2, Option.bind_some]
theorem Uo (l : List S82) (n : Int) (h : l.length ≤ 1048576) : Ev (fun k => Xp.f k l n) (revAt l n) := by
 have e : Ev (fun k => Zr.f k l n) (idxV (fun x : S82 => x.f0 == n) l 0) := by
  unfold Zr.f
  refine idx_ev (fun k i => Zr.l0 k l n (l.length : Int) i) (fun x : S82 => x.f0 == n) l 0 l.length (by omega) ?_ ?_
  ·refine Ev.succ ?_
   simp only [Zr.l0, Int.lt_irrefl, if_false]
   exact Ev.now _
  ·intro j x r _ hx
   rw [Nat.sub_zero] at hx
   have hj := lt_of_get hx
   have h1 : ((j : Int) < (l.length : Int)) = True := eq_true (by omega)
   have h2 : (0 ≤ (j : Int)) = True := eq_true (by omega)
   constructor
   ·intro hp
    have c : x.f0 = n := by simpa using hp
    refine Ev.succ ?_
    simp only [Zr.l0, h1, h2, if_true, WA hx, cl90.f, Option.bind_some, decide_eq_true c]
    exact Ev.now _
   ·intro hp he
    have c : ¬ x.f0 = n := by simpa using hp
    refine Ev.succ ?_
    simp only [Zr.l0, h1, h2, if_true, WA hx, cl90.f, Option.bind_some, decide_eq_false c, Bool.false_eq_true, if_false, wr1 hj (by omega)]
    exact he
 unfold Xp.f revAt
 refine Ev.bind e ?_
 by_cases c : idxV (fun x : S82 => x.f0 == n) l 0 < 0
 ·simp only [if_pos c]; exact Ev.now _
 ·simp only [if_neg c]
  exact Ev.pos (by omega) (Ev.pos (idxV_in _ l c).2 (Ev.now _))
theorem Vb (l : List S82) (n t : Int) (h : l.length ≤ 1048576) : Ev (fun k => Y3.f k l n t) (inB (revAt l n) 0 t) := by
 unfold Y3.f
 refine Ev.bind (Uo l n h) ?_
 simp only [X8, Option.bind_some]
 exact Ev.now _
theorem WS (a q : S38) : Yl.f a.f0 a.f1 a.f2 a.f3 a.f4 a.f5 q.f0 q.f1 q.f2 q.f3 q.f4 q.f5 = some (sameQ a q) := by
 simp only [Yl.f, XA.f, Option.bind_some, Option.some.injEq, sameQ]
 rw [Bool.eq_iff_iff]
 simp
theorem Up (l : List S62) (q : S38) (h : l.length ≤ 1048576) : Ev (fun k => Xq.f k l q.f0 q.f1 q.f2 q.f3 q.f4 q.f5) (idxV (savedP q) l 0) := by
 unfold Xq.f
 refine Ev.bind (a := idxV (savedP q) l 0) ?_ (Ev.now _)
 unfold Zv.f
 refine idx_ev (fun k i => Zv.l0 k l q.f0 q.f1 q.f2 q.f3 q.f4 q.f5 (l.length : Int) i) (savedP q) l 0 l.length (by omega) ?_ ?_
 ·refine Ev.succ ?_
  simp only [Zv.l0, Int.lt_irrefl, if_false]
  exact Ev.now _
 ·intro j x r _ hx
  rw [Nat.sub_zero] at hx
  have hj := lt_of_get hx
  have h1 : ((j : Int) < (l.length : Int)) = True := eq_true (by omega)
  have h2 : (0 ≤ (j : Int)) = True := eq_true (by omega)
  have hc : cl66.f x.f0.f0 x.f0.f1 x.f0.f2 x.f0.f3 x.f0.f4 x.f0.f5 x.f1 x.f2 q.f0 q.f1 q.f2 q.f3 q.f4 q.f5 = some (savedP q x) := by
   unfold cl66.f savedP
   simp only [WS x.f0 q, Option.bind_some]
   cases sameQ x.f0 q with
   | false => rfl
   | true =>
    by_cases c : x.f0.f5 ≤ q.f5
    ·simp only [if_true, if_pos c, decide_eq_true c, Bool.true_and]
    ·simp only [if_true, if_neg c, decide_eq_false c, Bool.false_and, Bool.and_false]
  constructor
  ·intro hp
   refine Ev.succ ?_
   simp only [Zv.l0, h1, h2, if_true, WB hx, hc, Option.bind_some, hp]
   exact Ev.now _
  ·intro hp he
   refine Ev.succ ?_
   simp only [Zv.l0, h1, h2, if_true, WB hx, hc, Option.bind_some, hp, Bool.false_eq_true, if_false, wr1 hj (by omega)]
   exact he
theorem U3 (N : Nat) : ∀ x : S114, n114 x ≤ N → N ≤ 1048576 → Ev (fun k => YC.f k x.f0 x.f1 x.f2 x.f3) (1 + (n114 x : Int)) := by
 induction N using Nat.strongRecOn with
 | _ N ih =>
 intro x hx hN
 rw [n114_f] at hx ⊢
 have key : ∀ (d i : Nat) (s : Int), x.f3.length - i = d → i ≤ x.f3.length → 0 ≤ s → s + (((x.f3.drop i).length + ((x.f3.drop i).map n114).sum : Nat) : Int) ≤ 4000000 → Ev (fun k => YC.l0 k s x.f3 (x.f3.length : Int) (i : Int)) (s + (((x.f3.drop i).length + ((x.f3.drop i).map n114).sum : Nat) : Int)) := by
  intro d
  induction d with
  | zero =>
   intro i s hd hi h0 hs
   obtain rfl : i = x.f3.length := by omega
   refine Ev.succ ?_
   simp only [YC.l0, Int.lt_irrefl, if_false, List.drop_length, List.length_nil, List.map_nil, List.sum_nil]
   exact Ev.eqv (by omega) (Ev.now _)
  | succ d ih2 =>
   intro i s hd hi h0 hs
   have hi' : i < x.f3.length := by omega
   have hy : x.f3[i]? = some x.f3[i] := List.getElem?_eq_getElem hi'
   have hn := le_sum n114 hy
   rw [List.drop_eq_getElem_cons hi'] at hs ⊢
   simp only [List.length_cons, List.map_cons, List.sum_cons] at hs ⊢
   generalize x.f3[i] = y at hy hn hs ⊢
   have e := ih (n114 y) (by omega) y (Nat.le_refl _) (by omega)
   have h1 : ((i : Int) < (x.f3.length : Int)) = True := eq_true (by omega)
   have h2 : (0 ≤ (i : Int)) = True := eq_true (by omega)
   refine Ev.succ ?_
   simp only [YC.l0, h1, h2, if_true, Wz hy, wr1 hi' (by omega)]
   refine Ev.bind e ?_
   rw [wr (show (-9223372036854775808 : Int) ≤ s + (1 + (n114 y : Int)) by omega) (by omega)]
   exact Ev.eqv (by omega) (ih2 (i + 1) (s + (1 + (n114 y : Int))) (by omega) (by omega) (by omega) (by omega))
 refine Ev.succ ?_
 simp only [YC.f]
 exact Ev.eqv (by rw [List.drop_zero]) (key x.f3.length 0 1 (by omega) (by omega) (by omega) (by rw [List.drop_zero]; omega))
theorem Tl (x : S114) (h : n114 x ≤ 1048576) : Ev (fun k => YC.f k x.f0 x.f1 x.f2 x.f3) (1 + (n114 x : Int)) := U3 _ x (Nat.le_refl _) h
theorem VG (x : S114) (h : n114 x ≤ 1048576) : Ev (fun k => XR.f k x.f0 x.f1 x.f2 x.f3) (condB x) := by
 have hv := (valid_evN _ x (Nat.le_refl _) h).2
 unfold XR.f condB
 refine Ev.bind (Tl x h) ?_
 by_cases c : 1 + (n114 x : Int) ≤ 15
 ·simp only [if_pos c, decide_eq_true c, Bool.true_and]
  exact Ev.bind hv (Ev.now _)
 ·simp only [if_neg c, decide_eq_false c, Bool.false_and]
  exact Ev.now _
theorem Tm (r : S116) (h : n116 r ≤ 1048576) : Ev (fun k => Wh.f k r.f0 r.f1 r.f2 r.f3.f0 r.f3.f1 r.f3.f2 r.f3.f3) (ruleB r) := by
 have hc := VG r.f3 (by have := rule_n r; omega)
 unfold Wh.f ruleB
 simp only [X8, WU, Option.bind_some]
 refine Ev.bifT fun _ => Ev.bifT fun _ => ?_
 by_cases c : r.f2 = -1
 ·simp only [if_pos c, beq_iff_eq.2 c, Bool.true_or, Bool.true_and]
  exact Ev.bind hc (Ev.now _)
 ·simp only [if_neg c, beq_eq_false_iff_ne.2 c, Bool.false_or]
  exact Ev.bifT fun _ => Ev.bind hc (Ev.now _)
theorem WR (p : S27) (h : n27 p ≤ 1048576) : Ev (fun k => YY.f k p.f0 p.f1) (policyB p) := by
 unfold n27 at h
 unfold YY.f policyB
 simp only [X8, Option.bind_some]
 have hI : Ev (fun k => Zn.f k p.f1) (idxV (fun x => !ruleB x) p.f1 0) := by
  unfold Zn.f
  refine idx_ev (fun k i => Zn.l0 k p.f1 (p.f1.length : Int) i) (fun x => !ruleB x) p.f1 0 p.f1.length (by omega) ?_ ?_
  ·refine Ev.succ ?_
   simp only [Zn.l0, Int.lt_irrefl, if_false]
   exact Ev.now _
  ·intro j x r _ hx
   rw [Nat.sub_zero] at hx
   have hj := lt_of_get hx
   have hn := le_sum n116 hx
   have h1 : ((j : Int) < (p.f1.length : Int)) = True := eq_true (by omega)
   have h2 : (0 ≤ (j : Int)) = True := eq_true (by omega)
   have hc : Ev (fun k => cl95.f k x.f0 x.f1 x.f2 x.f3.f0 x.f3.f1 x.f3.f2 x.f3.f3) (!ruleB x) := by
    unfold cl95.f
    exact Ev.bind (Tm _ (by omega)) (Ev.now _)
   constructor
   ·intro hq
    refine Ev.succ ?_
    simp only [Zn.l0, h1, h2, if_true, WC hx]
    refine Ev.bind hc ?_
    simp only [hq, if_true]
    exact Ev.now _
   ·intro hq he
    refine Ev.succ ?_
    simp only [Zn.l0, h1, h2, if_true, WC hx, wr1 hj (by omega)]
    refine Ev.bind hc ?_
    simp only [hq, Bool.false_eq_true, if_false]
    exact he
 refine Ev.bifT fun _ => Ev.dand fun _ => ?_
 have hC : Ev (fun k => ZL.f k p.f1) (p.f1.any (fun x => !ruleB x)) := by
  unfold ZL.f
  exact Ev.bind hI (Ev.eqv (idxV_anyI (fun x => !ruleB x) p.f1 0 (by omega)) (Ev.now _))
 refine Ev.bind hC ?_
 refine Ev.eqv ?_ (Ev.now _)
 simp [List.any_eq_not_all_not]
theorem Tr (x : S116) (a o : Int) : Wn.f x.f0 x.f1 x.f2 x.f3.f0 x.f3.f1 x.f3.f2 x.f3.f3 a o = some (forB x a o) := by
 unfold Wn.f forB
 by_cases c1 : x.f1 = -1
 ·rw [if_pos c1]
  by_cases c2 : x.f2 = -1
  ·rw [if_pos c2]; simp [c1, c2]
  ·rw [if_neg c2]; simp [c1, c2, Bool.beq_eq_decide_eq]
 ·rw [if_neg c1]
  by_cases c3 : x.f1 = a
  ·rw [if_pos c3]
   by_cases c2 : x.f2 = -1
   ·rw [if_pos c2]; simp [c3, c2]
   ·rw [if_neg c2]; simp [c3, c2, Bool.beq_eq_decide_eq]
  ·rw [if_neg c3]; simp [c1, c3]
theorem U4 (x : S100) : X1.f x.f0 x.f1 x.f2 x.f3 x.f4 x.f5 = some (claimB x) := by
 unfold X1.f claimB
 simp only [WU, X8, Option.bind_some, ite_and]
 (repeat' split) <;> rfl
theorem W4 (x : S100) : X2.f x.f0 x.f1 x.f2 x.f3 x.f4 x.f5 = some (factB x) := by
 unfold X2.f factB
 simp only [U4, X8, Wy, Option.bind_some, ite_and]
theorem withB_in (a b c : Int) : withB a b c = withinB a b c := rfl
theorem WV (x : S100) (t a : Int) : Xf.f x.f0 x.f1 x.f2 x.f3 x.f4 x.f5 t a = some (holdsB x t a) := by
 unfold Xf.f holdsB
 simp only [W4, Vg, withB_in, VW, Option.bind_some]
 cases factB x
 ·simp
 ·cases h : withinB x.f4 x.f5 t
  ·simp
  ·have h2 := within_iff h
   simp only [if_true, Bool.true_and]
   rw [fresh_age h2.1 h2.2.2.1 h2.2.2.2.1]
theorem popX_len2 (l : List S109) (a : Int) : ∀ s : List Bool × List Int, (popX l a s).2.length ≤ s.2.length + l.length := by
 unfold popX
 induction l with
 | nil => intro s; simp
 | cons x l ih =>
  intro s
  rw [List.foldl_cons]
  have := ih (visX a s x)
  have h : (visX a s x).2.length ≤ s.2.length + 1 := by
   unfold visX; split
   ·simp
   ·omega
  simp only [List.length_cons]
  omega
theorem isRole_role (a : Int) : Xw.f a = some (roleB a) := by
 unfold Xw.f
 rw [X8]; rfl
theorem below_in (l : List S109) (hl : l.length ≤ 1048576) (a : Int) (c0 c1 c2 c3 c4 c5 : Bool) (r : Bool × Bool × Bool × Bool × Bool × Bool) : ∀ (d i : Nat) (b0 b1 b2 b3 b4 b5 : Bool) (q : List Int), i + d = l.length → q.length + d ≤ 200000000 →
  (∀ (e0 e1 e2 e3 e4 e5 : Bool) (q' : List Int), popX (l.drop i) a ([b0, b1, b2, b3, b4, b5], q) = ([e0, e1, e2, e3, e4, e5], q') → Ev (fun k => Zf.l0 k l c0 c1 c2 c3 c4 c5 e0 e1 e2 e3 e4 e5 q') r) →
  Ev (fun k => Zf.l1 k l c0 c1 c2 c3 c4 c5 b0 b1 b2 b3 b4 b5 q a l (l.length : Int) (i : Int)) r := by
 intro d
 induction d with
 | zero =>
  intro i b0 b1 b2 b3 b4 b5 q hi hq h
  obtain rfl : i = l.length := by omega
  refine Ev.succ ?_
  simp only [Zf.l1, Int.lt_irrefl, if_false]
  exact h _ _ _ _ _ _ _ (by rw [List.drop_length]; rfl)
 | succ d ih =>
  intro i b0 b1 b2 b3 b4 b5 q hi hq h
  have hil : i < l.length := by omega
  obtain ⟨x, hx⟩ := getAt (l := l) (i := i) hil
  have hd : l.drop i = x :: l.drop (i + 1) := by
   rw [List.drop_eq_getElem_cons hil]
   rw [List.getElem?_eq_getElem hil] at hx
   rw [Option.some.inj hx]
  have h1 : ((i : Int) < (l.length : Int)) = True := eq_true (by omega)
  have h2 : (0 ≤ (i : Int)) = True := eq_true (by omega)
  have h3 : (q.length < 17592186044416) = True := eq_true (by omega)
  have go : ∀ (b0 b1 b2 b3 b4 b5 : Bool) (q2 : List Int), q2.length ≤ q.length + 1 → visX a ([b0, b1, b2, b3, b4, b5], q2) x = ([b0, b1, b2, b3, b4, b5], q2) ∨ True → True := fun _ _ _ _ _ _ _ _ _ => trivial
  clear go
  have keep : visX a ([b0, b1, b2, b3, b4, b5], q) x = ([b0, b1, b2, b3, b4, b5], q) → Ev (fun k => Zf.l1 k l c0 c1 c2 c3 c4 c5 b0 b1 b2 b3 b4 b5 q a l (l.length : Int) ((i + 1 : Nat) : Int)) r := by
   intro hv
   refine ih (i + 1) _ _ _ _ _ _ q (by omega) (by omega) fun e0 e1 e2 e3 e4 e5 q' he => h _ _ _ _ _ _ _ ?_
   rw [hd]
   show popX (l.drop (i + 1)) a (visX a ([b0, b1, b2, b3, b4, b5], q) x) = _
   rw [hv]; exact he
  have put : ∀ (f0 f1 f2 f3 f4 f5 : Bool), visX a ([b0, b1, b2, b3, b4, b5], q) x = ([f0, f1, f2, f3, f4, f5], q ++ [x.f1]) → Ev (fun k => Zf.l1 k l c0 c1 c2 c3 c4 c5 f0 f1 f2 f3 f4 f5 (q ++ [x.f1]) a l (l.length : Int) ((i + 1 : Nat) : Int)) r := by
   intro f0 f1 f2 f3 f4 f5 hv
   refine ih (i + 1) _ _ _ _ _ _ _ (by omega) (by rw [List.length_append, List.length_singleton]; omega) fun e0 e1 e2 e3 e4 e5 q' he => h _ _ _ _ _ _ _ ?_
   rw [hd]
   show popX (l.drop (i + 1)) a (visX a ([b0, b1, b2, b3, b4, b5], q) x) = _
   rw [hv]; exact he
  refine Ev.succ ?_
  simp only [Zf.l1, h1, h2, h3, if_true, WI hx, wr1 hil (by omega), isRole_role, Option.bind_some]
  by_cases ca : x.f0 = a
  ·simp only [if_pos ca]
   cases hr : roleB x.f1 with
   | false =>
    simp only [Bool.false_eq_true, if_false, ca, if_true]
    exact keep (by unfold visX; simp [hr])
   | true =>
    have hr' := roleB_iff.1 hr
    have hc : x.f1 = 0 ∨ x.f1 = 1 ∨ x.f1 = 2 ∨ x.f1 = 3 ∨ x.f1 = 4 ∨ x.f1 = 5 := by omega
    rcases hc with e | e | e | e | e | e <;> simp only [e, if_true, Int.reduceEq, if_false] at put ⊢
    ·cases b0 with
     | true => simp only [if_true]; exact keep (by unfold visX; simp [mkR, e])
     | false => simp only [Bool.false_eq_true, if_false]; exact put _ _ _ _ _ _ (by unfold visX; simp [mkR, e, ca, roleB])
    ·cases b1 with
     | true => simp only [if_true]; exact keep (by unfold visX; simp [mkR, e])
     | false => simp only [Bool.false_eq_true, if_false]; exact put _ _ _ _ _ _ (by unfold visX; simp [mkR, e, ca, roleB])
    ·cases b2 with
     | true => simp only [if_true]; exact keep (by unfold visX; simp [mkR, e])
     | false => simp only [Bool.false_eq_true, if_false]; exact put _ _ _ _ _ _ (by unfold visX; simp [mkR, e, ca, roleB])
    ·cases b3 with
     | true => simp only [if_true]; exact keep (by unfold visX; simp [mkR, e])
     | false => simp only [Bool.false_eq_true, if_false]; exact put _ _ _ _ _ _ (by unfold visX; simp [mkR, e, ca, roleB])
    ·cases b4 with
     | true => simp only [if_true]; exact keep (by unfold visX; simp [mkR, e])
     | false => simp only [Bool.false_eq_true, if_false]; exact put _ _ _ _ _ _ (by unfold visX; simp [mkR, e, ca, roleB])
    ·cases b5 with
     | true => simp only [if_true]; exact keep (by unfold visX; simp [mkR, e])
     | false => simp only [Bool.false_eq_true, if_false]; exact put _ _ _ _ _ _ (by unfold visX; simp [mkR, e, ca, roleB])
  ·simp only [if_neg ca]
   exact keep (by unfold visX; simp [ca])
theorem below_out (l : List S109) (hl : l.length ≤ 1048576) (c0 c1 c2 c3 c4 c5 r0 r1 r2 r3 r4 r5 : Bool) : ∀ (n : Nat) (q : List Int) (b0 b1 b2 b3 b4 b5 : Bool), q.length + n * 1048576 ≤ 150000000 → bfsX l n q [b0, b1, b2, b3, b4, b5] = some [r0, r1, r2, r3, r4, r5] →
  Ev (fun k => Zf.l0 k l c0 c1 c2 c3 c4 c5 b0 b1 b2 b3 b4 b5 q) (r0, r1, r2, r3, r4, r5) := by
 intro n
 induction n with
 | zero => intro q b0 b1 b2 b3 b4 b5 hq h; cases h
 | succ n ih =>
  intro q b0 b1 b2 b3 b4 b5 hq h
  cases q with
  | nil =>
   cases h
   refine Ev.succ ?_
   simp only [Zf.l0, List.length_nil, Int.ofNat_eq_natCast, Int.natCast_zero, gt_iff_lt, Int.lt_irrefl, if_false]
   exact Ev.now _
  | cons a rest =>
   simp only [List.length_cons] at hq
   have h1 : (((a :: rest).length : Int) > 0) = True := eq_true (by simp only [List.length_cons]; omega)
   have h2 : (0 < ((a :: rest).length : Int)) = True := eq_true (by simp only [List.length_cons]; omega)
   have h3 : (1 ≤ ((a :: rest).length : Int)) = True := eq_true (by simp only [List.length_cons]; omega)
   refine Ev.succ ?_
   simp only [Zf.l0, h1, h2, h3, if_true]
   have hrd : rd (a :: rest) 0 = a := rfl
   have hdr : (a :: rest).drop 1 = rest := rfl
   rw [hrd, hdr]
   refine below_in l hl a c0 c1 c2 c3 c4 c5 _ l.length 0 b0 b1 b2 b3 b4 b5 rest (by omega) (by omega) fun e0 e1 e2 e3 e4 e5 q' he => ?_
   rw [List.drop_zero] at he
   have hp := popX_len2 l a ([b0, b1, b2, b3, b4, b5], rest)
   rw [he] at hp
   simp only at hp
   refine ih q' e0 e1 e2 e3 e4 e5 (by omega) ?_
   have h' : bfsX l n (popX l a ([b0, b1, b2, b3, b4, b5], rest)).2 (popX l a ([b0, b1, b2, b3, b4, b5], rest)).1 = some [r0, r1, r2, r3, r4, r5] := h
   rw [he] at h'
   exact h'
theorem six {r : List Bool} (h : r.length = 6) : ∃ r0 r1 r2 r3 r4 r5, r = [r0, r1, r2, r3, r4, r5] := by
 match r, h with
 | [a, b, c, d, e, f], _ => exact ⟨a, b, c, d, e, f, rfl⟩
theorem VX (l : List S109) (hl : l.length ≤ 1048576) (a : Int) (ha : roleB a = true) : ∃ r0 r1 r2 r3 r4 r5, Ev (fun k => Zf.f k l a) (r0, r1, r2, r3, r4, r5) ∧ bfsX l 8 [a] (List.replicate 6 false) = some [r0, r1, r2, r3, r4, r5] := by
 obtain ⟨r, e, hr, -⟩ := below_spec l a ha 8 (by omega)
 obtain ⟨r0, r1, r2, r3, r4, r5, rfl⟩ := six hr
 exact ⟨r0, r1, r2, r3, r4, r5, below_out l hl _ _ _ _ _ _ _ _ _ _ _ _ 8 [a] _ _ _ _ _ _ (by simp) e, e⟩
theorem roles_step (a : Int) (r0 r1 r2 r3 r4 r5 : Bool) (k i : Nat) (hi : i < 6) (o : List Int) (ho : o.length ≤ 6) : Zo.l0 (k + 1) a o r0 r1 r2 r3 r4 r5 (i : Int) = Zo.l0 k a (o ++ (if mkR [r0, r1, r2, r3, r4, r5] (i : Int) = true ∨ (i : Int) = a then [(i : Int)] else [])) r0 r1 r2 r3 r4 r5 ((i + 1 : Nat) : Int) := by
 have h1 : (o.length < 17592186044416) = True := eq_true (by omega)
 have hw : wrap64 ((i : Int) + 1) = ((i + 1 : Nat) : Int) := wr1 hi (by omega)
 have hr : ∀ (r : Bool) (p q : Option (List Int)), mkR [r0, r1, r2, r3, r4, r5] (i : Int) = r → (if r = true then p else if (i : Int) = a then p else q) = if mkR [r0, r1, r2, r3, r4, r5] (i : Int) = true ∨ (i : Int) = a then p else q := by
  intro r p q e
  rw [e]
  cases r <;> simp
 have hg : ∀ (c : Prop) [Decidable c], Zo.l0 k a (o ++ (if c then [(i : Int)] else [])) r0 r1 r2 r3 r4 r5 ((i + 1 : Nat) : Int) = if c then Zo.l0 k a (o ++ [(i : Int)]) r0 r1 r2 r3 r4 r5 ((i + 1 : Nat) : Int) else Zo.l0 k a o r0 r1 r2 r3 r4 r5 ((i + 1 : Nat) : Int) := by
  intro c _
  by_cases hc : c
  ·rw [if_pos hc, if_pos hc]
  ·rw [if_neg hc, if_neg hc, List.append_nil]
 rw [hg]
 have h6 : ((i : Int) < 6) = True := eq_true (by omega)
 simp only [Zo.l0, h1, hw, h6, if_true]
 rcases (by omega : i = 0 ∨ i = 1 ∨ i = 2 ∨ i = 3 ∨ i = 4 ∨ i = 5) with rfl | rfl | rfl | rfl | rfl | rfl
 ·rw [if_pos (by decide)]; exact hr r0 _ _ rfl
 ·rw [if_neg (by decide), if_pos (by decide)]; exact hr r1 _ _ rfl
 ·rw [if_neg (by decide), if_neg (by decide), if_pos (by decide)]; exact hr r2 _ _ rfl
 ·rw [if_neg (by decide), if_neg (by decide), if_neg (by decide), if_pos (by decide)]; exact hr r3 _ _ rfl
 ·rw [if_neg (by decide), if_neg (by decide), if_neg (by decide), if_neg (by decide), if_pos (by decide)]; exact hr r4 _ _ rfl
 ·rw [if_neg (by decide), if_neg (by decide), if_neg (by decide), if_neg (by decide), if_neg (by decide), if_pos (by decide)]; exact hr r5 _ _ rfl
theorem V2 (l : List S109) (role : Int) (hl : l.length ≤ 1048576) : Ev (fun k => Zo.f k l role) (rolesV l role) := by
 unfold Zo.f rolesV
 rw [isRole_role, roleB_in]
 cases c : roleB role with
 | false => simp only [Option.bind_some, Bool.false_eq_true, if_false]; exact Ev.now _
 | true =>
  simp only [Option.bind_some, if_true]
  obtain ⟨r0, r1, r2, r3, r4, r5, e, eb⟩ := VX l hl role c
  refine Ev.bind e ?_
  obtain ⟨r, h1, h2, h3⟩ := below_spec l role c 8 (by omega)
  rw [eb] at h1
  obtain rfl := Option.some.inj h1
  have hq : ∀ q, roleB q = true → ((mkR [r0, r1, r2, r3, r4, r5] q = true ∨ q = role) ↔ mkR (closX l role) q = true) := fun q hq => by
   rw [h3 q hq, closX_iff l c hq, Rch_iff]
   constructor
   ·rintro (h | h)
    ·exact Or.inr h
    ·exact Or.inl h.symm
   ·rintro (h | h)
    ·exact Or.inr h.symm
    ·exact Or.inl h
  have key : ∀ (d i : Nat) (o : List Int), i + d = 6 → o.length ≤ i → Ev (fun k => Zo.l0 k role o r0 r1 r2 r3 r4 r5 (i : Int)) (o ++ (([0, 1, 2, 3, 4, 5] : List Int).drop i).filter fun r => mkR (closX l role) r) := by
   intro d
   induction d with
   | zero =>
    intro i o hi ho
    obtain rfl : i = 6 := by omega
    refine Ev.succ ?_
    simp only [Zo.l0]
    rw [show (([0, 1, 2, 3, 4, 5] : List Int).drop 6) = [] from rfl, List.filter_nil, List.append_nil]
    exact Ev.neg (by omega) (Ev.now _)
   | succ d ih =>
    intro i o hi ho
    refine Ev.next (fun k => roles_step role r0 r1 r2 r3 r4 r5 k i (by omega) o (by omega)) ?_
    have hr := hq (i : Int) (by rw [roleB_iff]; omega)
    have hd : (([0, 1, 2, 3, 4, 5] : List Int).drop i) = (i : Int) :: ([0, 1, 2, 3, 4, 5] : List Int).drop (i + 1) := by
     rcases (by omega : i = 0 ∨ i = 1 ∨ i = 2 ∨ i = 3 ∨ i = 4 ∨ i = 5) with rfl | rfl | rfl | rfl | rfl | rfl <;> rfl
    rw [hd]
    by_cases cc : mkR [r0, r1, r2, r3, r4, r5] (i : Int) = true ∨ (i : Int) = role
    ·rw [if_pos cc, List.filter_cons_of_pos (by exact hr.1 cc)]
     refine Ev.eqv ?_ (ih (i + 1) (o ++ [(i : Int)]) (by omega) (by rw [List.length_append, List.length_singleton]; omega))
     rw [List.append_assoc]; rfl
    ·rw [if_neg cc, List.append_nil, List.filter_cons_of_neg (by intro hc; exact cc (hr.2 hc))]
     exact ih (i + 1) o (by omega) (by omega)
  exact Ev.eqv (by rw [List.drop_zero, List.nil_append]; rfl) (key 6 0 [] rfl (by simp))
theorem Vj (l : List Int) (h : l.length < 2199023255552) : Wp.f l = some (l.mergeSort fun x y => decide (x ≤ y)) := by
 unfold Wp.f
 rw [if_pos h]
theorem W5 (l : List Int) (h : l.length < 2199023255552) : X9.f l = some (Go.Lib.compact l) := by
 unfold X9.f
 rw [if_pos h]
theorem mem_compactUpTo (d : Array Int) (x : Int) : ∀ m, x ∈ Go.Lib.compactUpTo d m ↔ ∃ j, j < m ∧ d[j]! = x
 | 0 => by simp [Go.Lib.compactUpTo]
 | m + 1 => by
  rw [Go.Lib.compactUpTo_succ, List.mem_append, mem_compactUpTo d x m]
  constructor
  ·rintro (⟨j, hj, e⟩ | h)
   ·exact ⟨j, by omega, e⟩
   ·split at h
    ·exact ⟨m, by omega, (List.mem_singleton.1 h).symm⟩
    ·simp at h
  ·rintro ⟨j, hj, e⟩
   by_cases hm : j = m
   ·subst hm
    by_cases hk : Go.Lib.keeps d j = true
    ·rw [if_pos hk]; exact .inr (by simp [e])
    ·left
     unfold Go.Lib.keeps at hk
     have h0 : j ≠ 0 ∧ d[j]! = d[j - 1]! := by simpa using hk
     exact ⟨j - 1, by omega, by rw [← h0.2, e]⟩
   ·exact .inl ⟨j, by omega, e⟩
theorem asc_compactUpTo (d : Array Int) (n : Nat) (hs : ∀ i j, i ≤ j → j < n → d[i]! ≤ d[j]!) : ∀ m, m ≤ n → (Go.Lib.compactUpTo d m).Pairwise (· < ·)
 | 0, _ => by simp [Go.Lib.compactUpTo]
 | m + 1, hm => by
  rw [Go.Lib.compactUpTo_succ, List.pairwise_append]
  refine ⟨asc_compactUpTo d n hs m (by omega), by split <;> simp, ?_⟩
  intro a ha b hb
  split at hb
  case isFalse => simp at hb
  case isTrue hk =>
  obtain rfl := List.mem_singleton.1 hb
  obtain ⟨j, hj, rfl⟩ := (mem_compactUpTo d a m).1 ha
  unfold Go.Lib.keeps at hk
  have h0 : m = 0 ∨ d[m]! ≠ d[m - 1]! := of_decide_eq_true hk
  have h1 := hs j (m - 1) (by omega) (by omega)
  have h2 := hs (m - 1) m (by omega) (by omega)
  rcases h0 with h0 | h0
  ·omega
  ·omega
theorem asc_ext : ∀ (a b : List Int), a.Pairwise (· < ·) → b.Pairwise (· < ·) → (∀ x, x ∈ a ↔ x ∈ b) → a = b
 | [], [], _, _, _ => rfl
 | [], y :: b, _, _, h => by have := (h y).2 (by simp); simp at this
 | x :: a, [], _, _, h => by have := (h x).1 (by simp); simp at this
 | x :: a, y :: b, ha, hb, h => by
  rw [List.pairwise_cons] at ha hb
  have hxy : x = y := by
   have h1 := (h x).1 (by simp)
   have h2 := (h y).2 (by simp)
   rcases List.mem_cons.1 h1 with e | e
   ·exact e
   ·rcases List.mem_cons.1 h2 with e2 | e2
    ·exact e2.symm
    ·have := hb.1 x e; have := ha.1 y e2; omega
  subst hxy
  rw [asc_ext a b ha.2 hb.2 (fun z => ⟨fun hz => ?_, fun hz => ?_⟩)]
  ·rcases List.mem_cons.1 ((h z).1 (by simp [hz])) with e | e
   ·have := ha.1 z hz; omega
   ·exact e
  ·rcases List.mem_cons.1 ((h z).2 (by simp [hz])) with e | e
   ·have := hb.1 z hz; omega
   ·exact e
theorem asc_sorted (l : List Int) : (Go.Lib.compact (l.mergeSort fun x y => decide (x ≤ y))).Pairwise (· < ·) ∧ ∀ x, x ∈ Go.Lib.compact (l.mergeSort fun x y => decide (x ≤ y)) ↔ x ∈ l := by
 have hp : (l.mergeSort fun x y => decide (x ≤ y)).Pairwise fun x y => decide (x ≤ y) = true := List.pairwise_mergeSort (fun a b c h1 h2 => by simp at h1 h2 ⊢; omega) (fun a b => by simp; omega) l
 have hm : ∀ x, x ∈ (l.mergeSort fun x y => decide (x ≤ y)) ↔ x ∈ l := fun x => List.mem_mergeSort
 generalize (l.mergeSort fun x y => decide (x ≤ y)) = s at hp hm
 unfold Go.Lib.compact
 have hs : ∀ i j, i ≤ j → j < s.length → s.toArray[i]! ≤ s.toArray[j]! := by
  intro i j hij hj
  rw [getElem!_pos _ _ (by simp; omega), getElem!_pos _ _ (by simpa using hj)]
  rcases Nat.lt_or_eq_of_le hij with h | h
  ·have := List.pairwise_iff_getElem.1 hp i j (by omega) hj h
   simpa using this
  ·subst h; exact Int.le_refl _
 refine ⟨asc_compactUpTo _ s.length hs _ (Nat.le_refl _), fun x => ?_⟩
 rw [mem_compactUpTo, ← hm x]
 constructor
 ·rintro ⟨j, hj, rfl⟩
  rw [getElem!_pos _ _ (by simpa using hj)]; simp
 ·intro h
  obtain ⟨j, hj, rfl⟩ := List.getElem_of_mem h
  exact ⟨j, hj, by rw [getElem!_pos _ _ (by simpa using hj)]; simp⟩
def gathV (l : List S109) (p t g : Int) : List S100 → List Int
 | [] => []
 | x :: s => (if givesP p t g x = true then rolesV l x.f2 else []) ++ gathV l p t g s
theorem gath_has (l : List S109) (p r t g : Int) : ∀ s, hasI (gathV l p t g s) r = hasRB l s p r t g
 | [] => rfl
 | x :: s => by
  have ih := gath_has l p r t g s
  unfold hasI hasRB at *
  rw [gathV, List.any_append, List.any_cons, ih]
  cases givesP p t g x <;> simp [hasI]
theorem gath_len (l : List S109) (p t g : Int) : ∀ s : List S100, (gathV l p t g s).length ≤ 6 * s.length
 | [] => by simp [gathV]
 | x :: s => by
  have ih := gath_len l p t g s
  have := rolesV_len l x.f2
  rw [gathV, List.length_append, List.length_cons]
  split <;> simp <;> omega
theorem U5 (l : List S109) (s : List S100) (p t g : Int) (hl : l.length ≤ 1048576) (h : s.length ≤ 1048576) : ∃ v, Ev (fun k => YH.f k l s p t g) v ∧ v.length ≤ 6 * 1048576 ∧ ∀ r, hasI v r = hasRB l s p r t g := by
 have key : ∀ (d i : Nat) (out : List Int), s.length - i = d → i ≤ s.length → out.length + 6 * d ≤ 6 * 1048576 → Ev (fun k => YH.l0 k l p t g out s (s.length : Int) (i : Int)) (Go.Lib.compact ((out ++ gathV l p t g (s.drop i)).mergeSort fun x y => decide (x ≤ y))) := by
  intro d
  induction d with
  | zero =>
   intro i out hd hi ho
   obtain rfl : i = s.length := by omega
   refine Ev.succ ?_
   simp only [YH.l0, Int.lt_irrefl, if_false, List.drop_length, gathV, List.append_nil]
   rw [Vj out (by omega), Option.bind_some, W5 _ (by rw [List.length_mergeSort]; omega), Option.bind_some]
   exact Ev.now _
  | succ d ih =>
   intro i out hd hi ho
   have hi' : i < s.length := by omega
   have hx : s[i]? = some s[i] := List.getElem?_eq_getElem hi'
   rw [List.drop_eq_getElem_cons hi', gathV, ← List.append_assoc]
   generalize s[i] = x at hx ⊢
   have h1 : ((i : Int) < (s.length : Int)) = True := eq_true (by omega)
   have h2 : (0 ≤ (i : Int)) = True := eq_true (by omega)
   have hll := rolesV_len l x.f2
   have hno := ih (i + 1) out (by omega) (by omega) (by omega)
   have hyes := ih (i + 1) (out ++ rolesV l x.f2) (by omega) (by omega) (by rw [List.length_append]; omega)
   have h3 := wr1 hi' (show s.length ≤ 9223372036854775807 by omega)
   refine Ev.succ ?_
   simp only [YH.l0, h1, h2, if_true, Wu hx, WV, Option.bind_some, h3]
   by_cases c0 : x.f0 = 1
   ·by_cases c1 : x.f1 = p
    ·cases c2 : holdsB x t g with
     | false =>
      have e : givesP p t g x = false := by simp [givesP, c2]
      simp only [if_pos c0, if_pos c1, Bool.false_eq_true, if_false, e, List.append_nil]
      exact hno
     | true =>
      have e : givesP p t g x = true := by simp [givesP, c0, c1, c2]
      simp only [if_pos c0, if_pos c1, e, if_true]
      refine Ev.bind (V2 l x.f2 hl) ?_
      exact Ev.pos (by omega) hyes
    ·have e : givesP p t g x = false := by simp [givesP, c1]
     simp only [if_pos c0, if_neg c1, Bool.false_eq_true, if_false, e, List.append_nil]
     exact hno
   ·have e : givesP p t g x = false := by simp [givesP, c0]
    simp only [if_neg c0, Bool.false_eq_true, if_false, e, List.append_nil]
    exact hno
 refine ⟨_, key s.length 0 [] (by omega) (by omega) (by simp; omega), ?_, fun r => ?_⟩
 ·have := gath_len l p t g s
  have h2 := Go.Lib.compact_length_le (([] ++ gathV l p t g (s.drop 0)).mergeSort fun x y => decide (x ≤ y))
  rw [List.length_mergeSort] at h2
  simp only [List.nil_append, List.drop_zero] at h2 ⊢
  omega
 ·rw [← gath_has]
  simp only [List.nil_append, List.drop_zero]
  rw [Bool.eq_iff_iff, any_hasI, any_hasI]
  exact (asc_sorted _).2 r
theorem V3 (l : List Int) (a : Int) (h : l.length ≤ 1073741824) : Ev (fun k => Z7.f k l a) (idxV (fun x => decide (a = x)) l 0) := by
 unfold Z7.f
 refine idx_ev (fun k i => Z7.l0 k l a (l.length : Int) i) (fun x => decide (a = x)) l 0 l.length (by omega) ?_ ?_
 ·refine Ev.succ ?_
  simp only [Z7.l0, Int.lt_irrefl, if_false]
  exact Ev.now _
 ·intro j x r _ hx
  rw [Nat.sub_zero] at hx
  have hj := lt_of_get hx
  have h1 : ((j : Int) < (l.length : Int)) = True := eq_true (by omega)
  have h2 : (0 ≤ (j : Int)) = True := eq_true (by omega)
  constructor
  ·intro hp
   refine Ev.succ ?_
   simp only [Z7.l0, h1, h2, if_true, rd_nat _ _ _ hx, of_decide_eq_true hp]
   exact Ev.now _
  ·intro hp he
   refine Ev.succ ?_
   simp only [Z7.l0, h1, h2, if_true, rd_nat _ _ _ hx, if_neg (of_decide_eq_false hp), wr1 hj (by omega)]
   exact he
theorem Vs (l : List Int) (a : Int) (h : l.length ≤ 1073741824) : Ev (fun k => Yp.f k l a) (hasI l a) := by
 unfold Yp.f
 refine Ev.bind (V3 l a h) ?_
 exact Ev.eqv (idxV_anyI (fun x => decide (a = x)) l 0 (by omega)) (Ev.now _)
theorem U6 (l : List S109) (s : List S100) (p r t g : Int) (hl : l.length ≤ 1048576) (h : s.length ≤ 1048576) : Ev (fun k => X3.f k l s p r t g) (hasRB l s p r t g) := by
 obtain ⟨v, hE, hv, hh⟩ := U5 l s p t g hl h
 unfold X3.f
 refine Ev.bind hE ?_
 rw [← hh r]
 exact Ev.bid (Vs v r (by omega))
theorem UE (l : List S100) (a b c t g : Int) (h : l.length ≤ 1048576) : Ev (fun k => XH.f k l a b c t g) (idxV (findP a b c t g) l 0) := by
 unfold XH.f
 refine Ev.bind (a := idxV (findP a b c t g) l 0) ?_ (Ev.now _)
 unfold Zl.f
 refine idx_ev (fun k i => Zl.l0 k l a b c t g (l.length : Int) i) (findP a b c t g) l 0 l.length (by omega) ?_ ?_
 ·refine Ev.succ ?_
  simp only [Zl.l0, Int.lt_irrefl, if_false]
  exact Ev.now _
 ·intro j x r _ hx
  rw [Nat.sub_zero] at hx
  have hj := lt_of_get hx
  have h1 : ((j : Int) < (l.length : Int)) = True := eq_true (by omega)
  have h2 : (0 ≤ (j : Int)) = True := eq_true (by omega)
  have hc : cl181.f x.f0 x.f1 x.f2 x.f3 x.f4 x.f5 a b c t g = some (findP a b c t g x) := by
   unfold cl181.f findP
   simp only [WV, Option.bind_some]
   by_cases c0 : x.f0 = a
   ·by_cases c1 : x.f1 = b
    ·by_cases c2 : x.f2 = c
     ·rw [if_pos c0, if_pos c1, if_pos c2]; simp [c0, c1, c2]
     ·rw [if_pos c0, if_pos c1, if_neg c2]; simp [c2]
    ·rw [if_pos c0, if_neg c1]; simp [c1]
   ·rw [if_neg c0]; simp [c0]
  constructor
  ·intro hp
   refine Ev.succ ?_
   simp only [Zl.l0, h1, h2, if_true, Wu hx, hc, Option.bind_some, hp]
   exact Ev.now _
  ·intro hp he
   refine Ev.succ ?_
   simp only [Zl.l0, h1, h2, if_true, Wu hx, hc, Option.bind_some, hp, Bool.false_eq_true, if_false, wr1 hj (by omega)]
   exact he
theorem Vd (l : List S100) (a b t g : Int) (h : l.length ≤ 1048576) : Ev (fun k => Z8.f k l a b t g) (bestV a b t g l (-1)) := by
 have key : ∀ (d i : Nat) (m : Int), l.length - i = d → i ≤ l.length → Ev (fun k => Z8.l0 k a b t g m l (l.length : Int) (i : Int)) (bestV a b t g (l.drop i) m) := by
  intro d
  induction d with
  | zero =>
   intro i m hd hi
   obtain rfl : i = l.length := by omega
   refine Ev.succ ?_
   simp only [Z8.l0, Int.lt_irrefl, if_false, List.drop_length, bestV]
   exact Ev.now _
  | succ d ih =>
   intro i m hd hi
   have hi' : i < l.length := by omega
   have hx : l[i]? = some l[i] := List.getElem?_eq_getElem hi'
   rw [List.drop_eq_getElem_cons hi', bestV]
   generalize l[i] = x at hx ⊢
   have h1 : ((i : Int) < (l.length : Int)) = True := eq_true (by omega)
   have h2 : (0 ≤ (i : Int)) = True := eq_true (by omega)
   have hr := fun m => ih (i + 1) m (by omega) (by omega)
   have h3 := wr1 hi' (show l.length ≤ 9223372036854775807 by omega)
   refine Ev.succ ?_
   simp only [Z8.l0, h1, h2, if_true, Wu hx, WV, Option.bind_some, h3]
   by_cases c0 : x.f0 = a
   ·by_cases c1 : x.f1 = b
    ·simp only [if_pos c0, if_pos c1]
     cases c2 : holdsB x t g with
     | false =>
      have e : bestP a b t g x = false := by simp [bestP, c2]
      simp only [e, Bool.false_eq_true, if_false]; exact hr _
     | true =>
      have e : bestP a b t g x = true := by simp [bestP, c0, c1, c2]
      simp only [e, if_true]; exact hr _
    ·have e : bestP a b t g x = false := by simp [bestP, c1]
     simp only [if_pos c0, if_neg c1, e, Bool.false_eq_true, if_false]; exact hr _
   ·have e : bestP a b t g x = false := by simp [bestP, c0]
    simp only [if_neg c0, e, Bool.false_eq_true, if_false]; exact hr _
 unfold Z8.f
 exact Ev.eqv (by rw [List.drop_zero]) (key l.length 0 (-1) (by omega) (by omega))
theorem Uq (l : List S109) (s : List S100) (q : S38) (o a g : Int) (u : List S114) (hl : l.length ≤ 1048576) (h : s.length ≤ 1048576) : Ev (fun k => Xr.f k l s o a g u q.f0 q.f1 q.f2 q.f3 q.f4 q.f5) (leafB l s q o a g) := by
 unfold Xr.f leafB
 by_cases c1 : o = 1
 ·simp only [if_pos c1]; exact Ev.now _
 by_cases c2 : o = 2
 ·simp only [if_neg c1, if_pos c2]; exact Ev.bid (U6 l s q.f0 a q.f5 g hl h)
 by_cases c3 : o = 3
 ·simp only [if_neg c1, if_neg c2, if_pos c3]
  refine Ev.bind (UE s 2 q.f0 q.f1 q.f5 g h) ?_
  rw [idxV_ne]
  exact Ev.now _
 by_cases c4 : o = 4
 ·simp only [if_neg c1, if_neg c2, if_neg c3, if_pos c4]
  exact Ev.bind (Vd s 3 q.f1 q.f5 g h) (Ev.now _)
 by_cases c5 : o = 5
 ·simp only [if_neg c1, if_neg c2, if_neg c3, if_neg c4, if_pos c5]
  exact Ev.bind (Vd s 4 q.f2 q.f5 g h) (Ev.now _)
 by_cases c6 : o = 6
 ·simp only [if_neg c1, if_neg c2, if_neg c3, if_neg c4, if_neg c5, if_pos c6]; exact Ev.now _
 ·simp only [if_neg c1, if_neg c2, if_neg c3, if_neg c4, if_neg c5, if_neg c6]; exact Ev.now _
theorem UF (l : List S109) (s : List S100) (q : S38) (hl : l.length ≤ 1048576) (hs : s.length ≤ 1048576) (N : Nat) : ∀ x : S114, n114 x ≤ N → vldC x = true → Ev (fun k => ZK.f k x.f0 x.f1 x.f2 x.f3 l s q.f0 q.f1 q.f2 q.f3 q.f4 q.f5) (evC (leafB l s q) x) := by
 induction N using Nat.strongRecOn with
 | _ N ih =>
 intro x hx hv
 obtain ⟨two, three⟩ := vld_parts hv
 rw [evC_f]
 refine Ev.succ ?_
 by_cases c7 : x.f0 = 7
 ·obtain ⟨y, hy, ry, p0, hvy, hn⟩ := two (.inl c7)
  simp only [ZK.f, if_pos c7, p0, if_true, ry]
  refine Ev.bind (ih _ (by omega) y (Nat.le_refl _) hvy) ?_
  rw [getD_map hy]
  exact Ev.now _
 by_cases c8 : x.f0 = 8
 ·obtain ⟨y, hy, ry, p0, hvy, hn⟩ := two (.inr (.inl c8))
  obtain ⟨z, hz, rz, p1, hvz, hn2⟩ := three (.inl c8)
  simp only [ZK.f, if_neg c7, if_pos c8, p0, p1, if_true, ry, rz]
  rw [getD_map hy, getD_map hz]
  refine Ev.bind (ih _ (by omega) y (Nat.le_refl _) hvy) ?_
  cases evC (leafB l s q) y with
  | false => exact Ev.now _
  | true => simp only [if_true, Bool.true_and]; exact Ev.bid (ih _ (by omega) z (Nat.le_refl _) hvz)
 by_cases c9 : x.f0 = 9
 ·obtain ⟨y, hy, ry, p0, hvy, hn⟩ := two (.inr (.inr c9))
  obtain ⟨z, hz, rz, p1, hvz, hn2⟩ := three (.inr c9)
  simp only [ZK.f, if_neg c7, if_neg c8, if_pos c9, p0, p1, if_true, ry, rz]
  rw [getD_map hy, getD_map hz]
  refine Ev.bind (ih _ (by omega) y (Nat.le_refl _) hvy) ?_
  cases evC (leafB l s q) y with
  | true => exact Ev.now _
  | false => simp only [Bool.false_eq_true, if_false, Bool.false_or]; exact Ev.bid (ih _ (by omega) z (Nat.le_refl _) hvz)
 simp only [ZK.f, if_neg c7, if_neg c8, if_neg c9]
 unfold cl131.f
 exact Ev.bid (Ev.bid (Uq l s q x.f0 x.f1 x.f2 x.f3 hl hs))
theorem UG (l : List S109) (s : List S100) (q : S38) (x : S114) (hl : l.length ≤ 1048576) (hs : s.length ≤ 1048576) (hx : n114 x ≤ 1048576) : Ev (fun k => XI.f k l s x.f0 x.f1 x.f2 x.f3 q.f0 q.f1 q.f2 q.f3 q.f4 q.f5) (evalB l s q x) := by
 unfold XI.f evalB
 refine Ev.bind (VG x hx) ?_
 cases c : condB x with
 | false => exact Ev.now _
 | true =>
  have hv : vldC x = true := by
   unfold condB at c
   rw [Bool.and_eq_true] at c
   exact c.2
  exact Ev.pos rfl (Ev.bid (UF l s q hl hs _ x (Nat.le_refl _) hv))
theorem Vt (l : List S109) (s : List S100) (q : S38) (n0 : Int) (P : List S116) (hl : l.length ≤ 1048576) (hs : s.length ≤ 1048576) (hP : nPol P ≤ 1048576) : Ev (fun k => ZD.f k l s n0 P q.f0 q.f1 q.f2 q.f3 q.f4 q.f5) (thatV (rhoB l s q) P 0) := by
 unfold nPol at hP
 have key : ∀ (d i : Nat) (out : List Int), P.length - i = d → i ≤ P.length → out.length ≤ i → Ev (fun k => ZD.l0 k l s q.f0 q.f1 q.f2 q.f3 q.f4 q.f5 out P (P.length : Int) (i : Int)) (out ++ thatV (rhoB l s q) (P.drop i) (i : Int)) := by
  intro d
  induction d with
  | zero =>
   intro i out hd hi ho
   obtain rfl : i = P.length := by omega
   refine Ev.succ ?_
   simp only [ZD.l0, Int.lt_irrefl, if_false, List.drop_length, thatV, List.append_nil]
   exact Ev.now _
  | succ d ih =>
   intro i out hd hi ho
   have hi' : i < P.length := by omega
   have hx : P[i]? = some P[i] := List.getElem?_eq_getElem hi'
   rw [List.drop_eq_getElem_cons hi', thatV]
   generalize P[i] = x at hx ⊢
   have hn := le_sum n116 hx
   have hn2 := rule_n x
   have h1 : ((i : Int) < (P.length : Int)) = True := eq_true (by omega)
   have h2 : (0 ≤ (i : Int)) = True := eq_true (by omega)
   have e1 := UG l s q x.f3 hl hs (by omega)
   have v1 := ih (i + 1) out (by omega) (by omega) (by omega)
   have v2 := ih (i + 1) (out ++ [(i : Int)]) (by omega) (by omega) (by rw [List.length_append, List.length_singleton]; omega)
   have hol : (out.length < 17592186044416) = True := eq_true (by omega)
   have h3 := wr1 hi' (show P.length ≤ 9223372036854775807 by omega)
   have h4 : (i : Int) + 1 = ((i + 1 : Nat) : Int) := by omega
   rw [h4, show rhoB l s q x = (forB x q.f3 q.f4 && evalB l s q x.f3) from rfl]
   refine Ev.succ ?_
   simp only [ZD.l0, h1, h2, if_true, WC hx, Tr, Option.bind_some, h3]
   cases c : forB x q.f3 q.f4 with
   | false =>
    simp only [Bool.false_eq_true, if_false, Bool.false_and]
    exact v1
   | true =>
    simp only [if_true, Bool.true_and]
    refine Ev.bind e1 ?_
    cases evalB l s q x.f3 with
    | true =>
     simp only [if_true, hol]
     exact Ev.eqv (by rw [List.append_assoc]; rfl) v2
    | false => simp only [Bool.false_eq_true, if_false]; exact v1
 unfold ZD.f
 exact Ev.eqv (by rw [List.drop_zero, List.nil_append]; rfl) (key P.length 0 [] (by omega) (by omega) (by simp))
theorem U7 (n0 : Int) (P : List S116) (L : List Int) (hL : L.length ≤ 1048576) (hy : ∀ y ∈ L, 0 ≤ y ∧ y < (P.length : Int)) : Ev (fun k => YL.f k n0 P L) (decE (L.map fun i => (Zt P i).f0) 0) := by
 have key : ∀ (d i : Nat) (a : Int), L.length - i = d → i ≤ L.length → Ev (fun k => YL.l0 k n0 P a L (L.length : Int) (i : Int)) (decE ((L.drop i).map fun i => (Zt P i).f0) a) := by
  intro d
  induction d with
  | zero =>
   intro i a hd hi
   obtain rfl : i = L.length := by omega
   refine Ev.succ ?_
   simp only [YL.l0, Int.lt_irrefl, if_false, List.drop_length, List.map_nil, decE]
   exact Ev.now _
  | succ d ih =>
   intro i a hd hi
   have hi' : i < L.length := by omega
   have hx : L[i]? = some L[i] := List.getElem?_eq_getElem hi'
   have hb := hy _ (List.getElem_mem hi')
   rw [List.drop_eq_getElem_cons hi', List.map_cons, decE]
   generalize L[i] = y at hx hb ⊢
   have h1 : ((i : Int) < (L.length : Int)) = True := eq_true (by omega)
   have h2 : (0 ≤ (i : Int)) = True := eq_true (by omega)
   have h3 : (0 ≤ y) = True := eq_true (by omega)
   have h4 : (y < (P.length : Int)) = True := eq_true (by omega)
   have h5 := wr1 hi' (show L.length ≤ 9223372036854775807 by omega)
   refine Ev.succ ?_
   simp only [YL.l0, h1, h2, h3, h4, if_true, rd_nat _ _ _ hx, h5]
   by_cases c0 : (Zt P y).f0 = 0
   ·simp only [if_pos c0]; exact Ev.now _
   ·simp only [if_neg c0]
    by_cases c1 : (Zt P y).f0 = 1
    ·simp only [if_pos c1]; exact ih (i + 1) 1 (by omega) (by omega)
    ·simp only [if_neg c1]; exact ih (i + 1) a (by omega) (by omega)
 unfold YL.f
 exact Ev.eqv (by rw [List.drop_zero]) (key L.length 0 0 (by omega) (by omega))
theorem WG (l : List S109) (s : List S100) (v : Int) (P : List S116) (q : S38) (hl : l.length ≤ 1048576) (hs : s.length ≤ 1048576) (hp : nPol P ≤ 1048576) : Ev (fun k => Yx.f k l s v P q.f0 q.f1 q.f2 q.f3 q.f4 q.f5) (decV l s v P q) := by
 unfold Yx.f decV
 simp only [WE, Option.bind_some]
 cases c : reqB q.f0 q.f1 q.f2 q.f3 q.f4 q.f5 with
 | false => simp only [Bool.false_eq_true, if_false]; exact Ev.now _
 | true =>
  simp only [if_true]
  refine Ev.bind (WR ⟨v, P⟩ (by unfold n27; unfold nPol at hp; exact hp)) ?_
  unfold polB
  cases c2 : policyB ⟨v, P⟩ with
  | false => simp only [Bool.false_eq_true, if_false]; exact Ev.now _
  | true =>
   simp only [if_true]
   have hlen : P.length ≤ 1048576 := by unfold nPol at hp; omega
   have hL := thatV_len (rhoB l s q) P 0
   refine Ev.bind (Vt l s q v P hl hs hp) ?_
   exact Ev.bind (U7 v P (thatV (rhoB l s q) P 0) (by omega) fun y hy => by
    have := thatV_in (rhoB l s q) P 0 y hy; omega) (Ev.now _)
theorem Vu (l : List S109) (s : List S100) (v : Int) (P : List S116) (q : S38) (most : Int) (hl : l.length ≤ 1048576) (hs : s.length ≤ 1048576) (hp : nPol P ≤ 1048576) : Ev (fun k => ZH.f k l s v P q.f0 q.f1 q.f2 q.f3 q.f4 q.f5 most) (untilV l s v P q most) := by
 unfold ZH.f untilV
 simp only [WE, Option.bind_some]
 cases c : reqB q.f0 q.f1 q.f2 q.f3 q.f4 q.f5 with
 | false => simp only [Bool.false_eq_true, if_false]; exact Ev.now _
 | true =>
  have ht : 0 ≤ q.f5 ∧ q.f5 ≤ 10000 := by
   unfold reqB at c
   simp only [Bool.and_eq_true] at c
   exact timeAt c.2.2.2.2.2
  simp only [if_true]
  refine Ev.bind (WR ⟨v, P⟩ (by unfold n27; unfold nPol at hp; exact hp)) ?_
  cases c2 : policyB ⟨v, P⟩ with
  | false => simp only [Bool.false_eq_true, if_false]; exact Ev.now _
  | true =>
   simp only [if_true, X8, Option.bind_some]
   cases c3 : inB most 0 60 with
   | false => simp only [Bool.false_eq_true, if_false]; exact Ev.now _
   | true =>
    have hm := inB_iff.1 c3
    have hw : wrap64 (q.f5 + most) = q.f5 + most := wr (by omega) (by omega)
    simp only [if_true]
    refine Ev.bind (WG l s v P q hl hs hp) ?_
    have key : ∀ (n : Nat) (t : Int), q.f5 + most - t ≤ (n : Int) → 0 ≤ t → t ≤ 10000 → Ev (fun k => ZH.l0 k l s most v P q.f0 q.f1 q.f2 q.f3 q.f4 q.f5 t (decV l s v P q)) (untilL l s v P q (q.f5 + most) n t) := by
     intro n
     induction n with
     | zero =>
      intro t hd h0 h1
      refine Ev.succ ?_
      simp only [ZH.l0, hw, untilL]
      refine Ev.neg (by split <;> omega) (Ev.now _)
     | succ n ih =>
      intro t hd h0 h1
      refine Ev.succ ?_
      unfold untilL
      by_cases c4 : t < q.f5 + most ∧ t < 10000
      ·have hw2 : wrap64 (t + 1) = t + 1 := wr (by omega) (by omega)
       rw [if_pos c4]
       simp only [ZH.l0, hw, XA.f, Option.bind_some, hw2]
       refine Ev.pos (by split <;> omega) ?_
       refine Ev.bind (WG l s v P (atT q (t + 1)) hl hs hp) ?_
       by_cases c5 : decV l s v P (atT q (t + 1)) = decV l s v P q
       ·rw [if_pos c5]; exact Ev.pos c5 (ih (t + 1) (by omega) (by omega) (by omega))
       ·rw [if_neg c5]; exact Ev.neg c5 (Ev.now _)
      ·rw [if_neg c4]
       simp only [ZH.l0, hw]
       refine Ev.neg (by split <;> omega) (Ev.now _)
    exact key 60 q.f5 (by omega) ht.1 ht.2
theorem VH (l : List S109) (s : List S100) (v : Int) (P : List S116) (q : S38) (most : Int) (hl : l.length ≤ 1048576) (hs : s.length ≤ 1048576) (hp : nPol P ≤ 1048576) : Ev (fun k => YD.f k l s v P q.f0 q.f1 q.f2 q.f3 q.f4 q.f5 most) (q.f0, q.f1, q.f2, q.f3, q.f4, q.f5, (saveV l s v P q most).f1, (saveV l s v P q most).f2) := by
 unfold YD.f
 exact Ev.bind (WG l s v P q hl hs hp) (Ev.bind (Vu l s v P q most hl hs hp) (Ev.now _))
theorem UH (l : List S62) (x : S62) (h : l.length ≤ 1048576) : Ev (fun k => Yt.f k l x.f0.f0 x.f0.f1 x.f0.f2 x.f0.f3 x.f0.f4 x.f0.f5 x.f1 x.f2) (putV l x) := by
 unfold Yt.f putV
 refine ev_fold l (putStep x) (putEnd x) (fun i s => s.length ≤ i) (fun k s i => Yt.l0 k x.f0.f0 x.f0.f1 x.f0.f2 x.f0.f3 x.f0.f4 x.f0.f5 x.f1 x.f2 s l (l.length : Int) i) ?_ ?_ ?_ [] (by simp)
 ·intro s hs
  have h3 : (s.length < 2199023255552) = True := eq_true (by have : s.length ≤ l.length := hs; omega)
  refine Ev.succ ?_
  have e : ∀ (y : S62), (⟨⟨y.f0.f0, y.f0.f1, y.f0.f2, y.f0.f3, y.f0.f4, y.f0.f5⟩, y.f1, y.f2⟩ : S62) = y := fun _ => rfl
  simp only [Yt.l0, Int.lt_irrefl, if_false, h3, if_true, Option.bind_some, putEnd, e]
  by_cases c : ((s ++ [x]).length : Int) > 8
  ·have c1 : 1 ≤ ((s ++ [x]).length : Int) := by omega
   simp only [if_pos c, if_pos c1]
   exact Ev.now _
  ·simp only [if_neg c]
   exact Ev.now _
 ·intro i y s hx hs
  have := putStep_length x s y
  show (putStep x s y).length ≤ i + 1
  omega
 ·intro i y s r hx hs hr
  have hi := lt_of_get hx
  have hs' : s.length ≤ i := hs
  have h1 : ((i : Int) < (l.length : Int)) = True := eq_true (by omega)
  have h2 : (0 ≤ (i : Int)) = True := eq_true (by omega)
  have h3 : (s.length < 2199023255552) = True := eq_true (by omega)
  refine Ev.succ ?_
  simp only [Yt.l0, h1, h2, h3, if_true, WB hx, wr1 hi (by omega), WS y.f0 x.f0, Option.bind_some]
  unfold putStep at hr
  by_cases c : sameQ y.f0 x.f0 = true
  ·simp only [if_pos c] at hr ⊢; exact hr
  ·simp only [if_neg c] at hr ⊢; exact hr
theorem Vh (p : S34) (s : Int) (x : S36) (q : S38) (h : n34 p ≤ 1048576) : Ev (fun k => Xu.f k p.f0 p.f1.f0 p.f1.f1 p.f1.f2 p.f1.f3.f0 p.f1.f3.f1 p.f2 p.f3 p.f4 p.f5 s x.f0 x.f1 x.f2 x.f3 x.f4 x.f5 q.f0 q.f1 q.f2 q.f3 q.f4 q.f5) ((askV p s x q).1.f0, (askV p s x q).1.f1.f0, (askV p s x q).1.f1.f1, (askV p s x q).1.f1.f2, (askV p s x q).1.f1.f3.f0, (askV p s x q).1.f1.f3.f1, (askV p s x q).1.f2, (askV p s x q).1.f3, (askV p s x q).1.f4, (askV p s x q).1.f5, (askV p s x q).2) := by
 obtain ⟨h1, hl, hp, h2, h3, h5⟩ := ptN h
 unfold Xu.f askV askG
 refine Ev.bind (Ul p h) ?_
 simp only [WE, Option.bind_some]
 by_cases c1 : reqB q.f0 q.f1 q.f2 q.f3 q.f4 q.f5 = true
 ·simp only [if_pos c1, c1, Bool.true_and]
  refine Ev.bind (W9 s x q.f5) ?_
  by_cases c2 : chkB s x q.f5 = true
  ·simp only [if_pos c2, c2, Bool.true_and, decide_eq_true_eq]
   by_cases c3 : x.f1 = q.f1
   ·simp only [if_pos c3, Va, Option.bind_some]
    by_cases c4 : freshV p.f4 q.f5 10 = true
    ·simp only [if_pos c4]
     refine Ev.bind (Vb p.f3 x.f0 q.f5 h3) ?_
     by_cases c5 : inB (revAt p.f3 x.f0) 0 q.f5 = true
     ·simp only [if_pos c5]; exact Ev.now _
     ·simp only [if_neg c5]
      refine Ev.bind (Up p.f5 q h5) ?_
      by_cases c6 : idxV (savedP q) p.f5 0 ≥ 0
      ·simp only [if_pos c6]
       have := (idxV_in _ p.f5 (show ¬ idxV (savedP q) p.f5 0 < 0 by omega)).2
       exact Ev.pos (by omega) (Ev.now _)
      ·simp only [if_neg c6]
       refine Ev.bind (VH p.f1.f2 p.f2 p.f1.f3.f0 p.f1.f3.f1 q 10 hl h2 hp) ?_
       exact Ev.bind (UH p.f5 (ptSave p q) h5) (Ev.now _)
    ·simp only [if_neg c4]; exact Ev.now _
   ·simp only [if_neg c3]; exact Ev.now _
  ·simp only [if_neg c2, eq_false_of_ne_true c2, Bool.false_and, Bool.false_eq_true, if_false]; exact Ev.now _
 ·simp only [if_neg c1, eq_false_of_ne_true c1, Bool.false_and, Bool.false_eq_true, if_false]; exact Ev.now _
theorem Ur (l m : List S109) (h : l.length ≤ 1048576) : Ev (fun k => Z1.f k l m) (decide (l.length = m.length) && allZ eqT109 l m) := by
 unfold Z1.f
 refine Ev.dlen fun c => ev_allz eqT109 l m c (fun k i => Z1.l0 k l m (l.length : Int) i) ?_ ?_
 ·refine Ev.succ ?_
  simp only [Z1.l0, Int.lt_irrefl, if_false]
  exact Ev.now _
 ·intro i x y r hx hy hr
  have hi := lt_of_get hx
  have h1 : ((i : Int) < (l.length : Int)) = True := eq_true (by omega)
  have h2 : (0 ≤ (i : Int)) = True := eq_true (by omega)
  have h3 : ((i : Int) < (m.length : Int)) = True := eq_true (by omega)
  refine Ev.succ ?_
  simp only [Z1.l0, h1, h2, h3, if_true, WI hx, WI hy, wr1 hi (by omega)]
  exact Ev.eqv (congrArg (· && r) (by rw [Bool.eq_iff_iff]; simp [eqT109])) (Ev.dand fun _ => hr)
mutual
def eqC : S114 → S114 → Bool
 | ⟨a, b, c, l⟩, ⟨a', b', c', l'⟩ => decide (a = a') && (decide (b = b') && (decide (c = c') && (decide (l.length = l'.length) && eqCL l l')))
def eqCL : List S114 → List S114 → Bool
 | [], _ => true
 | _ :: _, [] => true
 | x :: xs, y :: ys => eqC x y && eqCL xs ys
end
theorem eqCL_allZ : ∀ l m : List S114, eqCL l m = allZ eqC l m
 | [], m => by cases m <;> simp [eqCL, allZ]
 | _ :: _, [] => by simp [eqCL, allZ]
 | x :: xs, y :: ys => by simp only [eqCL, allZ, eqCL_allZ xs ys]
theorem eqC_f (x y : S114) : eqC x y = (decide (x.f0 = y.f0) && (decide (x.f1 = y.f1) && (decide (x.f2 = y.f2) && (decide (x.f3.length = y.f3.length) && allZ eqC x.f3 y.f3)))) := by
 cases x; cases y
 simp only [eqC, eqCL_allZ]
def eqR (x y : S116) : Bool := decide (x.f0 = y.f0) && (decide (x.f1 = y.f1) && (decide (x.f2 = y.f2) && eqC x.f3 y.f3))
def eqPol (a : Int) (l : List S116) (b : Int) (m : List S116) : Bool := decide (a = b) && (decide (l.length = m.length) && allZ eqR l m)
theorem rule_le {l : List S116} {x : S116} (h : x ∈ l) : n114 x.f3 ≤ (l.map n116).sum := by
 obtain ⟨j, hj⟩ := List.getElem?_of_mem h
 have := le_sum n116 hj
 simpa only [n116] using this
theorem VJ (N : Nat) : ∀ x y : S114, n114 x ≤ N → N ≤ 1048576 → Ev (fun k => Yu.f k x.f0 x.f1 x.f2 x.f3 y.f0 y.f1 y.f2 y.f3) (eqC x y) := by
 induction N using Nat.strongRecOn with
 | _ N ih =>
 intro x y h hN
 rw [n114_f] at h
 rw [eqC_f]
 refine Ev.succ ?_
 simp only [Yu.f]
 refine Ev.dand fun _ => Ev.dand fun _ => Ev.dand fun _ => Ev.bid ?_
 refine Ev.succ ?_
 simp only [Zg.f]
 refine Ev.dlen fun c => ev_allz eqC x.f3 y.f3 c (fun k i => Zg.l0 k y.f3 x.f3 (x.f3.length : Int) i) ?_ ?_
 ·refine Ev.succ ?_
  simp only [Zg.l0, Int.lt_irrefl, if_false]
  exact Ev.now _
 ·intro i a b r ha hb hr
  have hi := lt_of_get ha
  have hn := le_sum n114 ha
  have h1 : ((i : Int) < (x.f3.length : Int)) = True := eq_true (by omega)
  have h2 : (0 ≤ (i : Int)) = True := eq_true (by omega)
  have h3 : ((i : Int) < (y.f3.length : Int)) = True := eq_true (by omega)
  refine Ev.succ ?_
  simp only [Zg.l0, h1, h2, h3, if_true, Wz ha, Wz hb, wr1 hi (by omega)]
  exact Ev.band (ih (n114 a) (by omega) a b (Nat.le_refl _) (by omega)) (fun _ => hr)
theorem V4 (x y : S114) (h : n114 x ≤ 1048576) : Ev (fun k => Yu.f k x.f0 x.f1 x.f2 x.f3 y.f0 y.f1 y.f2 y.f3) (eqC x y) := VJ _ x y (Nat.le_refl _) h
theorem V5 (x y : S116) (h : n114 x.f3 ≤ 1048576) : Ev (fun k => YX.f k x.f0 x.f1 x.f2 x.f3.f0 x.f3.f1 x.f3.f2 x.f3.f3 y.f0 y.f1 y.f2 y.f3.f0 y.f3.f1 y.f3.f2 y.f3.f3) (eqR x y) := by
 unfold YX.f eqR
 exact Ev.dand fun _ => Ev.dand fun _ => Ev.dand fun _ => Ev.bid (V4 x.f3 y.f3 h)
theorem Vv (a : Int) (l : List S116) (b : Int) (m : List S116) (h : l.length + (l.map n116).sum ≤ 1048576) : Ev (fun k => Yq.f k a l b m) (eqPol a l b m) := by
 unfold Yq.f eqPol
 refine Ev.dand fun _ => Ev.bid ?_
 unfold Zh.f
 refine Ev.dlen fun c => ev_allz eqR l m c (fun k i => Zh.l0 k m l (l.length : Int) i) ?_ ?_
 ·refine Ev.succ ?_
  simp only [Zh.l0, Int.lt_irrefl, if_false]
  exact Ev.now _
 ·intro i x y r hx hy hr
  have hi := lt_of_get hx
  have h1 : ((i : Int) < (l.length : Int)) = True := eq_true (by omega)
  have h2 : (0 ≤ (i : Int)) = True := eq_true (by omega)
  have h3 : ((i : Int) < (m.length : Int)) = True := eq_true (by omega)
  refine Ev.succ ?_
  simp only [Zh.l0, h1, h2, h3, if_true, WC hx, WC hy, wr1 hi (by omega)]
  exact Ev.band (V5 x y (by have := rule_le (List.mem_of_getElem? hx); omega)) (fun _ => hr)
def eqEp (a0 a1 : Int) (l2 : List S109) (a3 : Int) (l4 : List S116) (b0 b1 : Int) (m2 : List S109) (b3 : Int) (m4 : List S116) : Bool := decide (a0 = b0) && (decide (a1 = b1) && ((decide (l2.length = m2.length) && allZ eqT109 l2 m2) && eqPol a3 l4 b3 m4))
theorem VK (a0 a1 : Int) (l2 : List S109) (a3 : Int) (l4 : List S116) (b0 b1 : Int) (m2 : List S109) (b3 : Int) (m4 : List S116) (h2 : l2.length ≤ 1048576) (h4 : l4.length + (l4.map n116).sum ≤ 1048576) : Ev (fun k => YS.f k a0 a1 l2 a3 l4 b0 b1 m2 b3 m4) (eqEp a0 a1 l2 a3 l4 b0 b1 m2 b3 m4) := by
 unfold YS.f eqEp
 exact Ev.dand fun _ => Ev.dand fun _ => Ev.band (Ur l2 m2 h2) fun _ => Ev.bid (Vv a3 l4 b3 m4 h4)
theorem Us (l m : List S100) (h : l.length ≤ 1048576) : Ev (fun k => Z2.f k l m) (decide (l.length = m.length) && allZ eqT100 l m) := by
 unfold Z2.f
 refine Ev.dlen fun c => ev_allz eqT100 l m c (fun k i => Z2.l0 k l m (l.length : Int) i) ?_ ?_
 ·refine Ev.succ ?_
  simp only [Z2.l0, Int.lt_irrefl, if_false]
  exact Ev.now _
 ·intro i x y r hx hy hr
  have hi := lt_of_get hx
  have h1 : ((i : Int) < (l.length : Int)) = True := eq_true (by omega)
  have h2 : (0 ≤ (i : Int)) = True := eq_true (by omega)
  have h3 : ((i : Int) < (m.length : Int)) = True := eq_true (by omega)
  refine Ev.succ ?_
  simp only [Z2.l0, h1, h2, h3, if_true, Wu hx, Wu hy, wr1 hi (by omega)]
  exact Ev.eqv (congrArg (· && r) (by rw [Bool.eq_iff_iff]; simp [eqT100])) (Ev.dand fun _ => hr)
theorem VM (l m : List S100) (h : l.length ≤ 1048576) : Ev (fun k => YT.f k l m) (decide (l.length = m.length) && allZ eqT100 l m) := by
 unfold YT.f
 exact Ev.bid (Us l m h)
theorem Ut (l m : List S82) (h : l.length ≤ 1048576) : Ev (fun k => Z3.f k l m) (decide (l.length = m.length) && allZ eqT82 l m) := by
 unfold Z3.f
 refine Ev.dlen fun c => ev_allz eqT82 l m c (fun k i => Z3.l0 k l m (l.length : Int) i) ?_ ?_
 ·refine Ev.succ ?_
  simp only [Z3.l0, Int.lt_irrefl, if_false]
  exact Ev.now _
 ·intro i x y r hx hy hr
  have hi := lt_of_get hx
  have h1 : ((i : Int) < (l.length : Int)) = True := eq_true (by omega)
  have h2 : (0 ≤ (i : Int)) = True := eq_true (by omega)
  have h3 : ((i : Int) < (m.length : Int)) = True := eq_true (by omega)
  refine Ev.succ ?_
  simp only [Z3.l0, h1, h2, h3, if_true, WA hx, WA hy, wr1 hi (by omega)]
  exact Ev.eqv (congrArg (· && r) (by rw [Bool.eq_iff_iff]; simp [eqT82])) (Ev.dand fun _ => hr)
theorem Uu (l m : List S62) (h : l.length ≤ 1048576) : Ev (fun k => Z4.f k l m) (decide (l.length = m.length) && allZ eqT62 l m) := by
 unfold Z4.f
 refine Ev.dlen fun c => ev_allz eqT62 l m c (fun k i => Z4.l0 k l m (l.length : Int) i) ?_ ?_
 ·refine Ev.succ ?_
  simp only [Z4.l0, Int.lt_irrefl, if_false]
  exact Ev.now _
 ·intro i x y r hx hy hr
  have hi := lt_of_get hx
  have h1 : ((i : Int) < (l.length : Int)) = True := eq_true (by omega)
  have h2 : (0 ≤ (i : Int)) = True := eq_true (by omega)
  have h3 : ((i : Int) < (m.length : Int)) = True := eq_true (by omega)
  refine Ev.succ ?_
  simp only [Z4.l0, h1, h2, h3, if_true, WB hx, WB hy, wr1 hi (by omega)]
  exact Ev.eqv (congrArg (· && r) (by rw [Bool.eq_iff_iff]; simp [eqT62])) (Ev.dand fun _ => hr)
def rowB {α : Type} (p : α → α → Bool) (l m : List α) : Bool := decide (l.length = m.length) && allZ p l m
def eqPt (x y : S34) : Bool := decide (x.f0 = y.f0) && (decide (x.f4 = y.f4) && (eqEp x.f1.f0 x.f1.f1 x.f1.f2 x.f1.f3.f0 x.f1.f3.f1 y.f1.f0 y.f1.f1 y.f1.f2 y.f1.f3.f0 y.f1.f3.f1 && (rowB eqT100 x.f2 y.f2 && (rowB eqT82 x.f3 y.f3 && rowB eqT62 x.f5 y.f5))))
theorem point_le (x : S34) (h : n34 x ≤ 1048576) : x.f1.f2.length ≤ 1048576 ∧ x.f1.f3.f1.length + (x.f1.f3.f1.map n116).sum ≤ 1048576 ∧ x.f2.length ≤ 1048576 ∧ x.f3.length ≤ 1048576 ∧ x.f5.length ≤ 1048576 := by
 unfold n34 n29 n27 at h
 refine ⟨?_, ?_, ?_, ?_, ?_⟩ <;> omega
theorem and6 (a b c d e f : Bool) : (a && (b && (c && (d && (e && f))))) = (a && (c && (d && (e && (b && f))))) := by cases a <;> cases b <;> cases c <;> cases d <;> cases e <;> cases f <;> rfl
theorem WW (x y : S34) (h : n34 x ≤ 1048576) : Ev (fun k => ZW.f k x.f0 x.f1.f0 x.f1.f1 x.f1.f2 x.f1.f3.f0 x.f1.f3.f1 x.f2 x.f3 x.f4 x.f5 y.f0 y.f1.f0 y.f1.f1 y.f1.f2 y.f1.f3.f0 y.f1.f3.f1 y.f2 y.f3 y.f4 y.f5) (eqPt x y) := by
 obtain ⟨h2, h4, h6, h7, h9⟩ := point_le x h
 unfold ZW.f eqPt
 rw [and6]
 unfold rowB
 exact Ev.dand fun _ => Ev.band (VK _ _ _ _ _ _ _ _ _ _ h2 h4) fun _ => Ev.band (VM _ _ h6) fun _ => Ev.band (Ut _ _ h7) fun _ => Ev.dand fun _ => Ev.bid (Uu _ _ h9)
theorem UI (l : List S109) (h : l.length ≤ 1048576) : Ev (fun k => Yd.f k l) (pairsB l) := by
 have hb := fun r hr => below_spec l r hr 8 (by omega)
 have e0 : (l.all (fun x => roleB x.f0 && (roleB x.f1 && !mkR ((bfsX l 8 [x.f0] (List.replicate 6 false)).getD []) x.f0)) && decide ((l.length : Int) ≤ 10)) = pairsB l := by
  rw [pairs_alike l]
  ·rfl
  intro x
  simp only [Bool.and_eq_true, Bool.not_eq_true']
  constructor
  ·rintro ⟨h1, h2, h3⟩
   obtain ⟨m, e, _, hm⟩ := hb x.f0 h1
   rw [e, Option.getD_some] at h3
   exact ⟨h1, h2, fun hc => by rw [(hm _ h1).2 hc] at h3; cases h3⟩
  ·rintro ⟨h1, h2, h3⟩
   obtain ⟨m, e, _, hm⟩ := hb x.f0 h1
   rw [e, Option.getD_some]
   refine ⟨h1, h2, ?_⟩
   cases hc : mkR m x.f0 with
   | false => rfl
   | true => exact absurd ((hm _ h1).1 hc) h3
 rw [← e0]
 unfold Yd.f
 have key : ∀ (d i : Nat), i + d = l.length → Ev (fun k => Yd.l0 k l l (l.length : Int) (i : Int)) ((l.drop i).all (fun x => roleB x.f0 && (roleB x.f1 && !mkR ((bfsX l 8 [x.f0] (List.replicate 6 false)).getD []) x.f0)) && decide ((l.length : Int) ≤ 10)) := by
  intro d
  induction d with
  | zero =>
   intro i hi
   obtain rfl : i = l.length := by omega
   refine Ev.succ ?_
   simp only [Yd.l0, Int.lt_irrefl, if_false, List.drop_length, List.all_nil, Bool.true_and]
   exact Ev.now _
  | succ d ih =>
   intro i hi
   have hil : i < l.length := by omega
   obtain ⟨x, hx⟩ := getAt (l := l) (i := i) hil
   have hd : l.drop i = x :: l.drop (i + 1) := by
    rw [List.drop_eq_getElem_cons hil]
    rw [List.getElem?_eq_getElem hil] at hx
    rw [Option.some.inj hx]
   have h1 : ((i : Int) < (l.length : Int)) = True := eq_true (by omega)
   have h2 : (0 ≤ (i : Int)) = True := eq_true (by omega)
   have ih := ih (i + 1) (by omega)
   rw [hd, List.all_cons]
   refine Ev.succ ?_
   simp only [Yd.l0, h1, h2, if_true, WI hx, wr1 hil (by omega), isRole_role, Option.bind_some]
   cases q1 : roleB x.f0 with
   | false => simp only [Bool.false_eq_true, if_false, Bool.false_and]; exact Ev.now _
   | true =>
    cases q2 : roleB x.f1 with
    | false => simp only [Bool.false_eq_true, if_false, if_true, Bool.false_and, Bool.true_and]; exact Ev.now _
    | true =>
     obtain ⟨r0, r1, r2, r3, r4, r5, ev, eb⟩ := VX l h x.f0 q1
     simp only [if_true, Bool.true_and, eb, Option.getD_some]
     refine Ev.bind ev ?_
     have hr' := roleB_iff.1 q1
     have hc : x.f0 = 0 ∨ x.f0 = 1 ∨ x.f0 = 2 ∨ x.f0 = 3 ∨ x.f0 = 4 ∨ x.f0 = 5 := by omega
     have fin : ∀ (b : Bool), mkR [r0, r1, r2, r3, r4, r5] x.f0 = b → Ev (fun k => if b = true then some false else Yd.l0 k l l (l.length : Int) ((i + 1 : Nat) : Int)) ((!mkR [r0, r1, r2, r3, r4, r5] x.f0 && (l.drop (i + 1)).all (fun x => roleB x.f0 && (roleB x.f1 && !mkR ((bfsX l 8 [x.f0] (List.replicate 6 false)).getD []) x.f0))) && decide ((l.length : Int) ≤ 10)) := by
      intro b hb
      rw [hb]
      cases b with
      | true => simp only [if_true, Bool.not_true, Bool.false_and]; exact Ev.now _
      | false => simp only [Bool.false_eq_true, if_false, Bool.not_false, Bool.true_and]; exact ih
     rcases hc with e | e | e | e | e | e <;> simp only [e, if_true, Int.reduceEq, if_false] <;> (rw [e] at fin) <;> exact fin _ rfl
 have := key l.length 0 (by omega)
 rwa [List.drop_zero] at this
def epochB (e : S29) : Bool := inB e.f0 0 999 && (timeB e.f1 && (pairsB e.f2 && (policyB e.f3 && (e.f3.f0 == e.f0))))
def epochQ (y x : S29) : Bool := !decide (y.f0 ≥ x.f0) && !decide (y.f1 > x.f1)
def epochsB (l : List S29) : Bool := adjB epochB epochQ l && decide ((l.length : Int) ≤ 6)
theorem epochQ_step {y x : S29} {g : Nat → Option Bool} {r : Bool} (h : epochQ y x = true → Ev g r) : Ev (fun k => if y.f0 ≥ x.f0 then some false else if y.f1 > x.f1 then some false else g k) (epochQ y x && r) := by
 unfold epochQ at h ⊢
 rw [Bool.and_assoc]
 exact Ev.dnot fun a => Ev.dnot fun b => h (by rw [decide_eq_false a, decide_eq_false b]; rfl)
theorem U8 (e : S29) (h : n29 e ≤ 1048576) : Ev (fun k => X4.f k e.f0 e.f1 e.f2 e.f3.f0 e.f3.f1) (epochB e) := by
 unfold n29 at h
 unfold X4.f epochB
 simp only [X8, Wy, Option.bind_some]
 exact Ev.bifT fun _ => Ev.bifT fun _ => Ev.band (UI e.f2 (by omega)) fun _ => Ev.band (WR e.f3 (by omega)) fun _ => Ev.now _
def cmp4 (a b c d a' b' c' d' : Int) : Int := if a < a' then -1 else if a > a' then 1 else if b < b' then -1 else if b > b' then 1 else if c < c' then -1 else if c > c' then 1 else if d < d' then -1 else if d > d' then 1 else 0
theorem Vw (a b c d e f a' b' c' d' e' f' : Int) : Ev (fun k => Za.f k a b c d e f a' b' c' d' e' f') (cmp4 a b c d a' b' c' d') := by
 have st : ∀ {g h : Nat → Option Int} {x y r : Int}, Ev g r → (∀ k, h (k + 1) = if x < y then some (-1) else if x > y then some 1 else g k) → Ev h (if x < y then -1 else if x > y then 1 else r) := by
  intro g h x y r hg e
  refine Ev.succ (Ev.eqv rfl ?_)
  simp only [e]
  refine Ev.ite (fun c1 => ?_) (fun c1 => Ev.ite (fun c2 => ?_) (fun c2 => ?_))
  ·rw [if_pos c1]; exact Ev.now _
  ·rw [if_neg c1, if_pos c2]; exact Ev.now _
  ·rw [if_neg c1, if_neg c2]; exact hg
 have w0 : wrap64 1 = 1 := wr (by omega) (by omega)
 have w1 : wrap64 2 = 2 := wr (by omega) (by omega)
 have w2 : wrap64 3 = 3 := wr (by omega) (by omega)
 have w3 : wrap64 4 = 4 := wr (by omega) (by omega)
 have h4 : Ev (fun k => Za.l0 k a b c d a' b' c' d' 4) 0 := by
  refine Ev.succ ?_
  simp only [Za.l0, Int.lt_irrefl, if_false]
  exact Ev.now _
 have h3 := st (h := fun k => Za.l0 k a b c d a' b' c' d' 3) (x := d) (y := d') h4 (fun k => by simp [Za.l0, w3])
 have h2 := st (h := fun k => Za.l0 k a b c d a' b' c' d' 2) (x := c) (y := c') h3 (fun k => by simp [Za.l0, w2])
 have h1 := st (h := fun k => Za.l0 k a b c d a' b' c' d' 1) (x := b) (y := b') h2 (fun k => by simp [Za.l0, w1])
 exact st (h := fun k => Za.l0 k a b c d a' b' c' d' 0) (x := a) (y := a') h1 (fun k => by simp [Za.l0, w0])
theorem V6 (y x : S100) : Ev (fun k => Y8.f k y.f0 y.f1 y.f2 y.f3 y.f4 y.f5 x.f0 x.f1 x.f2 x.f3 x.f4 x.f5) (factQ y x) := by
 unfold Y8.f
 refine Ev.bind (Vw _ _ _ _ _ _ _ _ _ _ _ _) (Ev.eqv ?_ (Ev.now _))
 unfold cmp4 factQ
 rw [Bool.eq_iff_iff]
 (repeat' split) <;> simp only [decide_eq_true_eq] <;> omega
theorem U9 (l : List S100) (h : l.length ≤ 1048576) : Ev (fun k => YI.f k l) (storeB l) := by
 unfold YI.f storeB
 refine ev_adj l factB factQ _ (fun k i => YI.l0 k l l (l.length : Int) i) ?_ ?_ ?_
 ·refine Ev.succ ?_
  simp only [YI.l0, Int.lt_irrefl, if_false]
  exact Ev.now _
 ·intro x r hx hr
  have hi := lt_of_get hx
  have h1 : ((0 : Int) < (l.length : Int)) = True := eq_true (by omega)
  have e := Wu hx
  have e2 := wr1 hi (show l.length ≤ 9223372036854775807 by omega)
  simp only [Int.ofNat_zero, Int.natCast_zero] at e e2
  refine Ev.succ ?_
  simp only [YI.l0, h1, if_true, Int.le_refl, gt_iff_lt, Int.lt_irrefl, if_false, e, e2, W4, Option.bind_some]
  exact Ev.bifT fun _ => hr
 ·intro i y x r hy hx hr
  have hi := lt_of_get hx
  have h1 : (((i + 1 : Nat) : Int) < (l.length : Int)) = True := eq_true (by omega)
  have h2 : (0 ≤ ((i + 1 : Nat) : Int)) = True := eq_true (by omega)
  have h3 : (((i + 1 : Nat) : Int) > 0) = True := eq_true (by omega)
  have h4 : (0 ≤ (i : Int)) = True := eq_true (by omega)
  have h5 : ((i : Int) < (l.length : Int)) = True := eq_true (by omega)
  refine Ev.succ ?_
  simp only [YI.l0, h1, h2, h3, h4, h5, if_true, Wu hx, Wu hy, wr1 hi (show l.length ≤ 9223372036854775807 by omega), wrp hi (show l.length ≤ 9223372036854775807 by omega), W4, Option.bind_some]
  exact Ev.bifT fun _ => Ev.band (V6 y x) fun _ => hr
theorem V7 (l : List S82) (h : l.length ≤ 1048576) : Ev (fun k => Z0.f k l) (revB l) := by
 unfold Z0.f revB
 refine ev_adj l revP revQ _ (fun k i => Z0.l0 k l l (l.length : Int) i) ?_ ?_ ?_
 ·refine Ev.succ ?_
  simp only [Z0.l0, Int.lt_irrefl, if_false]
  exact Ev.now _
 ·intro x r hx hr
  have hi := lt_of_get hx
  have h1 : ((0 : Int) < (l.length : Int)) = True := eq_true (by omega)
  have e := WA hx
  have e2 := wr1 hi (show l.length ≤ 9223372036854775807 by omega)
  simp only [Int.ofNat_zero, Int.natCast_zero] at e e2
  refine Ev.succ ?_
  simp only [Z0.l0, h1, if_true, Int.le_refl, gt_iff_lt, Int.lt_irrefl, if_false, e, e2, X8, Wy, Option.bind_some]
  exact revP_step fun _ => hr
 ·intro i y x r hy hx hr
  have hi := lt_of_get hx
  have h1 : (((i + 1 : Nat) : Int) < (l.length : Int)) = True := eq_true (by omega)
  have h2 : (0 ≤ ((i + 1 : Nat) : Int)) = True := eq_true (by omega)
  have h3 : (((i + 1 : Nat) : Int) > 0) = True := eq_true (by omega)
  have h4 : (0 ≤ (i : Int)) = True := eq_true (by omega)
  have h5 : ((i : Int) < (l.length : Int)) = True := eq_true (by omega)
  refine Ev.succ ?_
  simp only [Z0.l0, h1, h2, h3, h4, h5, if_true, WA hx, WA hy, wr1 hi (show l.length ≤ 9223372036854775807 by omega), wrp hi (show l.length ≤ 9223372036854775807 by omega), X8, Wy, Option.bind_some]
  exact revP_step fun _ => Ev.dnot fun _ => hr
theorem VN (p : S34) (y : S62) (h : n34 p ≤ 1048576) : Ev (fun k => ZY.f k p.f0 p.f1.f0 p.f1.f1 p.f1.f2 p.f1.f3.f0 p.f1.f3.f1 p.f2 p.f3 p.f4 p.f5 y.f0.f0 y.f0.f1 y.f0.f2 y.f0.f3 y.f0.f4 y.f0.f5 y.f1 y.f2) (trueB p y) := by
 have hl : p.f1.f2.length ≤ 1048576 := by unfold n34 n29 at h; omega
 have hs : p.f2.length ≤ 1048576 := by unfold n34 at h; omega
 have hp : nPol p.f1.f3.f1 ≤ 1048576 := by unfold n34 n29 n27 at h; unfold nPol; omega
 unfold ZY.f trueB
 simp only [WE, Option.bind_some]
 refine Ev.bifT fun c => ?_
 have ht : 0 ≤ y.f0.f5 ∧ y.f0.f5 ≤ 10000 := by
  unfold reqB at c
  simp only [Bool.and_eq_true] at c
  exact timeAt c.2.2.2.2.2
 have w1 : wrap64 (y.f0.f5 + 10) = y.f0.f5 + 10 := wr (by omega) (by omega)
 refine Ev.dnot fun _ => ?_
 simp only [w1, X8, Option.bind_some]
 refine Ev.bifT fun c0 => ?_
 have c1 := inB_iff.1 c0
 have key : ∀ (n : Nat) (t : Int), (n : Int) = y.f2 + 1 - t → 0 ≤ t → Ev (fun k => ZY.l0 k p.f0 p.f1.f0 p.f1.f1 p.f1.f2 p.f1.f3.f0 p.f1.f3.f1 p.f2 p.f3 p.f4 p.f5 y.f0.f0 y.f0.f1 y.f0.f2 y.f0.f3 y.f0.f4 y.f0.f5 y.f1 y.f2 t) (staysB p y n t) := by
  intro n
  induction n with
  | zero =>
   intro t e h0
   refine Ev.succ ?_
   simp only [ZY.l0]
   exact Ev.neg (by omega) (Ev.now _)
  | succ n ih =>
   intro t e h0
   have w2 : wrap64 (t + 1) = t + 1 := wr (by omega) (by omega)
   refine Ev.succ ?_
   simp only [ZY.l0, XA.f, Option.bind_some, w2]
   refine Ev.pos (by omega) (Ev.bind (WG p.f1.f2 p.f2 p.f1.f3.f0 p.f1.f3.f1 (atT y.f0 t) hl hs hp) ?_)
   exact Ev.dand fun _ => ih (t + 1) (by omega) (by omega)
 exact key _ _ (by omega) ht.1
def newPt (n : Int) : S34 := ⟨n, ⟨0, 0, [], ⟨0, []⟩⟩, [], [], -1, []⟩
def pointB (p : S34) : Bool := if p.f4 = -1 then eqPt p (newPt p.f0) else timeB p.f4 && (epochB p.f1 && (storeB p.f2 && (revB p.f3 && (decide ((p.f5.length : Int) ≤ 8) && p.f5.all (trueB p)))))
theorem point_le2 (p : S34) (h : n34 p ≤ 1048576) : n29 p.f1 ≤ 1048576 ∧ p.f2.length ≤ 1048576 ∧ p.f3.length ≤ 1048576 ∧ p.f5.length ≤ 1048576 := by
 unfold n34 at h
 refine ⟨?_, ?_, ?_, ?_⟩ <;> omega
theorem Vp (p : S34) (h : n34 p ≤ 1048576) : Ev (fun k => Xt.f k p.f0 p.f1.f0 p.f1.f1 p.f1.f2 p.f1.f3.f0 p.f1.f3.f1 p.f2 p.f3 p.f4 p.f5) (pointB p) := by
 obtain ⟨h1, h2, h3, h5⟩ := point_le2 p h
 unfold Xt.f pointB
 refine Ev.ite (fun c => ?_) (fun c => ?_)
 ·rw [if_pos c]
  simp only [XJ.f, Option.bind_some]
  exact Ev.bid (WW p (newPt p.f0) h)
 ·rw [if_neg c]
  simp only [Wy, Option.bind_some]
  refine Ev.bifT fun _ => Ev.band (U8 p.f1 h1) fun _ => Ev.band (U9 p.f2 h2) fun _ => Ev.band (V7 p.f3 h3) fun _ => Ev.dand fun _ => ?_
  have hI : Ev (fun k => Zs.f k p.f5 p.f0 p.f1.f0 p.f1.f1 p.f1.f2 p.f1.f3.f0 p.f1.f3.f1 p.f2 p.f3 p.f4 p.f5) (idxV (fun x => !trueB p x) p.f5 0) := by
   unfold Zs.f
   refine idx_ev (fun k i => Zs.l0 k p.f5 p.f0 p.f1.f0 p.f1.f1 p.f1.f2 p.f1.f3.f0 p.f1.f3.f1 p.f2 p.f3 p.f4 p.f5 (p.f5.length : Int) i) (fun x => !trueB p x) p.f5 0 p.f5.length (by omega) ?_ ?_
   ·refine Ev.succ ?_
    simp only [Zs.l0, Int.lt_irrefl, if_false]
    exact Ev.now _
   ·intro j y r _ hx
    rw [Nat.sub_zero] at hx
    have hj := lt_of_get hx
    have e1 : ((j : Int) < (p.f5.length : Int)) = True := eq_true (by omega)
    have e2 : (0 ≤ (j : Int)) = True := eq_true (by omega)
    have hc : Ev (fun k => cl31.f k y.f0.f0 y.f0.f1 y.f0.f2 y.f0.f3 y.f0.f4 y.f0.f5 y.f1 y.f2 p.f0 p.f1.f0 p.f1.f1 p.f1.f2 p.f1.f3.f0 p.f1.f3.f1 p.f2 p.f3 p.f4 p.f5) (!trueB p y) := by
     unfold cl31.f
     exact Ev.bind (VN p y h) (Ev.now _)
    constructor
    ·intro hq
     refine Ev.succ ?_
     simp only [Zs.l0, e1, e2, if_true, WB hx]
     refine Ev.bind hc ?_
     simp only [hq, if_true]
     exact Ev.now _
    ·intro hq he
     refine Ev.succ ?_
     simp only [Zs.l0, e1, e2, if_true, WB hx, wr1 hj (by omega)]
     refine Ev.bind hc ?_
     simp only [hq, Bool.false_eq_true, if_false]
     exact he
  have hC : Ev (fun k => ZM.f k p.f5 p.f0 p.f1.f0 p.f1.f1 p.f1.f2 p.f1.f3.f0 p.f1.f3.f1 p.f2 p.f3 p.f4 p.f5) (p.f5.any (fun x => !trueB p x)) := by
   unfold ZM.f
   exact Ev.bind hI (Ev.eqv (idxV_anyI (fun x => !trueB p x) p.f5 0 (by omega)) (Ev.now _))
  refine Ev.bind hC (Ev.eqv ?_ (Ev.now _))
  simp [List.any_eq_not_all_not]
theorem UJ (l m : List S109) (h : l.length ≤ 1048576) : Ev (fun k => Yg.f k l m) (decide (l.length = m.length) && allZ eqT109 l m) := by
 unfold Yg.f
 refine Ev.dlen fun c => ev_allz eqT109 l m c (fun k i => Yg.l0 k l m i) ?_ ?_
 ·refine Ev.succ ?_
  simp only [Yg.l0, Int.lt_irrefl, if_false]
  exact Ev.now _
 ·intro i x y r hx hy hr
  have hi := lt_of_get hx
  have h1 : ((i : Int) < (l.length : Int)) = True := eq_true (by omega)
  have h2 : (0 ≤ (i : Int)) = True := eq_true (by omega)
  have h3 : ((i : Int) < (m.length : Int)) = True := eq_true (by omega)
  refine Ev.succ ?_
  simp only [Yg.l0, h1, h2, h3, if_true, WI hx, WI hy, wr1 hi (by omega)]
  exact Ev.eqv (congrArg (· && r) (by rw [Bool.eq_iff_iff]; simp [eqT109])) (Ev.dand fun _ => hr)
theorem VO (N : Nat) : ∀ x y : S114, n114 x ≤ N → N ≤ 1048576 → Ev (fun k => ZA.f k x.f0 x.f1 x.f2 x.f3 y.f0 y.f1 y.f2 y.f3) (eqC x y) := by
 induction N using Nat.strongRecOn with
 | _ N ih =>
 intro x y h hN
 rw [n114_f] at h
 rw [eqC_f]
 refine Ev.succ ?_
 simp only [ZA.f]
 refine Ev.dand fun _ => Ev.dand fun _ => Ev.dand fun _ => Ev.dlen fun c => ?_
 refine ev_allz eqC x.f3 y.f3 c (fun k i => ZA.l0 k x.f0 x.f1 x.f2 x.f3 y.f0 y.f1 y.f2 y.f3 i) ?_ ?_
 ·refine Ev.succ ?_
  simp only [ZA.l0, Int.lt_irrefl, if_false]
  exact Ev.now _
 ·intro i a b r ha hb hr
  have hi := lt_of_get ha
  have hn := le_sum n114 ha
  have h1 : ((i : Int) < (x.f3.length : Int)) = True := eq_true (by omega)
  have h2 : (0 ≤ (i : Int)) = True := eq_true (by omega)
  have h3 : ((i : Int) < (y.f3.length : Int)) = True := eq_true (by omega)
  refine Ev.succ ?_
  simp only [ZA.l0, h1, h2, h3, if_true, Wz ha, Wz hb, wr1 hi (by omega)]
  exact Ev.band (ih (n114 a) (by omega) a b (Nat.le_refl _) (by omega)) (fun _ => hr)
theorem V8 (x y : S114) (h : n114 x ≤ 1048576) : Ev (fun k => ZA.f k x.f0 x.f1 x.f2 x.f3 y.f0 y.f1 y.f2 y.f3) (eqC x y) := VO _ x y (Nat.le_refl _) h
theorem Vx (a : Int) (l : List S116) (b : Int) (m : List S116) (h : l.length + (l.map n116).sum ≤ 1048576) : Ev (fun k => Zy.f k a l b m) (eqPol a l b m) := by
 unfold Zy.f eqPol
 refine Ev.dand fun _ => Ev.dlen fun c => ?_
 refine ev_allz eqR l m c (fun k i => Zy.l0 k a l b m i) ?_ ?_
 ·refine Ev.succ ?_
  simp only [Zy.l0, Int.lt_irrefl, if_false]
  exact Ev.now _
 ·intro i x y r hx hy hr
  have hi := lt_of_get hx
  have hn := rule_le (List.mem_of_getElem? hx)
  have h1 : ((i : Int) < (l.length : Int)) = True := eq_true (by omega)
  have h2 : (0 ≤ (i : Int)) = True := eq_true (by omega)
  have h3 : ((i : Int) < (m.length : Int)) = True := eq_true (by omega)
  refine Ev.succ ?_
  simp only [Zy.l0, h1, h2, h3, if_true, WC hx, WC hy, wr1 hi (by omega), eqR, Bool.and_assoc]
  exact Ev.dand fun _ => Ev.dand fun _ => Ev.dand fun _ => Ev.band (V8 x.f3 y.f3 (by omega)) (fun _ => hr)
theorem VP (a0 a1 : Int) (l2 : List S109) (a3 : Int) (l4 : List S116) (b0 b1 : Int) (m2 : List S109) (b3 : Int) (m4 : List S116) (h2 : l2.length ≤ 1048576) (h4 : l4.length + (l4.map n116).sum ≤ 1048576) : Ev (fun k => YU.f k a0 a1 l2 a3 l4 b0 b1 m2 b3 m4) (eqEp a0 a1 l2 a3 l4 b0 b1 m2 b3 m4) := by
 unfold YU.f eqEp
 exact Ev.dand fun _ => Ev.dand fun _ => Ev.band (UJ l2 m2 h2) fun _ => Ev.bid (Vx a3 l4 b3 m4 h4)
theorem VQ (l m : List S100) (h : l.length ≤ 1048576) : Ev (fun k => ZI.f k l m) (decide (l.length = m.length) && allZ eqT100 l m) := by
 unfold ZI.f
 refine Ev.dlen fun c => ev_allz eqT100 l m c (fun k i => ZI.l0 k l m i) ?_ ?_
 ·refine Ev.succ ?_
  simp only [ZI.l0, Int.lt_irrefl, if_false]
  exact Ev.now _
 ·intro i x y r hx hy hr
  have hi := lt_of_get hx
  have h1 : ((i : Int) < (l.length : Int)) = True := eq_true (by omega)
  have h2 : (0 ≤ (i : Int)) = True := eq_true (by omega)
  have h3 : ((i : Int) < (m.length : Int)) = True := eq_true (by omega)
  refine Ev.succ ?_
  simp only [ZI.l0, h1, h2, h3, if_true, Wu hx, Wu hy, wr1 hi (by omega)]
  exact Ev.eqv (congrArg (· && r) (by rw [Bool.eq_iff_iff]; simp [eqT100])) (Ev.dand fun _ => hr)
theorem V9 (l m : List S82) (h : l.length ≤ 1048576) : Ev (fun k => ZT.f k l m) (decide (l.length = m.length) && allZ eqT82 l m) := by
 unfold ZT.f
 refine Ev.dlen fun c => ev_allz eqT82 l m c (fun k i => ZT.l0 k l m i) ?_ ?_
 ·refine Ev.succ ?_
  simp only [ZT.l0, Int.lt_irrefl, if_false]
  exact Ev.now _
 ·intro i x y r hx hy hr
  have hi := lt_of_get hx
  have h1 : ((i : Int) < (l.length : Int)) = True := eq_true (by omega)
  have h2 : (0 ≤ (i : Int)) = True := eq_true (by omega)
  have h3 : ((i : Int) < (m.length : Int)) = True := eq_true (by omega)
  refine Ev.succ ?_
  simp only [ZT.l0, h1, h2, h3, if_true, WA hx, WA hy, wr1 hi (by omega)]
  exact Ev.eqv (congrArg (· && r) (by rw [Bool.eq_iff_iff]; simp [eqT82])) (Ev.dand fun _ => hr)
theorem UK (l m : List S62) (h : l.length ≤ 1048576) : Ev (fun k => Yh.f k l m) (decide (l.length = m.length) && allZ eqT62 l m) := by
 unfold Yh.f
 refine Ev.dlen fun c => ev_allz eqT62 l m c (fun k i => Yh.l0 k l m i) ?_ ?_
 ·refine Ev.succ ?_
  simp only [Yh.l0, Int.lt_irrefl, if_false]
  exact Ev.now _
 ·intro i x y r hx hy hr
  have hi := lt_of_get hx
  have h1 : ((i : Int) < (l.length : Int)) = True := eq_true (by omega)
  have h2 : (0 ≤ (i : Int)) = True := eq_true (by omega)
  have h3 : ((i : Int) < (m.length : Int)) = True := eq_true (by omega)
  refine Ev.succ ?_
  simp only [Yh.l0, h1, h2, h3, if_true, WB hx, WB hy, wr1 hi (by omega)]
  exact Ev.eqv (congrArg (· && r) (by rw [Bool.eq_iff_iff]; simp [eqT62])) (Ev.dand fun _ => hr)
theorem VR (x y : S34) (h : n34 x ≤ 1048576) : Ev (fun k => YV.f k x.f0 x.f1.f0 x.f1.f1 x.f1.f2 x.f1.f3.f0 x.f1.f3.f1 x.f2 x.f3 x.f4 x.f5 y.f0 y.f1.f0 y.f1.f1 y.f1.f2 y.f1.f3.f0 y.f1.f3.f1 y.f2 y.f3 y.f4 y.f5) (eqPt x y) := by
 obtain ⟨h2, h4, h6, h7, h9⟩ := point_le x h
 unfold YV.f eqPt rowB
 exact Ev.dand fun _ => Ev.dand fun _ => Ev.band (VP _ _ _ _ _ _ _ _ _ _ h2 h4) fun _ => Ev.band (VQ _ _ h6) fun _ => Ev.band (V9 _ _ h7) fun _ => Ev.bid (UK _ _ h9)
theorem Ta (p : S34) (y : S62) (h : n34 p ≤ 1048576) : Ev (fun k => YM.f k p.f0 p.f1.f0 p.f1.f1 p.f1.f2 p.f1.f3.f0 p.f1.f3.f1 p.f2 p.f3 p.f4 p.f5 y.f0.f0 y.f0.f1 y.f0.f2 y.f0.f3 y.f0.f4 y.f0.f5 y.f1 y.f2) (trueB p y) := by
 have hl : p.f1.f2.length ≤ 1048576 := by unfold n34 n29 at h; omega
 have hs : p.f2.length ≤ 1048576 := by unfold n34 at h; omega
 have hp : nPol p.f1.f3.f1 ≤ 1048576 := by unfold n34 n29 n27 at h; unfold nPol; omega
 unfold YM.f trueB
 simp only [WH, Option.bind_some]
 refine Ev.bifT fun c => ?_
 have ht : 0 ≤ y.f0.f5 ∧ y.f0.f5 ≤ 10000 := by
  unfold reqB at c
  simp only [Bool.and_eq_true] at c
  exact timeAt c.2.2.2.2.2
 have w1 : wrap64 (y.f0.f5 + 10) = y.f0.f5 + 10 := wr (by omega) (by omega)
 refine Ev.dnot fun _ => ?_
 by_cases c1 : y.f2 < y.f0.f5
 ·have e : inB y.f2 y.f0.f5 (y.f0.f5 + 10) = false := by rw [Bool.eq_false_iff, Ne, inB_iff]; omega
  simp only [if_pos c1, e, Bool.false_and]
  exact Ev.now _
 by_cases c2 : y.f2 > y.f0.f5 + 10
 ·have e : inB y.f2 y.f0.f5 (y.f0.f5 + 10) = false := by rw [Bool.eq_false_iff, Ne, inB_iff]; omega
  simp only [if_neg c1, w1, if_pos c2, e, Bool.false_and]
  exact Ev.now _
 have e : inB y.f2 y.f0.f5 (y.f0.f5 + 10) = true := by rw [inB_iff]; omega
 simp only [if_neg c1, w1, if_neg c2, e, Bool.true_and]
 have key : ∀ (n : Nat) (t : Int), (n : Int) = y.f2 + 1 - t → 0 ≤ t → Ev (fun k => YM.l0 k p.f0 p.f1.f0 p.f1.f1 p.f1.f2 p.f1.f3.f0 p.f1.f3.f1 p.f2 p.f3 p.f4 p.f5 y.f0.f0 y.f0.f1 y.f0.f2 y.f0.f3 y.f0.f4 y.f0.f5 y.f1 y.f2 t) (staysB p y n t) := by
  intro n
  induction n with
  | zero =>
   intro t e h0
   refine Ev.succ ?_
   simp only [YM.l0]
   exact Ev.neg (by omega) (Ev.now _)
  | succ n ih =>
   intro t e h0
   have w2 : wrap64 (t + 1) = t + 1 := wr (by omega) (by omega)
   refine Ev.succ ?_
   simp only [YM.l0, Y5.f, Option.bind_some, w2]
   refine Ev.pos (by omega) (Ev.bind (WK p.f1.f2 p.f2 p.f1.f3.f0 p.f1.f3.f1 (atT y.f0 t) hl hs hp) ?_)
   exact Ev.dand fun _ => ih (t + 1) (by omega) (by omega)
 exact key _ _ (by omega) ht.1
theorem UL (l : List S109) (h : l.length ≤ 1048576) : Ev (fun k => Yb.f k l) (pairsB l) := by
 unfold Yb.f pairsB
 have hout : ∀ m, (outV m).length ≤ 1048576 := fun m => by
  unfold outV
  have := List.length_filter_le (fun r => mkR m r) ([0, 1, 2, 3, 4, 5] : List Int)
  simp only [List.length_cons, List.length_nil] at this
  omega
 have hro : ∀ r, (rolesV l r).length ≤ 1048576 := fun r => by
  unfold rolesV
  split
  ·exact hout _
  ·simp
 have key : ∀ d i : Nat, l.length - i = d → i ≤ l.length → Ev (fun k => Yb.l0 k l (i : Int)) ((l.drop i).all (pairP l) && decide ((l.length : Int) ≤ 10)) := by
  intro d
  induction d with
  | zero =>
   intro i hd hi
   obtain rfl : i = l.length := by omega
   refine Ev.succ ?_
   simp only [Yb.l0, Int.lt_irrefl, if_false, List.drop_length, List.all_nil, Bool.true_and]
   exact Ev.now _
  | succ d ih =>
   intro i hd hi
   have hi' : i < l.length := by omega
   have hx : l[i]? = some l[i] := List.getElem?_eq_getElem hi'
   have hr := ih (i + 1) (by omega) (by omega)
   rw [List.drop_eq_getElem_cons hi', List.all_cons, Bool.and_assoc]
   generalize l[i] = x at hx ⊢
   have h1 : ((i : Int) < (l.length : Int)) = True := eq_true (by omega)
   have h2 : (0 ≤ (i : Int)) = True := eq_true (by omega)
   have hj : ∀ (b : Bool) r, Ev (fun k => Yb.l0 k l ((i + 1 : Nat) : Int)) r → Ev (fun k => if b = true then some false else Yb.l0 k l ((i + 1 : Nat) : Int)) (!b && r) := by
    intro b r hr
    cases b with
    | false => exact Ev.neg (by simp) hr
    | true => exact Ev.pos rfl (Ev.now _)
   refine Ev.succ ?_
   simp only [Yb.l0, h1, h2, if_true, WI hx, Wq, Option.bind_some, roleB_in, wr1 hi' (show l.length ≤ 9223372036854775807 by omega)]
   unfold pairP
   cases roleB x.f0 with
   | false => simp only [Bool.false_eq_true, if_false]; exact Ev.now _
   | true =>
    cases roleB x.f1 with
    | false => simp only [Bool.false_eq_true, if_false, if_true]; exact Ev.now _
    | true =>
     simp only [if_true, Bool.true_and]
     refine Ev.bind (W0 l x.f1 h) ?_
     refine Ev.bind (VC _ x.f0 (hro _)) ?_
     exact hj _ _ hr
 exact Ev.eqv (by rw [List.drop_zero]) (key l.length 0 (by omega) (by omega))
theorem Tb (e : S29) (h : n29 e ≤ 1048576) : Ev (fun k => XN.f k e.f0 e.f1 e.f2 e.f3.f0 e.f3.f1) (epochB e) := by
 unfold n29 at h
 unfold XN.f epochB
 simp only [Wq, Wt, Option.bind_some]
 exact Ev.bifT fun _ => Ev.bifT fun _ => Ev.band (UL e.f2 (by omega)) fun _ => Ev.band (WQ e.f3 (by omega)) fun _ => Ev.now _
theorem Tc (p : S34) (h : n34 p ≤ 1048576) : Ev (fun k => Ys.f k p.f0 p.f1.f0 p.f1.f1 p.f1.f2 p.f1.f3.f0 p.f1.f3.f1 p.f2 p.f3 p.f4 p.f5) (pointB p) := by
 obtain ⟨h1, h2, h3, h5⟩ := point_le2 p h
 unfold Ys.f pointB
 refine Ev.ite (fun c => ?_) (fun c => ?_)
 ·rw [if_pos c]
  simp only [Xc.f, Option.bind_some]
  exact Ev.bid (VR p (newPt p.f0) h)
 ·rw [if_neg c]
  have key : ∀ (d i : Nat), p.f5.length - i = d → i ≤ p.f5.length → Ev (fun k => Ys.l0 k p.f0 p.f1.f0 p.f1.f1 p.f1.f2 p.f1.f3.f0 p.f1.f3.f1 p.f2 p.f3 p.f4 p.f5 (i : Int)) ((p.f5.drop i).all (trueB p) && (timeB p.f4 && (epochB p.f1 && (storeB p.f2 && (revB p.f3 && decide ((p.f5.length : Int) ≤ 8)))))) := by
   intro d
   induction d with
   | zero =>
    intro i hd hi
    obtain rfl : i = p.f5.length := by omega
    refine Ev.succ ?_
    simp only [Ys.l0, Int.lt_irrefl, if_false, List.drop_length, List.all_nil, Bool.true_and, Wt, Option.bind_some]
    exact Ev.bifT fun _ => Ev.band (Tb p.f1 h1) fun _ => Ev.band (Vk p.f2 h2) fun _ => Ev.band (WO p.f3 h3) fun _ => Ev.now _
   | succ d ih =>
    intro i hd hi
    have hi' : i < p.f5.length := by omega
    have hx : p.f5[i]? = some p.f5[i] := List.getElem?_eq_getElem hi'
    rw [List.drop_eq_getElem_cons hi', List.all_cons, Bool.and_assoc]
    generalize p.f5[i] = y at hx ⊢
    have e1 : ((i : Int) < (p.f5.length : Int)) = True := eq_true (by omega)
    have e2 : (0 ≤ (i : Int)) = True := eq_true (by omega)
    have e3 := wr1 hi' (show p.f5.length ≤ 9223372036854775807 by omega)
    refine Ev.succ ?_
    simp only [Ys.l0, e1, e2, if_true, WB hx, e3]
    exact Ev.band (Ta p y h) fun _ => ih (i + 1) (by omega) (by omega)
  refine Ev.eqv ?_ (key p.f5.length 0 (by omega) (by omega))
  rw [List.drop_zero]
  cases p.f5.all (trueB p) <;> cases timeB p.f4 <;> cases epochB p.f1 <;> cases storeB p.f2 <;> cases revB p.f3 <;> simp
theorem stays_get (p : S34) (y : S62) : ∀ (n : Nat) (t : Int), staysB p y n t = true ↔ ∀ u, t ≤ u → u < t + (n : Int) → decV p.f1.f2 p.f2 p.f1.f3.f0 p.f1.f3.f1 (atT y.f0 u) = y.f1
 | 0, t => ⟨fun _ u h1 h2 => by omega, fun _ => rfl⟩
 | n + 1, t => by
  rw [staysB, Bool.and_eq_true, stays_get p y n (t + 1), decide_eq_true_eq]
  constructor
  ·rintro ⟨h1, h2⟩ u hu hv
   by_cases c : u = t
   ·rw [c]; exact h1
   ·exact h2 u (by omega) (by omega)
  ·intro h
   exact ⟨h t (Int.le_refl _) (by omega), fun u hu hv => h u (by omega) (by omega)⟩
theorem true_saved (p : S34) (L : List S62) (y : S62) : trueB ⟨p.f0, p.f1, p.f2, p.f3, p.f4, L⟩ y = trueB p y := by
 have e : ∀ (n : Nat) (t : Int), staysB ⟨p.f0, p.f1, p.f2, p.f3, p.f4, L⟩ y n t = staysB p y n t := by
  intro n
  induction n with
  | zero => intro t; rfl
  | succ n ih => intro t; simp only [staysB, ih]
 simp only [trueB, e]
theorem sameQ_atT {a q : S38} (h : sameQ a q = true) : atT a q.f5 = q := by
 unfold sameQ at h
 simp only [Bool.and_eq_true, beq_iff_eq] at h
 obtain ⟨h0, h1, h2, h3, h4⟩ := h
 cases q
 simp only [atT] at *
 rw [h0, h1, h2, h3, h4]
def ptDec (p : S34) (q : S38) : Int := decV p.f1.f2 p.f2 p.f1.f3.f0 p.f1.f3.f1 q
theorem true_dec {p : S34} {y : S62} {q : S38} (h : trueB p y = true) (hs : savedP q y = true) : y.f1 = ptDec p q := by
 unfold trueB at h
 simp only [Bool.and_eq_true] at h
 obtain ⟨_, _, h3, h4⟩ := h
 have h3 := inB_iff.1 h3
 unfold savedP at hs
 simp only [Bool.and_eq_true, decide_eq_true_eq] at hs
 have := (stays_get p y _ _).1 h4 q.f5 hs.2.1 (by omega)
 rw [sameQ_atT hs.1] at this
 exact this.symm
theorem untilL_spec (l : List S109) (s : List S100) (v : Int) (P : List S116) (q : S38) (e : Int) : ∀ (n : Nat) (t : Int), t ≤ untilL l s v P q e n t ∧ (untilL l s v P q e n t ≤ t ∨ untilL l s v P q e n t ≤ e) ∧ ∀ u, t < u → u ≤ untilL l s v P q e n t → decV l s v P (atT q u) = decV l s v P q
 | 0, t => ⟨Int.le_refl _, .inl (Int.le_refl _), fun u h1 h2 => by simp only [untilL] at h2; omega⟩
 | n + 1, t => by
  have ih := untilL_spec l s v P q e n (t + 1)
  unfold untilL
  split
  ·split
   ·rename_i c c2
    obtain ⟨i1, i2, i3⟩ := ih
    refine ⟨by omega, by omega, fun u h1 h2 => ?_⟩
    by_cases c3 : u = t + 1
    ·rw [c3]; exact c2
    ·exact i3 u (by omega) h2
   ·exact ⟨Int.le_refl _, .inl (Int.le_refl _), fun u h1 h2 => by omega⟩
  ·exact ⟨Int.le_refl _, .inl (Int.le_refl _), fun u h1 h2 => by omega⟩
theorem untilV_spec (l : List S109) (s : List S100) (v : Int) (P : List S116) (q : S38) : q.f5 ≤ untilV l s v P q 10 ∧ untilV l s v P q 10 ≤ q.f5 + 10 ∧ ∀ u, q.f5 ≤ u → u ≤ untilV l s v P q 10 → decV l s v P (atT q u) = decV l s v P q := by
 have z : ∀ u, q.f5 ≤ u → u ≤ q.f5 → decV l s v P (atT q u) = decV l s v P q := fun u h1 h2 => by
  obtain rfl : u = q.f5 := by omega
  rfl
 unfold untilV
 repeat' split
 ·obtain ⟨h1, h2, h3⟩ := untilL_spec l s v P q (q.f5 + 10) 60 q.f5
  refine ⟨h1, by omega, fun u g1 g2 => ?_⟩
  by_cases c : u = q.f5
  ·exact z u g1 (by omega)
  ·exact h3 u (by omega) g2
 all_goals exact ⟨Int.le_refl _, by omega, z⟩
theorem fresh_le {a b : Int} (h : freshV a b 10 = true) : timeB a = true ∧ a ≤ b := by
 by_cases c2 : timeB a = true ∧ timeB b = true ∧ a ≤ b
 ·exact ⟨c2.1, c2.2.2⟩
 ·have e : ageV a b = -1 := by unfold ageV; rw [if_neg c2]
  unfold freshV at h
  rw [if_pos e] at h
  cases h
theorem true_new {p : S34} {q : S38} (hr : reqB q.f0 q.f1 q.f2 q.f3 q.f4 q.f5 = true) (hf : freshV p.f4 q.f5 10 = true) : trueB p (ptSave p q) = true := by
 obtain ⟨u1, u2, u3⟩ := untilV_spec p.f1.f2 p.f2 p.f1.f3.f0 p.f1.f3.f1 q
 have hle := (fresh_le hf).2
 unfold trueB
 simp only [Bool.and_eq_true]
 refine ⟨hr, ?_, inB_iff.2 ⟨u1, u2⟩, (stays_get _ _ _ _).2 fun u h1 h2 => ?_⟩
 ·have : ¬ (ptSave p q).f0.f5 < p.f4 := by show ¬ q.f5 < p.f4; omega
  rw [decide_eq_false this]; rfl
 ·have h2' : u < q.f5 + (((untilV p.f1.f2 p.f2 p.f1.f3.f0 p.f1.f3.f1 q 10 + 1 - q.f5).toNat : Nat) : Int) := h2
  exact u3 u h1 (by omega)
theorem putV_fold (x : S62) : ∀ (l s : List S62), ∀ y ∈ l.foldl (putStep x) s, y ∈ s ∨ y ∈ l
 | [], s => fun y h => .inl h
 | z :: l, s => fun y h => by
  rcases putV_fold x l (putStep x s z) y h with h | h
  ·unfold putStep at h
   split at h
   ·exact .inl h
   ·rcases List.mem_append.1 h with h | h
    ·exact .inl h
    ·exact .inr (by rw [List.mem_singleton.1 h]; exact List.mem_cons_self)
  ·exact .inr (List.mem_cons_of_mem _ h)
theorem putV_mem (l : List S62) (x y : S62) (h : y ∈ putV l x) : y ∈ l ∨ y = x := by
 have key : ∀ z ∈ l.foldl (putStep x) [] ++ [x], z ∈ l ∨ z = x := fun z h => by
  rcases List.mem_append.1 h with h | h
  ·rcases putV_fold x l [] z h with h | h
   ·cases h
   ·exact .inl h
  ·exact .inr (List.mem_singleton.1 h)
 unfold putV putEnd at h
 split at h
 ·exact key y (List.mem_of_mem_drop h)
 ·exact key y h
theorem found {p : S34} {q : S38} (h : p.f5.all (trueB p) = true) (hi : idxV (savedP q) p.f5 0 ≥ 0) : (ZB p.f5 (idxV (savedP q) p.f5 0)).f1 = ptDec p q := by
 rcases idxV_spec (savedP q) p.f5 with ⟨h1, _⟩ | ⟨j, x, h1, h2, h3, _⟩
 ·omega
 ·rw [h1, WB h2]
  exact true_dec (List.all_eq_true.1 h x (List.mem_of_getElem? h2)) h3
theorem point_true {p : S34} (h : pointB p = true) (hf : timeB p.f4 = true) : epochB p.f1 = true ∧ storeB p.f2 = true ∧ revB p.f3 = true ∧ p.f5.length ≤ 8 ∧ p.f5.all (trueB p) = true := by
 have ne : ¬ p.f4 = -1 := fun e => by
  rw [e] at hf
  cases hf
 unfold pointB at h
 rw [if_neg ne] at h
 simp only [Bool.and_eq_true, decide_eq_true_eq] at h
 obtain ⟨_, h1, h2, h3, h4, h5⟩ := h
 exact ⟨h1, h2, h3, by omega, h5⟩
theorem askV_bad {p : S34} {s : Int} {x : S36} {q : S38} (h : ¬ (askG s x q = true ∧ freshV p.f4 q.f5 10 = true ∧ inB (revAt p.f3 x.f0) 0 q.f5 = false)) : (askV p s x q).1 = p ∧ (askV p s x q).2 ≠ 1 ∧ (askV p s x q).2 ≠ 0 := by
 unfold askV
 by_cases c1 : askG s x q = true
 ·by_cases c2 : freshV p.f4 q.f5 10 = true
  ·cases c3 : inB (revAt p.f3 x.f0) 0 q.f5 with
   | true => simp [c1, c2]
   | false => exact absurd ⟨c1, c2, c3⟩ h
  ·simp [c1, c2]
 ·simp [c1]
theorem askV_good {p : S34} {s : Int} {x : S36} {q : S38} (hp : pointB p = true) (h1 : askG s x q = true) (h2 : freshV p.f4 q.f5 10 = true) (h3 : inB (revAt p.f3 x.f0) 0 q.f5 = false) : pointB (askV p s x q).1 = true ∧ (askV p s x q).2 = ptDec p q ∧ (askV (askV p s x q).1 s x q).2 = ptDec p q := by
 obtain ⟨t1, t2, t3, t4, t5⟩ := point_true hp (fresh_le h2).1
 have hr : reqB q.f0 q.f1 q.f2 q.f3 q.f4 q.f5 = true := by
  unfold askG at h1
  rw [Bool.and_eq_true] at h1
  exact h1.1
 by_cases c : idxV (savedP q) p.f5 0 ≥ 0
 ·have e : askV p s x q = (p, (ZB p.f5 (idxV (savedP q) p.f5 0)).f1) := by
   unfold askV
   rw [if_pos h1, if_pos h2, if_neg (by rw [h3]; exact Bool.false_ne_true), if_pos c]
  rw [e]
  dsimp only
  rw [e]
  exact ⟨hp, found t5 c, found t5 c⟩
 ·have e : askV p s x q = (⟨p.f0, p.f1, p.f2, p.f3, p.f4, putV p.f5 (ptSave p q)⟩, (ptSave p q).f1) := by
   unfold askV
   rw [if_pos h1, if_pos h2, if_neg (by rw [h3]; exact Bool.false_ne_true), if_neg c]
  rw [e]
  dsimp only
  have hall : (putV p.f5 (ptSave p q)).all (trueB ⟨p.f0, p.f1, p.f2, p.f3, p.f4, putV p.f5 (ptSave p q)⟩) = true := by
   rw [List.all_eq_true]
   intro y hy
   rw [true_saved]
   rcases putV_mem _ _ _ hy with h | h
   ·exact List.all_eq_true.1 t5 y h
   ·rw [h]; exact true_new hr h2
  have ne : ¬ p.f4 = -1 := fun e => by
   have := (fresh_le h2).1
   rw [e] at this
   cases this
  have h8 := putV_len8 p.f5 (ptSave p q) t4
  refine ⟨?_, rfl, ?_⟩
  ·unfold pointB
   rw [if_neg ne]
   simp only [Bool.and_eq_true, decide_eq_true_eq]
   exact ⟨(fresh_le h2).1, t1, t2, t3, by omega, hall⟩
  ·have c2 : idxV (savedP q) (putV p.f5 (ptSave p q)) 0 ≥ 0 := by
    rcases idxV_spec (savedP q) (putV p.f5 (ptSave p q)) with ⟨_, g⟩ | ⟨j, y, g, _⟩
    ·obtain ⟨S, hS⟩ := putV_last p.f5 (ptSave p q)
     have := g (ptSave p q) (by rw [hS]; simp)
     have u := (untilV_spec p.f1.f2 p.f2 p.f1.f3.f0 p.f1.f3.f1 q).1
     unfold savedP at this
     have e1 : sameQ (ptSave p q).f0 q = true := by simp [sameQ, ptSave, saveV]
     have e2 : (ptSave p q).f0.f5 ≤ q.f5 := Int.le_refl _
     have e3 : q.f5 ≤ (ptSave p q).f2 := u
     rw [e1, decide_eq_true e2, decide_eq_true e3] at this
     cases this
    ·omega
   have e2 : askV ⟨p.f0, p.f1, p.f2, p.f3, p.f4, putV p.f5 (ptSave p q)⟩ s x q = (⟨p.f0, p.f1, p.f2, p.f3, p.f4, putV p.f5 (ptSave p q)⟩, (ZB (putV p.f5 (ptSave p q)) (idxV (savedP q) (putV p.f5 (ptSave p q)) 0)).f1) := by
    unfold askV
    rw [if_pos h1, if_pos h2, if_neg (by rw [h3]; exact Bool.false_ne_true), if_pos c2]
   rw [e2]
   exact found (p := ⟨p.f0, p.f1, p.f2, p.f3, p.f4, putV p.f5 (ptSave p q)⟩) hall c2
theorem decE_01 : ∀ (es : List Int) (a : Int), a = 0 ∨ a = 1 → decE es a = 0 ∨ decE es a = 1
 | [], a, h => h
 | e :: r, a, h => by
  unfold decE
  split
  ·exact .inl rfl
  ·split
   ·exact decE_01 r 1 (.inr rfl)
   ·exact decE_01 r a h
theorem ptDec_01 (p : S34) (q : S38) : ptDec p q = 0 ∨ ptDec p q = 1 := by
 unfold ptDec decV
 split
 ·split
  ·exact decE_01 _ 0 (.inl rfl)
  ·exact .inl rfl
 ·exact .inl rfl
mutual
theorem eqC_refl : ∀ x : S114, eqC x x = true
 | ⟨_, _, _, l⟩ => by simp [eqC, eqCL_refl l]
theorem eqCL_refl : ∀ l : List S114, eqCL l l = true
 | [] => by simp [eqCL]
 | x :: l => by simp [eqCL, eqC_refl x, eqCL_refl l]
end
theorem allZ_refl {α : Type} (p : α → α → Bool) (h : ∀ x, p x x = true) : ∀ l : List α, allZ p l l = true
 | [] => rfl
 | x :: l => by simp [allZ, h x, allZ_refl p h l]
theorem eqPt_refl (p : S34) : eqPt p p = true := by
 have h1 := allZ_refl eqR (fun x => by simp [eqR, eqC_refl]) p.f1.f3.f1
 have h2 := allZ_refl eqT109 (fun x => by simp [eqT109]) p.f1.f2
 have h3 := allZ_refl eqT100 (fun x => by simp [eqT100]) p.f2
 have h4 := allZ_refl eqT82 (fun x => by simp [eqT82]) p.f3
 have h5 := allZ_refl eqT62 (fun x => by simp [eqT62]) p.f5
 simp [eqPt, eqEp, eqPol, rowB, h1, h2, h3, h4, h5]
theorem FnAsked : laws_FnAsked.Pure := by
 intro a _ _
 refine Ev.rounds ?_
 unfold laws_FnAsked.f Wv.f
 simp only [Option.bind_some, decide_eq_true_eq]
 by_cases cb : (a.length : Int) > 1048576
 ·simp only [if_pos cb]; exact Ev.now _
 simp only [if_neg cb]
 obtain ⟨⟨p0, p1, p2, p3, p4, p5, p6, p7, p8, p9, s, c0, c1, c2, c3, c4, c5, q0, q1, q2, q3, q4, q5⟩, e1, hp⟩ := VF a (by omega)
 refine Ev.bind e1 ?_
 dsimp only [ptOf] at hp ⊢
 obtain ⟨p, hpe⟩ : ∃ p : S34, p = ⟨p0, ⟨p1, p2, p3, ⟨p4, p5⟩⟩, p6, p7, p8, p9⟩ := ⟨_, rfl⟩
 obtain ⟨x, hxe⟩ : ∃ x : S36, x = ⟨c0, c1, c2, c3, c4, c5⟩ := ⟨_, rfl⟩
 obtain ⟨q, hqe⟩ : ∃ q : S38, q = ⟨q0, q1, q2, q3, q4, q5⟩ := ⟨_, rfl⟩
 rw [← hpe] at hp
 obtain rfl : p.f0 = p0 := by rw [hpe]
 obtain rfl : p.f1.f0 = p1 := by rw [hpe]
 obtain rfl : p.f1.f1 = p2 := by rw [hpe]
 obtain rfl : p.f1.f2 = p3 := by rw [hpe]
 obtain rfl : p.f1.f3.f0 = p4 := by rw [hpe]
 obtain rfl : p.f1.f3.f1 = p5 := by rw [hpe]
 obtain rfl : p.f2 = p6 := by rw [hpe]
 obtain rfl : p.f3 = p7 := by rw [hpe]
 obtain rfl : p.f4 = p8 := by rw [hpe]
 obtain rfl : p.f5 = p9 := by rw [hpe]
 obtain rfl : x.f0 = c0 := by rw [hxe]
 obtain rfl : x.f1 = c1 := by rw [hxe]
 obtain rfl : x.f2 = c2 := by rw [hxe]
 obtain rfl : x.f3 = c3 := by rw [hxe]
 obtain rfl : x.f4 = c4 := by rw [hxe]
 obtain rfl : x.f5 = c5 := by rw [hxe]
 obtain rfl : q.f0 = q0 := by rw [hqe]
 obtain rfl : q.f1 = q1 := by rw [hqe]
 obtain rfl : q.f2 = q2 := by rw [hqe]
 obtain rfl : q.f3 = q3 := by rw [hqe]
 obtain rfl : q.f4 = q4 := by rw [hqe]
 obtain rfl : q.f5 = q5 := by rw [hqe]
 clear hpe hxe hqe e1
 have hn : n34 p ≤ 1048576 := by omega
 have hy : n34 (askV p s x q).1 ≤ 1048576 := by have := askV_n p s x q; omega
 obtain ⟨g1, gl, gp, g2, g3, g5⟩ := ptN hn
 have hA := Vh p s x q hn
 have hI := Vp p hn
 have hS := Tc p hn
 have hIy := Vp (askV p s x q).1 hy
 have hE := WW (askV p s x q).1 p hy
 have hA2 := Vh (askV p s x q).1 s x q hy
 have hD := WG p.f1.f2 p.f2 p.f1.f3.f0 p.f1.f3.f1 q gl g2 gp
 refine Ev.bind hA (Ev.bind hI ?_)
 by_cases hB : pointB p = true
 ·simp only [if_pos hB]
  have bad : ¬ (askG s x q = true ∧ freshV p.f4 q.f5 10 = true ∧ inB (revAt p.f3 x.f0) 0 q.f5 = false) → pointB (askV p s x q).1 = true ∧ eqPt (askV p s x q).1 p = true ∧ (askV p s x q).2 ≠ 1 ∧ (askV p s x q).2 ≠ 0 := fun h => by
   obtain ⟨b1, b2, b3⟩ := askV_bad h
   rw [b1]
   exact ⟨hB, eqPt_refl p, b2, b3⟩
  have good := askV_good (s := s) (x := x) (q := q) hB
  have h01 := ptDec_01 p q
  have hGd : askG s x q = (reqB q.f0 q.f1 q.f2 q.f3 q.f4 q.f5 && (chkB s x q.f5 && decide (x.f1 = q.f1))) := rfl
  have hDp : decV p.f1.f2 p.f2 p.f1.f3.f0 p.f1.f3.f1 q = ptDec p q := rfl
  rw [hDp] at hD
  generalize askV p s x q = y at hIy hE hA2 bad good hy ⊢
  simp only [WE, Option.bind_some]
  by_cases k1 : reqB q.f0 q.f1 q.f2 q.f3 q.f4 q.f5 = true
  ·simp only [if_pos k1]
   refine Ev.bind (W9 s x q.f5) ?_
   by_cases k2 : chkB s x q.f5 = true
   ·simp only [if_pos k2]
    by_cases k3 : x.f1 = q.f1
    ·simp only [if_pos k3, Va, Option.bind_some]
     by_cases k4 : freshV p.f4 q.f5 10 = true
     ·simp only [if_pos k4]
      refine Ev.bind (Vb p.f3 x.f0 q.f5 g3) ?_
      cases k5 : inB (revAt p.f3 x.f0) 0 q.f5 with
      | true =>
       obtain ⟨b0, b1, b2, b3⟩ := bad fun h => by rw [k5] at h; cases h.2.2
       rw [b0] at hIy
       rw [b1] at hE
       refine Ev.bind hIy ?_
       simp only [if_true]
       refine Ev.neg b2 (Ev.neg (by rw [decide_eq_false b3]; decide) ?_)
       exact Ev.bind hE (Ev.now _)
      | false =>
       obtain ⟨b0, b1, b2⟩ := good (by rw [hGd, k1, k2, decide_eq_true k3]; rfl) k4 k5
       rw [b0] at hIy
       refine Ev.bind hIy ?_
       simp only [if_true, Bool.false_eq_true, if_false]
       have fin : Ev (fun k => if (askV y.1 s x q).2 = y.2 then (some (decide (y.2 = 1) == decide (ptDec p q = 1)) : Option Bool) else some false) true := Ev.pos (by rw [b1, b2]) (Ev.eqv (by rw [b1]; simp) (Ev.now _))
       refine Ev.ite (fun k6 => Ev.neg (by decide) (Ev.bind hA2 ?_)) (fun k6 => Ev.neg (by rw [decide_eq_true (show y.2 = 0 by rw [b1] at k6 ⊢; omega)]; decide) (Ev.bind hA2 ?_))
       ·exact Ev.pos (by dsimp only; rw [b1, b2]) (Ev.bind hD (Ev.eqv (by rw [b1]; simp) (Ev.now _)))
       ·exact Ev.pos (by dsimp only; rw [b1, b2]) (Ev.bind hD (Ev.eqv (by rw [b1]; simp) (Ev.now _)))
     ·obtain ⟨b0, b1, b2, b3⟩ := bad fun h => k4 h.2.1
      rw [b0] at hIy
      rw [b1] at hE
      simp only [if_neg k4]
      refine Ev.bind hIy ?_
      simp only [if_true]
      refine Ev.neg b2 (Ev.neg (by rw [decide_eq_false b3]; decide) ?_)
      exact Ev.bind hE (Ev.now _)
    ·obtain ⟨b0, b1, b2, b3⟩ := bad fun h => by rw [hGd, decide_eq_false k3, Bool.and_false, Bool.and_false] at h; cases h.1
     rw [b0] at hIy
     rw [b1] at hE
     simp only [if_neg k3]
     refine Ev.bind hIy ?_
     simp only [if_true]
     refine Ev.neg b2 (Ev.neg (by rw [decide_eq_false b3]; decide) ?_)
     exact Ev.bind hE (Ev.now _)
   ·obtain ⟨b0, b1, b2, b3⟩ := bad fun h => by rw [hGd, eq_false_of_ne_true k2, Bool.false_and, Bool.and_false] at h; cases h.1
    rw [b0] at hIy
    rw [b1] at hE
    simp only [if_neg k2]
    refine Ev.bind hIy ?_
    simp only [if_true]
    refine Ev.neg b2 (Ev.neg (by rw [decide_eq_false b3]; decide) ?_)
    exact Ev.bind hE (Ev.now _)
  ·obtain ⟨b0, b1, b2, b3⟩ := bad fun h => by rw [hGd, eq_false_of_ne_true k1, Bool.false_and] at h; cases h.1
   rw [b0] at hIy
   rw [b1] at hE
   simp only [if_neg k1]
   refine Ev.bind hIy ?_
   simp only [if_true]
   refine Ev.neg b2 (Ev.neg (by rw [decide_eq_false b3]; decide) ?_)
   exact Ev.bind hE (Ev.now _)
 ·simp only [if_neg hB]
  refine Ev.bind hS (Ev.eqv ?_ (Ev.now _))
  rw [eq_false_of_ne_true hB]
  rfl
end Go.Proofs.YtmodglnbidedhaaGreat.Pure
