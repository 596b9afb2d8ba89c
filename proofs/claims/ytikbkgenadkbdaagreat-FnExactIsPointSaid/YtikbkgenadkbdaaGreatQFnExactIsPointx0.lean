import Derived.Lib.SlicesCompact
import Derived.Test.YtikbkgenadkbdaaGreatWWords
/- What each function that FnExactIsPoint reaches computes, over numbers and lists. -/
namespace Go.Proofs.YtikbkgenadkbdaaGreat.QFnExactIsPoint
open Go Go.RowKit Go.Proofs.YtikbkgenadkbdaaGreatW.PrintWords
set_option linter.unusedVariables false
structure S117 where
  f0 : Int
  f1 : Int
def z117 : S117 := ⟨(0 : Int), (0 : Int)⟩
def rd_T117 (xs : List S117) (i : Int) : S117 := xs.getD i.toNat z117
structure S131 where
  f0 : Int
  f1 : Int
  f2 : Int
  f3 : (List S131)
def z131 : S131 := ⟨(0 : Int), (0 : Int), (0 : Int), ([] : List S131)⟩
def rd_T131 (xs : List S131) (i : Int) : S131 := xs.getD i.toNat z131
structure S133 where
  f0 : Int
  f1 : Int
  f2 : Int
  f3 : S131
def z133 : S133 := ⟨(0 : Int), (0 : Int), (0 : Int), z131⟩
def rd_T133 (xs : List S133) (i : Int) : S133 := xs.getD i.toNat z133
structure S90 where
  f0 : Int
  f1 : Int
  f2 : Int
  f3 : Int
  f4 : Int
  f5 : Int
def z90 : S90 := ⟨(0 : Int), (0 : Int), (0 : Int), (0 : Int), (0 : Int), (0 : Int)⟩
def rd_T90 (xs : List S90) (i : Int) : S90 := xs.getD i.toNat z90
structure S92 where
  f0 : Int
  f1 : Int
def z92 : S92 := ⟨(0 : Int), (0 : Int)⟩
def rd_T92 (xs : List S92) (i : Int) : S92 := xs.getD i.toNat z92
structure S94 where
  f0 : Int
  f1 : Int
  f2 : Int
  f3 : Int
  f4 : Int
  f5 : Int
def z94 : S94 := ⟨(0 : Int), (0 : Int), (0 : Int), (0 : Int), (0 : Int), (0 : Int)⟩
structure S96 where
  f0 : S94
  f1 : Int
  f2 : Int
def z96 : S96 := ⟨z94, (0 : Int), (0 : Int)⟩
def rd_T96 (xs : List S96) (i : Int) : S96 := xs.getD i.toNat z96
structure S112 where
  f0 : Int
  f1 : Int
def z112 : S112 := ⟨(0 : Int), (0 : Int)⟩
def rd_T112 (xs : List S112) (i : Int) : S112 := xs.getD i.toNat z112
structure S108 where
  f0 : Int
  f1 : Int
  f2 : Int
  f3 : (List S108)
def z108 : S108 := ⟨(0 : Int), (0 : Int), (0 : Int), ([] : List S108)⟩
def rd_T108 (xs : List S108) (i : Int) : S108 := xs.getD i.toNat z108
structure S110 where
  f0 : Int
  f1 : Int
  f2 : Int
  f3 : S108
def z110 : S110 := ⟨(0 : Int), (0 : Int), (0 : Int), z108⟩
def rd_T110 (xs : List S110) (i : Int) : S110 := xs.getD i.toNat z110
structure S83 where
  f0 : Int
  f1 : Int
  f2 : Int
  f3 : Int
  f4 : Int
  f5 : Int
def z83 : S83 := ⟨(0 : Int), (0 : Int), (0 : Int), (0 : Int), (0 : Int), (0 : Int)⟩
def rd_T83 (xs : List S83) (i : Int) : S83 := xs.getD i.toNat z83
structure S86 where
  f0 : Int
  f1 : Int
def z86 : S86 := ⟨(0 : Int), (0 : Int)⟩
def rd_T86 (xs : List S86) (i : Int) : S86 := xs.getD i.toNat z86
structure S56 where
  f0 : Int
  f1 : Int
  f2 : Int
  f3 : Int
  f4 : Int
  f5 : Int
def z56 : S56 := ⟨(0 : Int), (0 : Int), (0 : Int), (0 : Int), (0 : Int), (0 : Int)⟩
structure S58 where
  f0 : S56
  f1 : Int
  f2 : Int
def z58 : S58 := ⟨z56, (0 : Int), (0 : Int)⟩
def rd_T58 (xs : List S58) (i : Int) : S58 := xs.getD i.toNat z58
structure S25 where
  f0 : Int
  f1 : (List S133)
def z25 : S25 := ⟨(0 : Int), ([] : List S133)⟩
structure S27 where
  f0 : Int
  f1 : Int
  f2 : (List S117)
  f3 : S25
def z27 : S27 := ⟨(0 : Int), (0 : Int), ([] : List S117), z25⟩
structure S32 where
  f0 : Int
  f1 : S27
  f2 : (List S90)
  f3 : (List S92)
  f4 : Int
  f5 : (List S96)
def z32 : S32 := ⟨(0 : Int), z27, ([] : List S90), ([] : List S92), (0 : Int), ([] : List S96)⟩
structure S38 where
  f0 : Int
  f1 : (List S110)
def z38 : S38 := ⟨(0 : Int), ([] : List S110)⟩
structure S40 where
  f0 : Int
  f1 : Int
  f2 : (List S112)
  f3 : S38
def z40 : S40 := ⟨(0 : Int), (0 : Int), ([] : List S112), z38⟩
structure S45 where
  f0 : Int
  f1 : S40
  f2 : (List S83)
  f3 : (List S86)
  f4 : Int
  f5 : (List S58)
def z45 : S45 := ⟨(0 : Int), z40, ([] : List S83), ([] : List S86), (0 : Int), ([] : List S58)⟩
def laws_szIncludesS.f (a0 : List S117) (a1 : Int) : Option (Int) := if (wrap64 (a1 - (a0.length : Int))) < 0 then (some (-1)) else (some (wrap64 (a1 - (a0.length : Int))))
mutual
def laws_szCondS.l0 : Nat → List S131 → Int → Int → Option (Int)
 | 0, _, _, _ => none
 | k + 1, x0, x1, x5 => if x5 < (x0.length : Int) then (if 0 ≤ x5 then ((laws_szCond.f k ((rd_T131 x0 x5).f0) ((rd_T131 x0 x5).f1) ((rd_T131 x0 x5).f2) ((rd_T131 x0 x5).f3) x1).bind fun t23 => (if t23 < 0 then (some (-1)) else (laws_szCondS.l0 k x0 t23 (wrap64 (x5 + 1))))) else none) else (some x1)
def laws_szCondS.f : Nat → List S131 → Int → Option (Int)
 | 0, _, _ => none
 | k + 1, a0, a1 => if (wrap64 (a1 - (a0.length : Int))) < 0 then (some (-1)) else (laws_szCondS.l0 k a0 (wrap64 (a1 - (a0.length : Int))) 0)
def laws_szCond.f : Nat → Int → Int → Int → List S131 → Int → Option (Int)
 | 0, _, _, _, _, _ => none
 | k + 1, a0_0, a0_1, a0_2, a0_3, a1 => (laws_szCondS.f k a0_3 a1).bind fun t8 => (if t8 < 0 then (some (-1)) else (some t8))
end
def laws_szRule.f (k : Nat) (a0_0 : Int) (a0_1 : Int) (a0_2 : Int) (a0_3 : Int) (a0_4 : Int) (a0_5 : Int) (a0_6 : List S131) (a1 : Int) : Option (Int) := (laws_szCond.f k a0_3 a0_4 a0_5 a0_6 a1).bind fun t8 => (if t8 < 0 then (some (-1)) else (some t8))
def laws_szRuleS.l0 : Nat → List S133 → Int → Int → Option (Int)
 | 0, _, _, _ => none
 | k + 1, x0, x1, x5 => if x5 < (x0.length : Int) then (if 0 ≤ x5 then ((laws_szRule.f k ((rd_T133 x0 x5).f0) ((rd_T133 x0 x5).f1) ((rd_T133 x0 x5).f2) ((rd_T133 x0 x5).f3.f0) ((rd_T133 x0 x5).f3.f1) ((rd_T133 x0 x5).f3.f2) ((rd_T133 x0 x5).f3.f3) x1).bind fun t23 => (if t23 < 0 then (some (-1)) else (laws_szRuleS.l0 k x0 t23 (wrap64 (x5 + 1))))) else none) else (some x1)
def laws_szRuleS.f (k : Nat) (a0 : List S133) (a1 : Int) : Option (Int) := if (wrap64 (a1 - (a0.length : Int))) < 0 then (some (-1)) else (laws_szRuleS.l0 k a0 (wrap64 (a1 - (a0.length : Int))) 0)
def laws_szPolicy.f (k : Nat) (a0_0 : Int) (a0_1 : List S133) (a1 : Int) : Option (Int) := (laws_szRuleS.f k a0_1 a1).bind fun t8 => (if t8 < 0 then (some (-1)) else (some t8))
def laws_szEpoch.f (k : Nat) (a0_0 : Int) (a0_1 : Int) (a0_2 : List S117) (a0_3 : Int) (a0_4 : List S133) (a1 : Int) : Option (Int) := (laws_szIncludesS.f a0_2 a1).bind fun t8 => (if t8 < 0 then (some (-1)) else ((laws_szPolicy.f k a0_3 a0_4 t8).bind fun t14 => (if t14 < 0 then (some (-1)) else (some t14))))
def laws_szFactS.f (a0 : List S90) (a1 : Int) : Option (Int) := if (wrap64 (a1 - (a0.length : Int))) < 0 then (some (-1)) else (some (wrap64 (a1 - (a0.length : Int))))
def laws_szRevokedS.f (a0 : List S92) (a1 : Int) : Option (Int) := if (wrap64 (a1 - (a0.length : Int))) < 0 then (some (-1)) else (some (wrap64 (a1 - (a0.length : Int))))
def laws_szSavedS.f (a0 : List S96) (a1 : Int) : Option (Int) := if (wrap64 (a1 - (a0.length : Int))) < 0 then (some (-1)) else (some (wrap64 (a1 - (a0.length : Int))))
def laws_szPoint.f (k : Nat) (a0_0 : Int) (a0_1 : Int) (a0_2 : Int) (a0_3 : List S117) (a0_4 : Int) (a0_5 : List S133) (a0_6 : List S90) (a0_7 : List S92) (a0_8 : Int) (a0_9 : List S96) (a1 : Int) : Option (Int) := (laws_szEpoch.f k a0_1 a0_2 a0_3 a0_4 a0_5 a1).bind fun t8 => (if t8 < 0 then (some (-1)) else ((laws_szFactS.f a0_6 t8).bind fun t14 => (if t14 < 0 then (some (-1)) else ((laws_szRevokedS.f a0_7 t14).bind fun t20 => (if t20 < 0 then (some (-1)) else ((laws_szSavedS.f a0_9 t20).bind fun t26 => (if t26 < 0 then (some (-1)) else (some t26))))))))
def laws_toIncludes.f (a0_0 : Int) (a0_1 : Int) : Option (Int × Int) := some (a0_0, a0_1)
def laws_toIncludesS.l0 : Nat → List S117 → List S112 → Int → Option ((List S112))
 | 0, _, _, _ => none
 | k + 1, x0, x3, x4 => if x4 < (x0.length : Int) then (if 0 ≤ x4 then ((laws_toIncludes.f ((rd_T117 x0 x4).f0) ((rd_T117 x0 x4).f1)).bind fun t20 => (if x4 < (x3.length : Int) then (laws_toIncludesS.l0 k x0 (x3.set (x4 : Int).toNat (⟨t20.1, t20.2⟩ : S112)) (wrap64 (x4 + 1))) else none)) else none) else (some x3)
def laws_toIncludesS.f (k : Nat) (a0 : List S117) : Option ((List S112)) := if (a0.length : Int) = (a0.length : Int) then (if 0 ≤ (a0.length : Int) then (if (a0.length : Int) ≤ 17592186044416 then (laws_toIncludesS.l0 k a0 (List.replicate (a0.length : Int).toNat (⟨0, 0⟩ : S112)) 0) else none) else none) else none
mutual
def laws_toCondS.l0 : Nat → List S131 → List S108 → Int → Option ((List S108))
 | 0, _, _, _ => none
 | k + 1, x0, x3, x4 => if x4 < (x0.length : Int) then (if 0 ≤ x4 then ((laws_toCond.f k ((rd_T131 x0 x4).f0) ((rd_T131 x0 x4).f1) ((rd_T131 x0 x4).f2) ((rd_T131 x0 x4).f3)).bind fun t20 => (if x4 < (x3.length : Int) then (laws_toCondS.l0 k x0 (x3.set (x4 : Int).toNat (⟨t20.1, t20.2.1, t20.2.2.1, t20.2.2.2⟩ : S108)) (wrap64 (x4 + 1))) else none)) else none) else (some x3)
def laws_toCondS.f : Nat → List S131 → Option ((List S108))
 | 0, _ => none
 | k + 1, a0 => if (a0.length : Int) = (a0.length : Int) then (if 0 ≤ (a0.length : Int) then (if (a0.length : Int) ≤ 5864062014805 then (laws_toCondS.l0 k a0 (List.replicate (a0.length : Int).toNat (⟨0, 0, 0, ([] : List S108)⟩ : S108)) 0) else none) else none) else none
def laws_toCond.f : Nat → Int → Int → Int → List S131 → Option (Int × Int × Int × (List S108))
 | 0, _, _, _, _ => none
 | k + 1, a0_0, a0_1, a0_2, a0_3 => (laws_toCondS.f k a0_3).bind fun t15 => (some (a0_0, a0_1, a0_2, t15))
end
def laws_toRule.f (k : Nat) (a0_0 : Int) (a0_1 : Int) (a0_2 : Int) (a0_3 : Int) (a0_4 : Int) (a0_5 : Int) (a0_6 : List S131) : Option (Int × Int × Int × Int × Int × Int × (List S108)) := (laws_toCond.f k a0_3 a0_4 a0_5 a0_6).bind fun t15 => (some (a0_0, a0_1, a0_2, t15.1, t15.2.1, t15.2.2.1, t15.2.2.2))
def laws_toRuleS.l0 : Nat → List S133 → List S110 → Int → Option ((List S110))
 | 0, _, _, _ => none
 | k + 1, x0, x3, x4 => if x4 < (x0.length : Int) then (if 0 ≤ x4 then ((laws_toRule.f k ((rd_T133 x0 x4).f0) ((rd_T133 x0 x4).f1) ((rd_T133 x0 x4).f2) ((rd_T133 x0 x4).f3.f0) ((rd_T133 x0 x4).f3.f1) ((rd_T133 x0 x4).f3.f2) ((rd_T133 x0 x4).f3.f3)).bind fun t20 => (if x4 < (x3.length : Int) then (laws_toRuleS.l0 k x0 (x3.set (x4 : Int).toNat (⟨t20.1, t20.2.1, t20.2.2.1, (⟨t20.2.2.2.1, t20.2.2.2.2.1, t20.2.2.2.2.2.1, t20.2.2.2.2.2.2⟩ : S108)⟩ : S110)) (wrap64 (x4 + 1))) else none)) else none) else (some x3)
def laws_toRuleS.f (k : Nat) (a0 : List S133) : Option ((List S110)) := if (a0.length : Int) = (a0.length : Int) then (if 0 ≤ (a0.length : Int) then (if (a0.length : Int) ≤ 3909374676536 then (laws_toRuleS.l0 k a0 (List.replicate (a0.length : Int).toNat (⟨0, 0, 0, (⟨0, 0, 0, ([] : List S108)⟩ : S108)⟩ : S110)) 0) else none) else none) else none
def laws_toPolicy.f (k : Nat) (a0_0 : Int) (a0_1 : List S133) : Option (Int × (List S110)) := (laws_toRuleS.f k a0_1).bind fun t9 => (some (a0_0, t9))
def laws_toEpoch.f (k : Nat) (a0_0 : Int) (a0_1 : Int) (a0_2 : List S117) (a0_3 : Int) (a0_4 : List S133) : Option (Int × Int × (List S112) × Int × (List S110)) := (laws_toIncludesS.f k a0_2).bind fun t12 => ((laws_toPolicy.f k a0_3 a0_4).bind fun t16 => (some (a0_0, a0_1, t12, t16.1, t16.2)))
def laws_toFact.f (a0_0 : Int) (a0_1 : Int) (a0_2 : Int) (a0_3 : Int) (a0_4 : Int) (a0_5 : Int) : Option (Int × Int × Int × Int × Int × Int) := some (a0_0, a0_1, a0_2, a0_3, a0_4, a0_5)
def laws_toFactS.l0 : Nat → List S90 → List S83 → Int → Option ((List S83))
 | 0, _, _, _ => none
 | k + 1, x0, x3, x4 => if x4 < (x0.length : Int) then (if 0 ≤ x4 then ((laws_toFact.f ((rd_T90 x0 x4).f0) ((rd_T90 x0 x4).f1) ((rd_T90 x0 x4).f2) ((rd_T90 x0 x4).f3) ((rd_T90 x0 x4).f4) ((rd_T90 x0 x4).f5)).bind fun t20 => (if x4 < (x3.length : Int) then (laws_toFactS.l0 k x0 (x3.set (x4 : Int).toNat (⟨t20.1, t20.2.1, t20.2.2.1, t20.2.2.2.1, t20.2.2.2.2.1, t20.2.2.2.2.2⟩ : S83)) (wrap64 (x4 + 1))) else none)) else none) else (some x3)
def laws_toFactS.f (k : Nat) (a0 : List S90) : Option ((List S83)) := if (a0.length : Int) = (a0.length : Int) then (if 0 ≤ (a0.length : Int) then (if (a0.length : Int) ≤ 5864062014805 then (laws_toFactS.l0 k a0 (List.replicate (a0.length : Int).toNat (⟨0, 0, 0, 0, 0, 0⟩ : S83)) 0) else none) else none) else none
def laws_toRevoked.f (a0_0 : Int) (a0_1 : Int) : Option (Int × Int) := some (a0_0, a0_1)
def laws_toRevokedS.l0 : Nat → List S92 → List S86 → Int → Option ((List S86))
 | 0, _, _, _ => none
 | k + 1, x0, x3, x4 => if x4 < (x0.length : Int) then (if 0 ≤ x4 then ((laws_toRevoked.f ((rd_T92 x0 x4).f0) ((rd_T92 x0 x4).f1)).bind fun t20 => (if x4 < (x3.length : Int) then (laws_toRevokedS.l0 k x0 (x3.set (x4 : Int).toNat (⟨t20.1, t20.2⟩ : S86)) (wrap64 (x4 + 1))) else none)) else none) else (some x3)
def laws_toRevokedS.f (k : Nat) (a0 : List S92) : Option ((List S86)) := if (a0.length : Int) = (a0.length : Int) then (if 0 ≤ (a0.length : Int) then (if (a0.length : Int) ≤ 17592186044416 then (laws_toRevokedS.l0 k a0 (List.replicate (a0.length : Int).toNat (⟨0, 0⟩ : S86)) 0) else none) else none) else none
def laws_toRequest.f (a0_0 : Int) (a0_1 : Int) (a0_2 : Int) (a0_3 : Int) (a0_4 : Int) (a0_5 : Int) : Option (Int × Int × Int × Int × Int × Int) := some (a0_0, a0_1, a0_2, a0_3, a0_4, a0_5)
def laws_toSaved.f (a0_0 : Int) (a0_1 : Int) (a0_2 : Int) (a0_3 : Int) (a0_4 : Int) (a0_5 : Int) (a0_6 : Int) (a0_7 : Int) : Option (Int × Int × Int × Int × Int × Int × Int × Int) := (laws_toRequest.f a0_0 a0_1 a0_2 a0_3 a0_4 a0_5).bind fun t6 => (some (t6.1, t6.2.1, t6.2.2.1, t6.2.2.2.1, t6.2.2.2.2.1, t6.2.2.2.2.2, a0_6, a0_7))
def laws_toSavedS.l0 : Nat → List S96 → List S58 → Int → Option ((List S58))
 | 0, _, _, _ => none
 | k + 1, x0, x3, x4 => if x4 < (x0.length : Int) then (if 0 ≤ x4 then ((laws_toSaved.f ((rd_T96 x0 x4).f0.f0) ((rd_T96 x0 x4).f0.f1) ((rd_T96 x0 x4).f0.f2) ((rd_T96 x0 x4).f0.f3) ((rd_T96 x0 x4).f0.f4) ((rd_T96 x0 x4).f0.f5) ((rd_T96 x0 x4).f1) ((rd_T96 x0 x4).f2)).bind fun t20 => (if x4 < (x3.length : Int) then (laws_toSavedS.l0 k x0 (x3.set (x4 : Int).toNat (⟨(⟨t20.1, t20.2.1, t20.2.2.1, t20.2.2.2.1, t20.2.2.2.2.1, t20.2.2.2.2.2.1⟩ : S56), t20.2.2.2.2.2.2.1, t20.2.2.2.2.2.2.2⟩ : S58)) (wrap64 (x4 + 1))) else none)) else none) else (some x3)
def laws_toSavedS.f (k : Nat) (a0 : List S96) : Option ((List S58)) := if (a0.length : Int) = (a0.length : Int) then (if 0 ≤ (a0.length : Int) then (if (a0.length : Int) ≤ 4398046511104 then (laws_toSavedS.l0 k a0 (List.replicate (a0.length : Int).toNat (⟨(⟨0, 0, 0, 0, 0, 0⟩ : S56), 0, 0⟩ : S58)) 0) else none) else none) else none
def laws_toPoint.f (k : Nat) (a0_0 : Int) (a0_1 : Int) (a0_2 : Int) (a0_3 : List S117) (a0_4 : Int) (a0_5 : List S133) (a0_6 : List S90) (a0_7 : List S92) (a0_8 : Int) (a0_9 : List S96) : Option (Int × Int × Int × (List S112) × Int × (List S110) × (List S83) × (List S86) × Int × (List S58)) := (laws_toEpoch.f k a0_1 a0_2 a0_3 a0_4 a0_5).bind fun t9 => ((laws_toFactS.f k a0_6).bind fun t13 => ((laws_toRevokedS.f k a0_7).bind fun t17 => ((laws_toSavedS.f k a0_9).bind fun t24 => (some (a0_0, t9.1, t9.2.1, t9.2.2.1, t9.2.2.2.1, t9.2.2.2.2, t13, t17, a0_8, t24)))))
def spec_NewPoint.f (a0 : Int) : Option (Int × Int × Int × (List S112) × Int × (List S110) × (List S83) × (List S86) × Int × (List S58)) := some (a0, 0, 0, ([] : List S112), 0, ([] : List S110), ([] : List S83), ([] : List S86), (-1), ([] : List S58))
def spec_l24Pairs.l0 : Nat → List S112 → List S112 → Int → Option (Bool)
 | 0, _, _, _ => none
 | k + 1, x0, x1, x5 => if x5 < (x0.length : Int) then (if 0 ≤ x5 then (if x5 < (x1.length : Int) then (if (rd_T112 x0 x5).f0 = (rd_T112 x1 x5).f0 ∧ (rd_T112 x0 x5).f1 = (rd_T112 x1 x5).f1 then (spec_l24Pairs.l0 k x0 x1 (wrap64 (x5 + 1))) else (some false)) else none) else none) else (some true)
def spec_l24Pairs.f (k : Nat) (a0 : List S112) (a1 : List S112) : Option (Bool) := if (a0.length : Int) = (a1.length : Int) then (spec_l24Pairs.l0 k a0 a1 0) else (some false)
mutual
def spec_EqualConds.l0 : Nat → Int → Int → Int → List S108 → Int → Int → Int → List S108 → Int → Option (Bool)
 | 0, _, _, _, _, _, _, _, _, _ => none
 | k + 1, x2_0, x2_1, x2_2, x2_3, x3_0, x3_1, x3_2, x3_3, x5 => if x5 < (x2_3.length : Int) then (if 0 ≤ x5 then (if x5 < (x3_3.length : Int) then ((spec_EqualConds.f k ((rd_T108 x2_3 x5).f0) ((rd_T108 x2_3 x5).f1) ((rd_T108 x2_3 x5).f2) ((rd_T108 x2_3 x5).f3) ((rd_T108 x3_3 x5).f0) ((rd_T108 x3_3 x5).f1) ((rd_T108 x3_3 x5).f2) ((rd_T108 x3_3 x5).f3)).bind fun t51 => (if t51 = true then (spec_EqualConds.l0 k x2_0 x2_1 x2_2 x2_3 x3_0 x3_1 x3_2 x3_3 (wrap64 (x5 + 1))) else (some false))) else none) else none) else (some true)
def spec_EqualConds.f : Nat → Int → Int → Int → List S108 → Int → Int → Int → List S108 → Option (Bool)
 | 0, _, _, _, _, _, _, _, _ => none
 | k + 1, a0_0, a0_1, a0_2, a0_3, a1_0, a1_1, a1_2, a1_3 => if a0_0 = a1_0 then (if a0_1 = a1_1 then (if a0_2 = a1_2 then (if (a0_3.length : Int) = (a1_3.length : Int) then (spec_EqualConds.l0 k a0_0 a0_1 a0_2 a0_3 a1_0 a1_1 a1_2 a1_3 0) else (some false)) else (some false)) else (some false)) else (some false)
end
def spec_EqualPolicies.l0 : Nat → Int → List S110 → Int → List S110 → Int → Option (Bool)
 | 0, _, _, _, _, _ => none
 | k + 1, x2_0, x2_1, x3_0, x3_1, x5 => if x5 < (x2_1.length : Int) then (if 0 ≤ x5 then (if x5 < (x3_1.length : Int) then (if (rd_T110 x2_1 x5).f0 = (rd_T110 x3_1 x5).f0 then (if (rd_T110 x2_1 x5).f1 = (rd_T110 x3_1 x5).f1 then (if (rd_T110 x2_1 x5).f2 = (rd_T110 x3_1 x5).f2 then ((spec_EqualConds.f k ((rd_T110 x2_1 x5).f3.f0) ((rd_T110 x2_1 x5).f3.f1) ((rd_T110 x2_1 x5).f3.f2) ((rd_T110 x2_1 x5).f3.f3) ((rd_T110 x3_1 x5).f3.f0) ((rd_T110 x3_1 x5).f3.f1) ((rd_T110 x3_1 x5).f3.f2) ((rd_T110 x3_1 x5).f3.f3)).bind fun t63 => (if t63 = true then (spec_EqualPolicies.l0 k x2_0 x2_1 x3_0 x3_1 (wrap64 (x5 + 1))) else (some false))) else (some false)) else (some false)) else (some false)) else none) else none) else (some true)
def spec_EqualPolicies.f (k : Nat) (a0_0 : Int) (a0_1 : List S110) (a1_0 : Int) (a1_1 : List S110) : Option (Bool) := if a0_0 = a1_0 then (if (a0_1.length : Int) = (a1_1.length : Int) then (spec_EqualPolicies.l0 k a0_0 a0_1 a1_0 a1_1 0) else (some false)) else (some false)
def spec_EqualEpochs.f (k : Nat) (a0_0 : Int) (a0_1 : Int) (a0_2 : List S112) (a0_3 : Int) (a0_4 : List S110) (a1_0 : Int) (a1_1 : Int) (a1_2 : List S112) (a1_3 : Int) (a1_4 : List S110) : Option (Bool) := if a0_0 = a1_0 then (if a0_1 = a1_1 then ((spec_l24Pairs.f k a0_2 a1_2).bind fun t22 => (if t22 = true then ((spec_EqualPolicies.f k a0_3 a0_4 a1_3 a1_4).bind fun t29 => (some t29)) else (some false))) else (some false)) else (some false)
def spec_EqualStores.l0 : Nat → List S83 → List S83 → Int → Option (Bool)
 | 0, _, _, _ => none
 | k + 1, x0, x1, x5 => if x5 < (x0.length : Int) then (if 0 ≤ x5 then (if x5 < (x1.length : Int) then (if (rd_T83 x0 x5).f0 = (rd_T83 x1 x5).f0 ∧ (rd_T83 x0 x5).f1 = (rd_T83 x1 x5).f1 ∧ (rd_T83 x0 x5).f2 = (rd_T83 x1 x5).f2 ∧ (rd_T83 x0 x5).f3 = (rd_T83 x1 x5).f3 ∧ (rd_T83 x0 x5).f4 = (rd_T83 x1 x5).f4 ∧ (rd_T83 x0 x5).f5 = (rd_T83 x1 x5).f5 then (spec_EqualStores.l0 k x0 x1 (wrap64 (x5 + 1))) else (some false)) else none) else none) else (some true)
def spec_EqualStores.f (k : Nat) (a0 : List S83) (a1 : List S83) : Option (Bool) := if (a0.length : Int) = (a1.length : Int) then (spec_EqualStores.l0 k a0 a1 0) else (some false)
def spec_l27Revoked.l0 : Nat → List S86 → List S86 → Int → Option (Bool)
 | 0, _, _, _ => none
 | k + 1, x0, x1, x5 => if x5 < (x0.length : Int) then (if 0 ≤ x5 then (if x5 < (x1.length : Int) then (if (rd_T86 x0 x5).f0 = (rd_T86 x1 x5).f0 ∧ (rd_T86 x0 x5).f1 = (rd_T86 x1 x5).f1 then (spec_l27Revoked.l0 k x0 x1 (wrap64 (x5 + 1))) else (some false)) else none) else none) else (some true)
def spec_l27Revoked.f (k : Nat) (a0 : List S86) (a1 : List S86) : Option (Bool) := if (a0.length : Int) = (a1.length : Int) then (spec_l27Revoked.l0 k a0 a1 0) else (some false)
def spec_l27Saved.l0 : Nat → List S58 → List S58 → Int → Option (Bool)
 | 0, _, _, _ => none
 | k + 1, x0, x1, x5 => if x5 < (x0.length : Int) then (if 0 ≤ x5 then (if x5 < (x1.length : Int) then (if (rd_T58 x0 x5).f0.f0 = (rd_T58 x1 x5).f0.f0 ∧ (rd_T58 x0 x5).f0.f1 = (rd_T58 x1 x5).f0.f1 ∧ (rd_T58 x0 x5).f0.f2 = (rd_T58 x1 x5).f0.f2 ∧ (rd_T58 x0 x5).f0.f3 = (rd_T58 x1 x5).f0.f3 ∧ (rd_T58 x0 x5).f0.f4 = (rd_T58 x1 x5).f0.f4 ∧ (rd_T58 x0 x5).f0.f5 = (rd_T58 x1 x5).f0.f5 ∧ (rd_T58 x0 x5).f1 = (rd_T58 x1 x5).f1 ∧ (rd_T58 x0 x5).f2 = (rd_T58 x1 x5).f2 then (spec_l27Saved.l0 k x0 x1 (wrap64 (x5 + 1))) else (some false)) else none) else none) else (some true)
def spec_l27Saved.f (k : Nat) (a0 : List S58) (a1 : List S58) : Option (Bool) := if (a0.length : Int) = (a1.length : Int) then (spec_l27Saved.l0 k a0 a1 0) else (some false)
def spec_EqualPoints.f (k : Nat) (a0_0 : Int) (a0_1 : Int) (a0_2 : Int) (a0_3 : List S112) (a0_4 : Int) (a0_5 : List S110) (a0_6 : List S83) (a0_7 : List S86) (a0_8 : Int) (a0_9 : List S58) (a1_0 : Int) (a1_1 : Int) (a1_2 : Int) (a1_3 : List S112) (a1_4 : Int) (a1_5 : List S110) (a1_6 : List S83) (a1_7 : List S86) (a1_8 : Int) (a1_9 : List S58) : Option (Bool) := if a0_0 = a1_0 then (if a0_8 = a1_8 then ((spec_EqualEpochs.f k a0_1 a0_2 a0_3 a0_4 a0_5 a1_1 a1_2 a1_3 a1_4 a1_5).bind fun t22 => (if t22 = true then ((spec_EqualStores.f k a0_6 a1_6).bind fun t29 => (if t29 = true then ((spec_l27Revoked.f k a0_7 a1_7).bind fun t36 => (if t36 = true then ((spec_l27Saved.f k a0_9 a1_9).bind fun t43 => (some t43)) else (some false))) else (some false))) else (some false))) else (some false)) else (some false)
def spec_l1In.f (a0 : Int) (a1 : Int) (a2 : Int) : Option (Bool) := if a0 ≥ a1 then (some (decide (a0 ≤ a2))) else (some false)
def spec_IsName.f (a0 : Int) : Option (Bool) := (spec_l1In.f a0 10 49).bind fun t4 => (some t4)
def spec_HasKind.f (a0 : Int) (a1 : Int) : Option (Bool) := (spec_IsName.f a0).bind fun t6 => (if t6 = true then (some (decide ((wrap64 (Int.tdiv a0 10)) = a1))) else (some false))
def spec_IsTime.f (a0 : Int) : Option (Bool) := (spec_l1In.f a0 0 10000).bind fun t4 => (some t4)
def spec_IsRequest.f (a0_0 : Int) (a0_1 : Int) (a0_2 : Int) (a0_3 : Int) (a0_4 : Int) (a0_5 : Int) : Option (Bool) := (spec_HasKind.f a0_0 1).bind fun t5 => (if t5 = true then ((spec_HasKind.f a0_1 2).bind fun t9 => (if t9 = true then ((spec_HasKind.f a0_2 3).bind fun t14 => (if t14 = true then ((spec_HasKind.f a0_4 4).bind fun t19 => (if t19 = true then ((spec_l1In.f a0_3 0 5).bind fun t24 => (if t24 = true then ((spec_IsTime.f a0_5).bind fun t29 => (some t29)) else (some false))) else (some false))) else (some false))) else (some false))) else (some false))
def spec_AtTime.f (a0_0 : Int) (a0_1 : Int) (a0_2 : Int) (a0_3 : Int) (a0_4 : Int) (a0_5 : Int) (a1 : Int) : Option (Int × Int × Int × Int × Int × Int) := some (a0_0, a0_1, a0_2, a0_3, a0_4, a1)
mutual
def spec_l15Left.l0 : Nat → Int → Int → Int → Int → List S108 → Int → Option (Int)
 | 0, _, _, _, _, _, _ => none
 | k + 1, x1, x2_0, x2_1, x2_2, x2_3, x5 => if x5 < (x2_3.length : Int) then (if x1 ≥ 0 then (if 0 ≤ x5 then ((spec_l15Left.f k ((rd_T108 x2_3 x5).f0) ((rd_T108 x2_3 x5).f1) ((rd_T108 x2_3 x5).f2) ((rd_T108 x2_3 x5).f3) x1).bind fun t25 => (spec_l15Left.l0 k t25 x2_0 x2_1 x2_2 x2_3 (wrap64 (x5 + 1)))) else none) else (some x1)) else (some x1)
def spec_l15Left.f : Nat → Int → Int → Int → List S108 → Int → Option (Int)
 | 0, _, _, _, _, _ => none
 | k + 1, a0_0, a0_1, a0_2, a0_3, a1 => spec_l15Left.l0 k (wrap64 (a1 - 1)) a0_0 a0_1 a0_2 a0_3 0
end
def spec_ArityOf.f (a0 : Int) : Option (Int) := if a0 = 1 then (some 0) else (if a0 = 2 then (some 0) else (if a0 = 3 then (some 0) else (if a0 = 4 then (some 0) else (if a0 = 5 then (some 0) else (if a0 = 6 then (some 0) else (if a0 = 7 then (some 1) else (if a0 = 8 then (some 2) else (if a0 = 9 then (some 2) else (some (-1))))))))))
def spec_l15Node.f (a0_0 : Int) (a0_1 : Int) (a0_2 : Int) (a0_3 : List S108) : Option (Bool) := if a0_0 = 2 then ((spec_l1In.f a0_1 0 5).bind fun t17 => ((spec_l1In.f a0_0 2 5).bind fun t31 => (if t31 = true then ((spec_IsTime.f a0_2).bind fun t34 => (if t17 = true then (if t34 = true then ((spec_ArityOf.f a0_0).bind fun t45 => (some (decide ((a0_3.length : Int) = t45)))) else (some false)) else (some false))) else (if t17 = true then (if a0_2 = 0 then ((spec_ArityOf.f a0_0).bind fun t45 => (some (decide ((a0_3.length : Int) = t45)))) else (some false)) else (some false))))) else (if a0_0 = 4 then ((spec_l1In.f a0_1 0 3).bind fun t23 => ((spec_l1In.f a0_0 2 5).bind fun t31 => (if t31 = true then ((spec_IsTime.f a0_2).bind fun t34 => (if t23 = true then (if t34 = true then ((spec_ArityOf.f a0_0).bind fun t45 => (some (decide ((a0_3.length : Int) = t45)))) else (some false)) else (some false))) else (if t23 = true then (if a0_2 = 0 then ((spec_ArityOf.f a0_0).bind fun t45 => (some (decide ((a0_3.length : Int) = t45)))) else (some false)) else (some false))))) else (if a0_0 = 5 then ((spec_l1In.f a0_1 0 3).bind fun t23 => ((spec_l1In.f a0_0 2 5).bind fun t31 => (if t31 = true then ((spec_IsTime.f a0_2).bind fun t34 => (if t23 = true then (if t34 = true then ((spec_ArityOf.f a0_0).bind fun t45 => (some (decide ((a0_3.length : Int) = t45)))) else (some false)) else (some false))) else (if t23 = true then (if a0_2 = 0 then ((spec_ArityOf.f a0_0).bind fun t45 => (some (decide ((a0_3.length : Int) = t45)))) else (some false)) else (some false))))) else (if a0_0 = 6 then ((spec_IsTime.f a0_1).bind fun t28 => ((spec_l1In.f a0_0 2 5).bind fun t31 => (if t31 = true then ((spec_IsTime.f a0_2).bind fun t34 => (if t28 = true then (if t34 = true then ((spec_ArityOf.f a0_0).bind fun t45 => (some (decide ((a0_3.length : Int) = t45)))) else (some false)) else (some false))) else (if t28 = true then (if a0_2 = 0 then ((spec_ArityOf.f a0_0).bind fun t45 => (some (decide ((a0_3.length : Int) = t45)))) else (some false)) else (some false))))) else ((spec_l1In.f a0_0 2 5).bind fun t31 => (if t31 = true then ((spec_IsTime.f a0_2).bind fun t34 => (if a0_1 = 0 then (if t34 = true then ((spec_ArityOf.f a0_0).bind fun t45 => (some (decide ((a0_3.length : Int) = t45)))) else (some false)) else (some false))) else (if a0_1 = 0 then (if a0_2 = 0 then ((spec_ArityOf.f a0_0).bind fun t45 => (some (decide ((a0_3.length : Int) = t45)))) else (some false)) else (some false)))))))
mutual
def spec_l15Valid.l0 : Nat → Int → Int → Int → List S108 → Int → Option (Bool)
 | 0, _, _, _, _, _ => none
 | k + 1, x1_0, x1_1, x1_2, x1_3, x3 => if x3 < (x1_3.length : Int) then (if 0 ≤ x3 then ((spec_l15Valid.f k ((rd_T108 x1_3 x3).f0) ((rd_T108 x1_3 x3).f1) ((rd_T108 x1_3 x3).f2) ((rd_T108 x1_3 x3).f3)).bind fun t19 => (if t19 = true then (spec_l15Valid.l0 k x1_0 x1_1 x1_2 x1_3 (wrap64 (x3 + 1))) else (some false))) else none) else (some true)
def spec_l15Valid.f : Nat → Int → Int → Int → List S108 → Option (Bool)
 | 0, _, _, _, _ => none
 | k + 1, a0_0, a0_1, a0_2, a0_3 => (spec_l15Node.f a0_0 a0_1 a0_2 a0_3).bind fun t5 => (if t5 = true then (spec_l15Valid.l0 k a0_0 a0_1 a0_2 a0_3 0) else (some false))
end
def spec_IsCond.f (k : Nat) (a0_0 : Int) (a0_1 : Int) (a0_2 : Int) (a0_3 : List S108) : Option (Bool) := (spec_l15Left.f k a0_0 a0_1 a0_2 a0_3 15).bind fun t4 => (if t4 ≥ 0 then ((spec_l15Valid.f k a0_0 a0_1 a0_2 a0_3).bind fun t8 => (some t8)) else (some false))
def spec_IsRule.f (k : Nat) (a0_0 : Int) (a0_1 : Int) (a0_2 : Int) (a0_3 : Int) (a0_4 : Int) (a0_5 : Int) (a0_6 : List S108) : Option (Bool) := (spec_l1In.f a0_0 0 1).bind fun t5 => (if t5 = true then ((spec_l1In.f a0_1 (-1) 5).bind fun t9 => (if t9 = true then (if a0_2 = (-1) then ((spec_IsCond.f k a0_3 a0_4 a0_5 a0_6).bind fun t24 => (some t24)) else ((spec_HasKind.f a0_2 4).bind fun t18 => (if t18 = true then ((spec_IsCond.f k a0_3 a0_4 a0_5 a0_6).bind fun t24 => (some t24)) else (some false)))) else (some false))) else (some false))
def spec_IsPolicy.l0 : Nat → Int → List S110 → Int → Option (Bool)
 | 0, _, _, _ => none
 | k + 1, x1_0, x1_1, x3 => if x3 < (x1_1.length : Int) then (if 0 ≤ x3 then ((spec_IsRule.f k ((rd_T110 x1_1 x3).f0) ((rd_T110 x1_1 x3).f1) ((rd_T110 x1_1 x3).f2) ((rd_T110 x1_1 x3).f3.f0) ((rd_T110 x1_1 x3).f3.f1) ((rd_T110 x1_1 x3).f3.f2) ((rd_T110 x1_1 x3).f3.f3)).bind fun t16 => (if t16 = true then (spec_IsPolicy.l0 k x1_0 x1_1 (wrap64 (x3 + 1))) else (some false))) else none) else ((spec_l1In.f x1_0 0 999).bind fun t20 => (if t20 = true then (some (decide ((x1_1.length : Int) ≤ 8))) else (some false)))
def spec_IsPolicy.f (k : Nat) (a0_0 : Int) (a0_1 : List S110) : Option (Bool) := spec_IsPolicy.l0 k a0_0 a0_1 0
def spec_IsFor.f (a0_0 : Int) (a0_1 : Int) (a0_2 : Int) (a0_3 : Int) (a0_4 : Int) (a0_5 : Int) (a0_6 : List S108) (a1 : Int) (a2 : Int) : Option (Bool) := if a0_1 = (-1) then (if a0_2 = (-1) then (some true) else (some (decide (a0_2 = a2)))) else (if a0_1 = a1 then (if a0_2 = (-1) then (some true) else (some (decide (a0_2 = a2)))) else (some false))
def spec_IsFact.f (a0_0 : Int) (a0_1 : Int) (a0_2 : Int) (a0_3 : Int) (a0_4 : Int) (a0_5 : Int) : Option (Bool) := if a0_0 = 1 then ((spec_HasKind.f a0_1 1).bind fun t10 => (if t10 = true then ((spec_l1In.f a0_2 0 5).bind fun t14 => (if t14 = true then ((spec_l1In.f a0_3 0 9).bind fun t50 => (if t50 = true then ((spec_IsTime.f a0_4).bind fun t55 => (if t55 = true then ((spec_IsTime.f a0_5).bind fun t60 => (if t60 = true then (some (decide (a0_4 ≤ a0_5))) else (some false))) else (some false))) else (some false))) else (some false))) else (some false))) else (if a0_0 = 2 then ((spec_HasKind.f a0_1 1).bind fun t20 => (if t20 = true then ((spec_HasKind.f a0_2 2).bind fun t24 => (if t24 = true then ((spec_l1In.f a0_3 0 9).bind fun t50 => (if t50 = true then ((spec_IsTime.f a0_4).bind fun t55 => (if t55 = true then ((spec_IsTime.f a0_5).bind fun t60 => (if t60 = true then (some (decide (a0_4 ≤ a0_5))) else (some false))) else (some false))) else (some false))) else (some false))) else (some false))) else (if a0_0 = 3 then ((spec_HasKind.f a0_1 2).bind fun t30 => (if t30 = true then ((spec_l1In.f a0_2 0 3).bind fun t34 => (if t34 = true then ((spec_l1In.f a0_3 0 9).bind fun t50 => (if t50 = true then ((spec_IsTime.f a0_4).bind fun t55 => (if t55 = true then ((spec_IsTime.f a0_5).bind fun t60 => (if t60 = true then (some (decide (a0_4 ≤ a0_5))) else (some false))) else (some false))) else (some false))) else (some false))) else (some false))) else (if a0_0 = 4 then ((spec_HasKind.f a0_1 3).bind fun t40 => (if t40 = true then ((spec_l1In.f a0_2 0 3).bind fun t44 => (if t44 = true then ((spec_l1In.f a0_3 0 9).bind fun t50 => (if t50 = true then ((spec_IsTime.f a0_4).bind fun t55 => (if t55 = true then ((spec_IsTime.f a0_5).bind fun t60 => (if t60 = true then (some (decide (a0_4 ≤ a0_5))) else (some false))) else (some false))) else (some false))) else (some false))) else (some false))) else (some false))))
def spec_IsWithin.f (a0 : Int) (a1 : Int) (a2 : Int) : Option (Bool) := (spec_IsTime.f a0).bind fun t8 => (if t8 = true then ((spec_IsTime.f a1).bind fun t11 => (if t11 = true then ((spec_IsTime.f a2).bind fun t15 => (if t15 = true then (if a0 ≤ a2 then (some (decide (a2 ≤ a1))) else (some false)) else (some false))) else (some false))) else (some false))
def spec_AgeOf.f (a0 : Int) (a1 : Int) : Option (Int) := (spec_IsTime.f a0).bind fun t6 => (if t6 = true then ((spec_IsTime.f a1).bind fun t10 => (if t10 = true then (if a0 > a1 then (some (-1)) else (some (wrap64 (a1 - a0)))) else (some (-1)))) else (some (-1)))
def spec_IsFresh.f (a0 : Int) (a1 : Int) (a2 : Int) : Option (Bool) := (spec_AgeOf.f a0 a1).bind fun t10 => (if t10 ≥ 0 then (some (decide (t10 ≤ a2))) else (some false))
def spec_HoldsAt.f (a0_0 : Int) (a0_1 : Int) (a0_2 : Int) (a0_3 : Int) (a0_4 : Int) (a0_5 : Int) (a1 : Int) (a2 : Int) : Option (Bool) := (spec_IsFact.f a0_0 a0_1 a0_2 a0_3 a0_4 a0_5).bind fun t8 => (if t8 = true then ((spec_IsWithin.f a0_4 a0_5 a1).bind fun t15 => (if t15 = true then ((spec_IsFresh.f a0_4 a1 a2).bind fun t22 => (some t22)) else (some false))) else (some false))
mutual
def spec_RolesUnder.l0 : Nat → List S112 → List Int → List Bool → Int → Option ((List Int))
 | 0, _, _, _, _ => none
 | k + 1, x0, x5, x6, x7 => if x7 ≤ 5 then (spec_RolesUnder.l1 k x0 x5 x6 x7 0) else (spec_RolesUnder.l2 k x5 x6 0)
def spec_RolesUnder.l1 : Nat → List S112 → List Int → List Bool → Int → Int → Option ((List Int))
 | 0, _, _, _, _, _ => none
 | k + 1, x0, x5, x6, x7, x8 => if x8 < (x0.length : Int) then (if 0 ≤ x8 then ((spec_l1In.f ((rd_T112 x0 x8).f0) 0 5).bind fun t34 => (if t34 = true then ((spec_l1In.f ((rd_T112 x0 x8).f1) 0 5).bind fun t41 => (if t41 = true then (if 0 ≤ (rd_T112 x0 x8).f0 then (if (rd_T112 x0 x8).f0 < (x6.length : Int) then (if (rdOf false x6 ((rd_T112 x0 x8).f0)) = true then (if 0 ≤ (rd_T112 x0 x8).f1 then (if (rd_T112 x0 x8).f1 < (x6.length : Int) then (spec_RolesUnder.l1 k x0 x5 (x6.set ((rd_T112 x0 x8).f1 : Int).toNat true) x7 (wrap64 (x8 + 1))) else none) else none) else (spec_RolesUnder.l1 k x0 x5 x6 x7 (wrap64 (x8 + 1)))) else none) else none) else (spec_RolesUnder.l1 k x0 x5 x6 x7 (wrap64 (x8 + 1))))) else (spec_RolesUnder.l1 k x0 x5 x6 x7 (wrap64 (x8 + 1))))) else none) else (spec_RolesUnder.l0 k x0 x5 x6 (wrap64 (x7 + 1)))
def spec_RolesUnder.l2 : Nat → List Int → List Bool → Int → Option ((List Int))
 | 0, _, _, _ => none
 | k + 1, x5, x6, x9 => if x9 ≤ 5 then (if 0 ≤ x9 then (if x9 < (x6.length : Int) then (if (rdOf false x6 x9) = true then (if x5.length < 17592186044416 then (spec_RolesUnder.l2 k (x5 ++ [x9]) x6 (wrap64 (x9 + 1))) else none) else (spec_RolesUnder.l2 k x5 x6 (wrap64 (x9 + 1)))) else none) else none) else (some x5)
end
def spec_RolesUnder.f (k : Nat) (a0 : List S112) (a1 : Int) : Option ((List Int)) := (spec_l1In.f a1 0 5).bind fun t12 => (if t12 = true then (if 0 ≤ a1 then (if a1 < ((List.replicate 6 false).length : Int) then (spec_RolesUnder.l0 k a0 ([] : List Int) ((List.replicate 6 false).set (a1 : Int).toNat true) 0) else none) else none) else (some ([] : List Int)))
mutual
def spec_RolesOf.l0 : Nat → List S112 → List S83 → Int → Int → Int → List Bool → Int → Option ((List Int))
 | 0, _, _, _, _, _, _, _ => none
 | k + 1, x0, x1, x2, x3, x4, x11, x12 => if x12 < (x1.length : Int) then (if 0 ≤ x12 then (if (rd_T83 x1 x12).f0 = 1 then (if (rd_T83 x1 x12).f1 = x2 then ((spec_HoldsAt.f ((rd_T83 x1 x12).f0) ((rd_T83 x1 x12).f1) ((rd_T83 x1 x12).f2) ((rd_T83 x1 x12).f3) ((rd_T83 x1 x12).f4) ((rd_T83 x1 x12).f5) x3 x4).bind fun t46 => (if t46 = true then ((spec_RolesUnder.f k x0 ((rd_T83 x1 x12).f2)).bind fun t55 => (spec_RolesOf.l1 k x0 x1 x2 x3 x4 x11 x12 t55 0)) else (spec_RolesOf.l0 k x0 x1 x2 x3 x4 x11 (wrap64 (x12 + 1))))) else (spec_RolesOf.l0 k x0 x1 x2 x3 x4 x11 (wrap64 (x12 + 1)))) else (spec_RolesOf.l0 k x0 x1 x2 x3 x4 x11 (wrap64 (x12 + 1)))) else none) else (spec_RolesOf.l2 k x11 ([] : List Int) 0)
def spec_RolesOf.l1 : Nat → List S112 → List S83 → Int → Int → Int → List Bool → Int → List Int → Int → Option ((List Int))
 | 0, _, _, _, _, _, _, _, _, _ => none
 | k + 1, x0, x1, x2, x3, x4, x11, x12, x13, x14 => if x14 < (x13.length : Int) then (if 0 ≤ x14 then (if 0 ≤ (rd x13 x14) then (if (rd x13 x14) < (x11.length : Int) then (spec_RolesOf.l1 k x0 x1 x2 x3 x4 (x11.set ((rd x13 x14) : Int).toNat true) x12 x13 (wrap64 (x14 + 1))) else none) else none) else none) else (spec_RolesOf.l0 k x0 x1 x2 x3 x4 x11 (wrap64 (x12 + 1)))
def spec_RolesOf.l2 : Nat → List Bool → List Int → Int → Option ((List Int))
 | 0, _, _, _ => none
 | k + 1, x11, x15, x16 => if x16 ≤ 5 then (if 0 ≤ x16 then (if x16 < (x11.length : Int) then (if (rdOf false x11 x16) = true then (if x15.length < 17592186044416 then (spec_RolesOf.l2 k x11 (x15 ++ [x16]) (wrap64 (x16 + 1))) else none) else (spec_RolesOf.l2 k x11 x15 (wrap64 (x16 + 1)))) else none) else none) else (some x15)
end
def spec_RolesOf.f (k : Nat) (a0 : List S112) (a1 : List S83) (a2 : Int) (a3 : Int) (a4 : Int) : Option ((List Int)) := spec_RolesOf.l0 k a0 a1 a2 a3 a4 (List.replicate 6 false) 0
def spec_l13Has.l0 : Nat → List Int → Int → Int → Option (Bool)
 | 0, _, _, _ => none
 | k + 1, x0, x1, x5 => if x5 < (x0.length : Int) then (if 0 ≤ x5 then (if (rd x0 x5) = x1 then (some true) else (spec_l13Has.l0 k x0 x1 (wrap64 (x5 + 1)))) else none) else (some false)
def spec_l13Has.f (k : Nat) (a0 : List Int) (a1 : Int) : Option (Bool) := spec_l13Has.l0 k a0 a1 0
def spec_HasRole.f (k : Nat) (a0 : List S112) (a1 : List S83) (a2 : Int) (a3 : Int) (a4 : Int) (a5 : Int) : Option (Bool) := (spec_RolesOf.f k a0 a1 a2 a4 a5).bind fun t18 => ((spec_l13Has.f k t18 a3).bind fun t20 => (some t20))
def spec_FindFact.l0 : Nat → List S83 → Int → Int → Int → Int → Int → Int → Option (Int)
 | 0, _, _, _, _, _, _, _ => none
 | k + 1, x0, x1, x2, x3, x4, x5, x13 => if x13 < (x0.length : Int) then (if 0 ≤ x13 then (if (rd_T83 x0 x13).f0 = x1 then (if (rd_T83 x0 x13).f1 = x2 then (if (rd_T83 x0 x13).f2 = x3 then ((spec_HoldsAt.f ((rd_T83 x0 x13).f0) ((rd_T83 x0 x13).f1) ((rd_T83 x0 x13).f2) ((rd_T83 x0 x13).f3) ((rd_T83 x0 x13).f4) ((rd_T83 x0 x13).f5) x4 x5).bind fun t52 => (if t52 = true then (some x13) else (spec_FindFact.l0 k x0 x1 x2 x3 x4 x5 (wrap64 (x13 + 1))))) else (spec_FindFact.l0 k x0 x1 x2 x3 x4 x5 (wrap64 (x13 + 1)))) else (spec_FindFact.l0 k x0 x1 x2 x3 x4 x5 (wrap64 (x13 + 1)))) else (spec_FindFact.l0 k x0 x1 x2 x3 x4 x5 (wrap64 (x13 + 1)))) else none) else (some (-1))
def spec_FindFact.f (k : Nat) (a0 : List S83) (a1 : Int) (a2 : Int) (a3 : Int) (a4 : Int) (a5 : Int) : Option (Int) := spec_FindFact.l0 k a0 a1 a2 a3 a4 a5 0
def spec_Max.f (a0 : Int) (a1 : Int) : Option (Int) := if a1 > a0 then (some a1) else (some a0)
def spec_BestValue.l0 : Nat → List S83 → Int → Int → Int → Int → Int → Int → Option (Int)
 | 0, _, _, _, _, _, _, _ => none
 | k + 1, x0, x1, x2, x3, x4, x11, x12 => if x12 < (x0.length : Int) then (if 0 ≤ x12 then (if (rd_T83 x0 x12).f0 = x1 then (if (rd_T83 x0 x12).f1 = x2 then ((spec_HoldsAt.f ((rd_T83 x0 x12).f0) ((rd_T83 x0 x12).f1) ((rd_T83 x0 x12).f2) ((rd_T83 x0 x12).f3) ((rd_T83 x0 x12).f4) ((rd_T83 x0 x12).f5) x3 x4).bind fun t42 => (if t42 = true then ((spec_Max.f x11 ((rd_T83 x0 x12).f2)).bind fun t50 => (spec_BestValue.l0 k x0 x1 x2 x3 x4 t50 (wrap64 (x12 + 1)))) else (spec_BestValue.l0 k x0 x1 x2 x3 x4 x11 (wrap64 (x12 + 1))))) else (spec_BestValue.l0 k x0 x1 x2 x3 x4 x11 (wrap64 (x12 + 1)))) else (spec_BestValue.l0 k x0 x1 x2 x3 x4 x11 (wrap64 (x12 + 1)))) else none) else (some x11)
def spec_BestValue.f (k : Nat) (a0 : List S83) (a1 : Int) (a2 : Int) (a3 : Int) (a4 : Int) : Option (Int) := spec_BestValue.l0 k a0 a1 a2 a3 a4 (-1) 0
def spec_LeafHolds.f (k : Nat) (a0 : List S112) (a1 : List S83) (a2_0 : Int) (a2_1 : Int) (a2_2 : Int) (a2_3 : List S108) (a3_0 : Int) (a3_1 : Int) (a3_2 : Int) (a3_3 : Int) (a3_4 : Int) (a3_5 : Int) : Option (Bool) := if a2_0 = 1 then (some true) else (if a2_0 = 2 then ((spec_HasRole.f k a0 a1 a3_0 a2_1 a3_5 a2_2).bind fun t25 => (some t25)) else (if a2_0 = 3 then ((spec_FindFact.f k a1 2 a3_0 a3_1 a3_5 a2_2).bind fun t37 => (some (decide (t37 ≥ 0)))) else (if a2_0 = 4 then ((spec_BestValue.f k a1 3 a3_1 a3_5 a2_2).bind fun t48 => (some (decide (t48 ≥ a2_1)))) else (if a2_0 = 5 then ((spec_BestValue.f k a1 4 a3_2 a3_5 a2_2).bind fun t61 => (some (decide (t61 ≥ a2_1)))) else (if a2_0 = 6 then (some (decide (a3_5 ≤ a2_1))) else (some false))))))
def spec_l18Eval.f : Nat → List S112 → List S83 → Int → Int → Int → List S108 → Int → Int → Int → Int → Int → Int → Option (Bool)
 | 0, _, _, _, _, _, _, _, _, _, _, _, _ => none
 | k + 1, a0, a1, a2_0, a2_1, a2_2, a2_3, a3_0, a3_1, a3_2, a3_3, a3_4, a3_5 => if a2_0 = 7 then (if 0 < (a2_3.length : Int) then ((spec_l18Eval.f k a0 a1 ((rd_T108 a2_3 0).f0) ((rd_T108 a2_3 0).f1) ((rd_T108 a2_3 0).f2) ((rd_T108 a2_3 0).f3) a3_0 a3_1 a3_2 a3_3 a3_4 a3_5).bind fun t20 => (some (!t20))) else none) else (if a2_0 = 8 then (if 0 < (a2_3.length : Int) then ((spec_l18Eval.f k a0 a1 ((rd_T108 a2_3 0).f0) ((rd_T108 a2_3 0).f1) ((rd_T108 a2_3 0).f2) ((rd_T108 a2_3 0).f3) a3_0 a3_1 a3_2 a3_3 a3_4 a3_5).bind fun t31 => (if t31 = true then (if 1 < (a2_3.length : Int) then ((spec_l18Eval.f k a0 a1 ((rd_T108 a2_3 1).f0) ((rd_T108 a2_3 1).f1) ((rd_T108 a2_3 1).f2) ((rd_T108 a2_3 1).f3) a3_0 a3_1 a3_2 a3_3 a3_4 a3_5).bind fun t40 => (some t40)) else none) else (some false))) else none) else (if a2_0 = 9 then (if 0 < (a2_3.length : Int) then ((spec_l18Eval.f k a0 a1 ((rd_T108 a2_3 0).f0) ((rd_T108 a2_3 0).f1) ((rd_T108 a2_3 0).f2) ((rd_T108 a2_3 0).f3) a3_0 a3_1 a3_2 a3_3 a3_4 a3_5).bind fun t51 => (if t51 = true then (some true) else (if 1 < (a2_3.length : Int) then ((spec_l18Eval.f k a0 a1 ((rd_T108 a2_3 1).f0) ((rd_T108 a2_3 1).f1) ((rd_T108 a2_3 1).f2) ((rd_T108 a2_3 1).f3) a3_0 a3_1 a3_2 a3_3 a3_4 a3_5).bind fun t60 => (some t60)) else none))) else none) else ((spec_LeafHolds.f k a0 a1 a2_0 a2_1 a2_2 a2_3 a3_0 a3_1 a3_2 a3_3 a3_4 a3_5).bind fun t66 => (some t66))))
def spec_EvalCond.f (k : Nat) (a0 : List S112) (a1 : List S83) (a2_0 : Int) (a2_1 : Int) (a2_2 : Int) (a2_3 : List S108) (a3_0 : Int) (a3_1 : Int) (a3_2 : Int) (a3_3 : Int) (a3_4 : Int) (a3_5 : Int) : Option (Bool) := (spec_IsCond.f k a2_0 a2_1 a2_2 a2_3).bind fun t10 => (if t10 = true then ((spec_l18Eval.f k a0 a1 a2_0 a2_1 a2_2 a2_3 a3_0 a3_1 a3_2 a3_3 a3_4 a3_5).bind fun t16 => (some t16)) else (some false))
def spec_RulesThatHold.l0 : Nat → List S112 → List S83 → Int → List S110 → Int → Int → Int → Int → Int → Int → List Int → Int → Option ((List Int))
 | 0, _, _, _, _, _, _, _, _, _, _, _, _ => none
 | k + 1, x0, x1, x6_0, x6_1, x7_0, x7_1, x7_2, x7_3, x7_4, x7_5, x9, x10 => if x10 < (x6_1.length : Int) then (if 0 ≤ x10 then ((spec_IsFor.f ((rd_T110 x6_1 x10).f0) ((rd_T110 x6_1 x10).f1) ((rd_T110 x6_1 x10).f2) ((rd_T110 x6_1 x10).f3.f0) ((rd_T110 x6_1 x10).f3.f1) ((rd_T110 x6_1 x10).f3.f2) ((rd_T110 x6_1 x10).f3.f3) x7_3 x7_4).bind fun t28 => (if t28 = true then ((spec_EvalCond.f k x0 x1 ((rd_T110 x6_1 x10).f3.f0) ((rd_T110 x6_1 x10).f3.f1) ((rd_T110 x6_1 x10).f3.f2) ((rd_T110 x6_1 x10).f3.f3) x7_0 x7_1 x7_2 x7_3 x7_4 x7_5).bind fun t39 => (if t39 = true then (if x9.length < 17592186044416 then (spec_RulesThatHold.l0 k x0 x1 x6_0 x6_1 x7_0 x7_1 x7_2 x7_3 x7_4 x7_5 (x9 ++ [x10]) (wrap64 (x10 + 1))) else none) else (spec_RulesThatHold.l0 k x0 x1 x6_0 x6_1 x7_0 x7_1 x7_2 x7_3 x7_4 x7_5 x9 (wrap64 (x10 + 1))))) else (spec_RulesThatHold.l0 k x0 x1 x6_0 x6_1 x7_0 x7_1 x7_2 x7_3 x7_4 x7_5 x9 (wrap64 (x10 + 1))))) else none) else (some x9)
def spec_RulesThatHold.f (k : Nat) (a0 : List S112) (a1 : List S83) (a2_0 : Int) (a2_1 : List S110) (a3_0 : Int) (a3_1 : Int) (a3_2 : Int) (a3_3 : Int) (a3_4 : Int) (a3_5 : Int) : Option ((List Int)) := spec_RulesThatHold.l0 k a0 a1 a2_0 a2_1 a3_0 a3_1 a3_2 a3_3 a3_4 a3_5 ([] : List Int) 0
def spec_DecideBy.l0 : Nat → Int → List S110 → List Int → Int → Option (Int)
 | 0, _, _, _, _ => none
 | k + 1, x6_0, x6_1, x9, x10 => if x10 < (x9.length : Int) then (if 0 ≤ x10 then (if 0 ≤ (rd x9 x10) then (if (rd x9 x10) < (x6_1.length : Int) then (if (rd_T110 x6_1 (rd x9 x10)).f0 = 0 then (some 0) else (spec_DecideBy.l0 k x6_0 x6_1 x9 (wrap64 (x10 + 1)))) else none) else none) else none) else (if (x9.length : Int) = 0 then (some 0) else (some 1))
def spec_DecideBy.f (k : Nat) (a0 : List S112) (a1 : List S83) (a2_0 : Int) (a2_1 : List S110) (a3_0 : Int) (a3_1 : Int) (a3_2 : Int) (a3_3 : Int) (a3_4 : Int) (a3_5 : Int) : Option (Int) := (spec_IsRequest.f a3_0 a3_1 a3_2 a3_3 a3_4 a3_5).bind fun t12 => (if t12 = true then ((spec_IsPolicy.f k a2_0 a2_1).bind fun t16 => (if t16 = true then ((spec_RulesThatHold.f k a0 a1 a2_0 a2_1 a3_0 a3_1 a3_2 a3_3 a3_4 a3_5).bind fun t23 => (spec_DecideBy.l0 k a2_0 a2_1 t23 0)) else (some 0))) else (some 0))
def spec_l27True.l0 : Nat → Int → Int → Int → List S112 → Int → List S110 → List S83 → List S86 → Int → List S58 → Int → Int → Int → Int → Int → Int → Int → Int → Int → Option (Bool)
 | 0, _, _, _, _, _, _, _, _, _, _, _, _, _, _, _, _, _, _, _ => none
 | k + 1, x2_0, x2_1, x2_2, x2_3, x2_4, x2_5, x2_6, x2_7, x2_8, x2_9, x3_0, x3_1, x3_2, x3_3, x3_4, x3_5, x3_6, x3_7, x5 => if x5 ≤ x3_7 then ((spec_AtTime.f x3_0 x3_1 x3_2 x3_3 x3_4 x3_5 x5).bind fun t55 => ((spec_DecideBy.f k x2_3 x2_6 x2_4 x2_5 t55.1 t55.2.1 t55.2.2.1 t55.2.2.2.1 t55.2.2.2.2.1 t55.2.2.2.2.2).bind fun t56 => (if t56 = x3_6 then (spec_l27True.l0 k x2_0 x2_1 x2_2 x2_3 x2_4 x2_5 x2_6 x2_7 x2_8 x2_9 x3_0 x3_1 x3_2 x3_3 x3_4 x3_5 x3_6 x3_7 (wrap64 (x5 + 1))) else (some false)))) else (some true)
def spec_l27True.f (k : Nat) (a0_0 : Int) (a0_1 : Int) (a0_2 : Int) (a0_3 : List S112) (a0_4 : Int) (a0_5 : List S110) (a0_6 : List S83) (a0_7 : List S86) (a0_8 : Int) (a0_9 : List S58) (a1_0 : Int) (a1_1 : Int) (a1_2 : Int) (a1_3 : Int) (a1_4 : Int) (a1_5 : Int) (a1_6 : Int) (a1_7 : Int) : Option (Bool) := (spec_IsRequest.f a1_0 a1_1 a1_2 a1_3 a1_4 a1_5).bind fun t8 => (if t8 = true then (if a1_5 < a0_8 then (some false) else (if a1_7 < a1_5 then (some false) else (if a1_7 > (wrap64 (a1_5 + 10)) then (some false) else (spec_l27True.l0 k a0_0 a0_1 a0_2 a0_3 a0_4 a0_5 a0_6 a0_7 a0_8 a0_9 a1_0 a1_1 a1_2 a1_3 a1_4 a1_5 a1_6 a1_7 a1_5)))) else (some false))
def spec_ArePairs.l0 : Nat → List S112 → Int → Option (Bool)
 | 0, _, _ => none
 | k + 1, x0, x3 => if x3 < (x0.length : Int) then (if 0 ≤ x3 then ((spec_l1In.f ((rd_T112 x0 x3).f0) 0 5).bind fun t15 => (if t15 = true then ((spec_l1In.f ((rd_T112 x0 x3).f1) 0 5).bind fun t23 => (if t23 = true then ((spec_RolesUnder.f k x0 ((rd_T112 x0 x3).f1)).bind fun t33 => ((spec_l13Has.f k t33 ((rd_T112 x0 x3).f0)).bind fun t39 => (if t39 = true then (some false) else (spec_ArePairs.l0 k x0 (wrap64 (x3 + 1)))))) else (some false))) else (some false))) else none) else (some (decide ((x0.length : Int) ≤ 10)))
def spec_ArePairs.f (k : Nat) (a0 : List S112) : Option (Bool) := spec_ArePairs.l0 k a0 0
def spec_IsEpoch.f (k : Nat) (a0_0 : Int) (a0_1 : Int) (a0_2 : List S112) (a0_3 : Int) (a0_4 : List S110) : Option (Bool) := (spec_l1In.f a0_0 0 999).bind fun t5 => (if t5 = true then ((spec_IsTime.f a0_1).bind fun t9 => (if t9 = true then ((spec_ArePairs.f k a0_2).bind fun t14 => (if t14 = true then ((spec_IsPolicy.f k a0_3 a0_4).bind fun t19 => (if t19 = true then (some (decide (a0_3 = a0_0))) else (some false))) else (some false))) else (some false))) else (some false))
def spec_FactBefore.f (a0_0 : Int) (a0_1 : Int) (a0_2 : Int) (a0_3 : Int) (a0_4 : Int) (a0_5 : Int) (a1_0 : Int) (a1_1 : Int) (a1_2 : Int) (a1_3 : Int) (a1_4 : Int) (a1_5 : Int) : Option (Bool) := if a0_0 = a1_0 then (if a0_1 = a1_1 then (if a0_2 = a1_2 then (some (decide (a0_3 < a1_3))) else (some (decide (a0_2 < a1_2)))) else (some (decide (a0_1 < a1_1)))) else (some (decide (a0_0 < a1_0)))
def spec_IsStore.l0 : Nat → List S83 → Int → Option (Bool)
 | 0, _, _ => none
 | k + 1, x0, x3 => if x3 < (x0.length : Int) then (if 0 ≤ x3 then ((spec_IsFact.f ((rd_T83 x0 x3).f0) ((rd_T83 x0 x3).f1) ((rd_T83 x0 x3).f2) ((rd_T83 x0 x3).f3) ((rd_T83 x0 x3).f4) ((rd_T83 x0 x3).f5)).bind fun t14 => (if t14 = true then (if x3 > 0 then (if 0 ≤ (wrap64 (x3 - 1)) then (if (wrap64 (x3 - 1)) < (x0.length : Int) then ((spec_FactBefore.f ((rd_T83 x0 (wrap64 (x3 - 1))).f0) ((rd_T83 x0 (wrap64 (x3 - 1))).f1) ((rd_T83 x0 (wrap64 (x3 - 1))).f2) ((rd_T83 x0 (wrap64 (x3 - 1))).f3) ((rd_T83 x0 (wrap64 (x3 - 1))).f4) ((rd_T83 x0 (wrap64 (x3 - 1))).f5) ((rd_T83 x0 x3).f0) ((rd_T83 x0 x3).f1) ((rd_T83 x0 x3).f2) ((rd_T83 x0 x3).f3) ((rd_T83 x0 x3).f4) ((rd_T83 x0 x3).f5)).bind fun t29 => (if t29 = true then (spec_IsStore.l0 k x0 (wrap64 (x3 + 1))) else (some false))) else none) else none) else (spec_IsStore.l0 k x0 (wrap64 (x3 + 1)))) else (some false))) else none) else (some (decide ((x0.length : Int) ≤ 30)))
def spec_IsStore.f (k : Nat) (a0 : List S83) : Option (Bool) := spec_IsStore.l0 k a0 0
def spec_AreRevoked.l0 : Nat → List S86 → Int → Option (Bool)
 | 0, _, _ => none
 | k + 1, x0, x3 => if x3 < (x0.length : Int) then (if 0 ≤ x3 then ((spec_l1In.f ((rd_T86 x0 x3).f0) 1 9999).bind fun t15 => (if t15 = true then ((spec_IsTime.f ((rd_T86 x0 x3).f1)).bind fun t23 => (if t23 = true then (if x3 > 0 then (if 0 ≤ (wrap64 (x3 - 1)) then (if (wrap64 (x3 - 1)) < (x0.length : Int) then (if (rd_T86 x0 (wrap64 (x3 - 1))).f0 ≥ (rd_T86 x0 x3).f0 then (some false) else (spec_AreRevoked.l0 k x0 (wrap64 (x3 + 1)))) else none) else none) else (spec_AreRevoked.l0 k x0 (wrap64 (x3 + 1)))) else (some false))) else (some false))) else none) else (some (decide ((x0.length : Int) ≤ 40)))
def spec_AreRevoked.f (k : Nat) (a0 : List S86) : Option (Bool) := spec_AreRevoked.l0 k a0 0
def spec_IsPoint.l0 : Nat → Int → Int → Int → List S112 → Int → List S110 → List S83 → List S86 → Int → List S58 → Int → Option (Bool)
 | 0, _, _, _, _, _, _, _, _, _, _, _ => none
 | k + 1, x1_0, x1_1, x1_2, x1_3, x1_4, x1_5, x1_6, x1_7, x1_8, x1_9, x3 => if x3 < (x1_9.length : Int) then (if 0 ≤ x3 then ((spec_l27True.f k x1_0 x1_1 x1_2 x1_3 x1_4 x1_5 x1_6 x1_7 x1_8 x1_9 ((rd_T58 x1_9 x3).f0.f0) ((rd_T58 x1_9 x3).f0.f1) ((rd_T58 x1_9 x3).f0.f2) ((rd_T58 x1_9 x3).f0.f3) ((rd_T58 x1_9 x3).f0.f4) ((rd_T58 x1_9 x3).f0.f5) ((rd_T58 x1_9 x3).f1) ((rd_T58 x1_9 x3).f2)).bind fun t25 => (if t25 = true then (spec_IsPoint.l0 k x1_0 x1_1 x1_2 x1_3 x1_4 x1_5 x1_6 x1_7 x1_8 x1_9 (wrap64 (x3 + 1))) else (some false))) else none) else ((spec_IsTime.f x1_8).bind fun t29 => (if t29 = true then ((spec_IsEpoch.f k x1_1 x1_2 x1_3 x1_4 x1_5).bind fun t33 => (if t33 = true then ((spec_IsStore.f k x1_6).bind fun t38 => (if t38 = true then ((spec_AreRevoked.f k x1_7).bind fun t43 => (if t43 = true then (some (decide ((x1_9.length : Int) ≤ 8))) else (some false))) else (some false))) else (some false))) else (some false)))
def spec_IsPoint.f (k : Nat) (a0_0 : Int) (a0_1 : Int) (a0_2 : Int) (a0_3 : List S112) (a0_4 : Int) (a0_5 : List S110) (a0_6 : List S83) (a0_7 : List S86) (a0_8 : Int) (a0_9 : List S58) : Option (Bool) := if a0_8 = (-1) then ((spec_NewPoint.f a0_0).bind fun t10 => ((spec_EqualPoints.f k a0_0 a0_1 a0_2 a0_3 a0_4 a0_5 a0_6 a0_7 a0_8 a0_9 t10.1 t10.2.1 t10.2.2.1 t10.2.2.2.1 t10.2.2.2.2.1 t10.2.2.2.2.2.1 t10.2.2.2.2.2.2.1 t10.2.2.2.2.2.2.2.1 t10.2.2.2.2.2.2.2.2.1 t10.2.2.2.2.2.2.2.2.2).bind fun t11 => (some t11))) else (spec_IsPoint.l0 k a0_0 a0_1 a0_2 a0_3 a0_4 a0_5 a0_6 a0_7 a0_8 a0_9 0)
def impl_NewPoint.f (a0 : Int) : Option (Int × Int × Int × (List S112) × Int × (List S110) × (List S83) × (List S86) × Int × (List S58)) := some (a0, 0, 0, ([] : List S112), 0, ([] : List S110), ([] : List S83), ([] : List S86), (-1), ([] : List S58))
def slices_Equal85.l0 : Nat → List S112 → List S112 → Int → Int → Option (Bool)
 | 0, _, _, _, _ => none
 | k + 1, x0, x1, x12, x13 => if x13 < x12 then (if 0 ≤ x13 then (if x13 < (x0.length : Int) then (if x13 < (x1.length : Int) then (if (rd_T112 x0 x13).f0 = (rd_T112 x1 x13).f0 ∧ (rd_T112 x0 x13).f1 = (rd_T112 x1 x13).f1 then (slices_Equal85.l0 k x0 x1 x12 (wrap64 (x13 + 1))) else (some false)) else none) else none) else none) else (some true)
def slices_Equal85.f (k : Nat) (a0 : List S112) (a1 : List S112) : Option (Bool) := if (a0.length : Int) = (a1.length : Int) then (slices_Equal85.l0 k a0 a1 (a0.length : Int) 0) else (some false)
mutual
def slices_EqualFunc133_122.l0 : Nat → List S108 → List S108 → Int → Int → Option (Bool)
 | 0, _, _, _, _ => none
 | k + 1, x1, x15, x16, x17 => if x17 < x16 then (if 0 ≤ x17 then (if x17 < (x15.length : Int) then (if x17 < (x1.length : Int) then ((impl_EqualConds.f k ((rd_T108 x15 x17).f0) ((rd_T108 x15 x17).f1) ((rd_T108 x15 x17).f2) ((rd_T108 x15 x17).f3) ((rd_T108 x1 x17).f0) ((rd_T108 x1 x17).f1) ((rd_T108 x1 x17).f2) ((rd_T108 x1 x17).f3)).bind fun t29 => (if t29 = true then (slices_EqualFunc133_122.l0 k x1 x15 x16 (wrap64 (x17 + 1))) else (some false))) else none) else none) else none) else (some true)
def slices_EqualFunc133_122.f : Nat → List S108 → List S108 → Option (Bool)
 | 0, _, _ => none
 | k + 1, a0, a1 => if (a0.length : Int) = (a1.length : Int) then (slices_EqualFunc133_122.l0 k a1 a0 (a0.length : Int) 0) else (some false)
def impl_EqualConds.f : Nat → Int → Int → Int → List S108 → Int → Int → Int → List S108 → Option (Bool)
 | 0, _, _, _, _, _, _, _, _ => none
 | k + 1, a0_0, a0_1, a0_2, a0_3, a1_0, a1_1, a1_2, a1_3 => if a0_0 = a1_0 then (if a0_1 = a1_1 then (if a0_2 = a1_2 then ((slices_EqualFunc133_122.f k a0_3 a1_3).bind fun t29 => (some t29)) else (some false)) else (some false)) else (some false)
end
def impl_equalRules.f (k : Nat) (a0_0 : Int) (a0_1 : Int) (a0_2 : Int) (a0_3 : Int) (a0_4 : Int) (a0_5 : Int) (a0_6 : List S108) (a1_0 : Int) (a1_1 : Int) (a1_2 : Int) (a1_3 : Int) (a1_4 : Int) (a1_5 : Int) (a1_6 : List S108) : Option (Bool) := if a0_0 = a1_0 then (if a0_1 = a1_1 then (if a0_2 = a1_2 then ((impl_EqualConds.f k a0_3 a0_4 a0_5 a0_6 a1_3 a1_4 a1_5 a1_6).bind fun t29 => (some t29)) else (some false)) else (some false)) else (some false)
def slices_EqualFunc108_109.l0 : Nat → List S110 → List S110 → Int → Int → Option (Bool)
 | 0, _, _, _, _ => none
 | k + 1, x1, x15, x16, x17 => if x17 < x16 then (if 0 ≤ x17 then (if x17 < (x15.length : Int) then (if x17 < (x1.length : Int) then ((impl_equalRules.f k ((rd_T110 x15 x17).f0) ((rd_T110 x15 x17).f1) ((rd_T110 x15 x17).f2) ((rd_T110 x15 x17).f3.f0) ((rd_T110 x15 x17).f3.f1) ((rd_T110 x15 x17).f3.f2) ((rd_T110 x15 x17).f3.f3) ((rd_T110 x1 x17).f0) ((rd_T110 x1 x17).f1) ((rd_T110 x1 x17).f2) ((rd_T110 x1 x17).f3.f0) ((rd_T110 x1 x17).f3.f1) ((rd_T110 x1 x17).f3.f2) ((rd_T110 x1 x17).f3.f3)).bind fun t29 => (if t29 = true then (slices_EqualFunc108_109.l0 k x1 x15 x16 (wrap64 (x17 + 1))) else (some false))) else none) else none) else none) else (some true)
def slices_EqualFunc108_109.f (k : Nat) (a0 : List S110) (a1 : List S110) : Option (Bool) := if (a0.length : Int) = (a1.length : Int) then (slices_EqualFunc108_109.l0 k a1 a0 (a0.length : Int) 0) else (some false)
def impl_EqualPolicies.f (k : Nat) (a0_0 : Int) (a0_1 : List S110) (a1_0 : Int) (a1_1 : List S110) : Option (Bool) := if a0_0 = a1_0 then ((slices_EqualFunc108_109.f k a0_1 a1_1).bind fun t15 => (some t15)) else (some false)
def impl_EqualEpochs.f (k : Nat) (a0_0 : Int) (a0_1 : Int) (a0_2 : List S112) (a0_3 : Int) (a0_4 : List S110) (a1_0 : Int) (a1_1 : Int) (a1_2 : List S112) (a1_3 : Int) (a1_4 : List S110) : Option (Bool) := if a0_0 = a1_0 then (if a0_1 = a1_1 then ((slices_Equal85.f k a0_2 a1_2).bind fun t22 => (if t22 = true then ((impl_EqualPolicies.f k a0_3 a0_4 a1_3 a1_4).bind fun t29 => (some t29)) else (some false))) else (some false)) else (some false)
def slices_Equal87.l0 : Nat → List S83 → List S83 → Int → Int → Option (Bool)
 | 0, _, _, _, _ => none
 | k + 1, x0, x1, x12, x13 => if x13 < x12 then (if 0 ≤ x13 then (if x13 < (x0.length : Int) then (if x13 < (x1.length : Int) then (if (rd_T83 x0 x13).f0 = (rd_T83 x1 x13).f0 ∧ (rd_T83 x0 x13).f1 = (rd_T83 x1 x13).f1 ∧ (rd_T83 x0 x13).f2 = (rd_T83 x1 x13).f2 ∧ (rd_T83 x0 x13).f3 = (rd_T83 x1 x13).f3 ∧ (rd_T83 x0 x13).f4 = (rd_T83 x1 x13).f4 ∧ (rd_T83 x0 x13).f5 = (rd_T83 x1 x13).f5 then (slices_Equal87.l0 k x0 x1 x12 (wrap64 (x13 + 1))) else (some false)) else none) else none) else none) else (some true)
def slices_Equal87.f (k : Nat) (a0 : List S83) (a1 : List S83) : Option (Bool) := if (a0.length : Int) = (a1.length : Int) then (slices_Equal87.l0 k a0 a1 (a0.length : Int) 0) else (some false)
def impl_EqualStores.f (k : Nat) (a0 : List S83) (a1 : List S83) : Option (Bool) := (slices_Equal87.f k a0 a1).bind fun t7 => (some t7)
def slices_Equal58.l0 : Nat → List S86 → List S86 → Int → Int → Option (Bool)
 | 0, _, _, _, _ => none
 | k + 1, x0, x1, x12, x13 => if x13 < x12 then (if 0 ≤ x13 then (if x13 < (x0.length : Int) then (if x13 < (x1.length : Int) then (if (rd_T86 x0 x13).f0 = (rd_T86 x1 x13).f0 ∧ (rd_T86 x0 x13).f1 = (rd_T86 x1 x13).f1 then (slices_Equal58.l0 k x0 x1 x12 (wrap64 (x13 + 1))) else (some false)) else none) else none) else none) else (some true)
def slices_Equal58.f (k : Nat) (a0 : List S86) (a1 : List S86) : Option (Bool) := if (a0.length : Int) = (a1.length : Int) then (slices_Equal58.l0 k a0 a1 (a0.length : Int) 0) else (some false)
def slices_Equal59.l0 : Nat → List S58 → List S58 → Int → Int → Option (Bool)
 | 0, _, _, _, _ => none
 | k + 1, x0, x1, x12, x13 => if x13 < x12 then (if 0 ≤ x13 then (if x13 < (x0.length : Int) then (if x13 < (x1.length : Int) then (if (rd_T58 x0 x13).f0.f0 = (rd_T58 x1 x13).f0.f0 ∧ (rd_T58 x0 x13).f0.f1 = (rd_T58 x1 x13).f0.f1 ∧ (rd_T58 x0 x13).f0.f2 = (rd_T58 x1 x13).f0.f2 ∧ (rd_T58 x0 x13).f0.f3 = (rd_T58 x1 x13).f0.f3 ∧ (rd_T58 x0 x13).f0.f4 = (rd_T58 x1 x13).f0.f4 ∧ (rd_T58 x0 x13).f0.f5 = (rd_T58 x1 x13).f0.f5 ∧ (rd_T58 x0 x13).f1 = (rd_T58 x1 x13).f1 ∧ (rd_T58 x0 x13).f2 = (rd_T58 x1 x13).f2 then (slices_Equal59.l0 k x0 x1 x12 (wrap64 (x13 + 1))) else (some false)) else none) else none) else none) else (some true)
def slices_Equal59.f (k : Nat) (a0 : List S58) (a1 : List S58) : Option (Bool) := if (a0.length : Int) = (a1.length : Int) then (slices_Equal59.l0 k a0 a1 (a0.length : Int) 0) else (some false)
def impl_EqualPoints.f (k : Nat) (a0_0 : Int) (a0_1 : Int) (a0_2 : Int) (a0_3 : List S112) (a0_4 : Int) (a0_5 : List S110) (a0_6 : List S83) (a0_7 : List S86) (a0_8 : Int) (a0_9 : List S58) (a1_0 : Int) (a1_1 : Int) (a1_2 : Int) (a1_3 : List S112) (a1_4 : Int) (a1_5 : List S110) (a1_6 : List S83) (a1_7 : List S86) (a1_8 : Int) (a1_9 : List S58) : Option (Bool) := if a0_0 = a1_0 then ((impl_EqualEpochs.f k a0_1 a0_2 a0_3 a0_4 a0_5 a1_1 a1_2 a1_3 a1_4 a1_5).bind fun t15 => (if t15 = true then ((impl_EqualStores.f k a0_6 a1_6).bind fun t22 => (if t22 = true then ((slices_Equal58.f k a0_7 a1_7).bind fun t29 => (if t29 = true then (if a0_8 = a1_8 then ((slices_Equal59.f k a0_9 a1_9).bind fun t43 => (some t43)) else (some false)) else (some false))) else (some false))) else (some false))) else (some false)
def impl_InRange.f (a0 : Int) (a1 : Int) (a2 : Int) : Option (Bool) := if a1 ≤ a0 then (some (decide (a0 ≤ a2))) else (some false)
def impl_IsTime.f (a0 : Int) : Option (Bool) := (impl_InRange.f a0 0 10000).bind fun t4 => (some t4)
def impl_isRole.f (a0 : Int) : Option (Bool) := (impl_InRange.f a0 0 5).bind fun t4 => (some t4)
mutual
def impl_below.l0 : Nat → List S112 → Bool → Bool → Bool → Bool → Bool → Bool → Bool → Bool → Bool → Bool → Bool → Bool → List Int → Option (Bool × Bool × Bool × Bool × Bool × Bool)
 | 0, _, _, _, _, _, _, _, _, _, _, _, _, _, _ => none
 | k + 1, x0, x4_0, x4_1, x4_2, x4_3, x4_4, x4_5, x5_0, x5_1, x5_2, x5_3, x5_4, x5_5, x6 => if (x6.length : Int) > 0 then (if 0 < (x6.length : Int) then (if 1 ≤ (x6.length : Int) then (impl_below.l1 k x0 x4_0 x4_1 x4_2 x4_3 x4_4 x4_5 x5_0 x5_1 x5_2 x5_3 x5_4 x5_5 (x6.drop 1) (rd x6 0) x0 (x0.length : Int) 0) else none) else none) else (some (x5_0, x5_1, x5_2, x5_3, x5_4, x5_5))
def impl_below.l1 : Nat → List S112 → Bool → Bool → Bool → Bool → Bool → Bool → Bool → Bool → Bool → Bool → Bool → Bool → List Int → Int → List S112 → Int → Int → Option (Bool × Bool × Bool × Bool × Bool × Bool)
 | 0, _, _, _, _, _, _, _, _, _, _, _, _, _, _, _, _, _, _ => none
 | k + 1, x0, x4_0, x4_1, x4_2, x4_3, x4_4, x4_5, x5_0, x5_1, x5_2, x5_3, x5_4, x5_5, x6, x7, x21, x22, x23 => if x23 < x22 then (if 0 ≤ x23 then (if x23 < (x21.length : Int) then (if (rd_T112 x21 x23).f0 = x7 then ((impl_isRole.f ((rd_T112 x21 x23).f1)).bind fun t34 => (if t34 = true then (if (rd_T112 x21 x23).f1 = 0 then (if x5_0 = true then (impl_below.l1 k x0 x4_0 x4_1 x4_2 x4_3 x4_4 x4_5 x5_0 x5_1 x5_2 x5_3 x5_4 x5_5 x6 x7 x21 x22 (wrap64 (x23 + 1))) else (if x6.length < 17592186044416 then (impl_below.l1 k x0 x4_0 x4_1 x4_2 x4_3 x4_4 x4_5 true x5_1 x5_2 x5_3 x5_4 x5_5 (x6 ++ ([(rd_T112 x21 x23).f1] : List Int)) x7 x21 x22 (wrap64 (x23 + 1))) else none)) else (if (rd_T112 x21 x23).f1 = 1 then (if x5_1 = true then (impl_below.l1 k x0 x4_0 x4_1 x4_2 x4_3 x4_4 x4_5 x5_0 x5_1 x5_2 x5_3 x5_4 x5_5 x6 x7 x21 x22 (wrap64 (x23 + 1))) else (if x6.length < 17592186044416 then (impl_below.l1 k x0 x4_0 x4_1 x4_2 x4_3 x4_4 x4_5 x5_0 true x5_2 x5_3 x5_4 x5_5 (x6 ++ ([(rd_T112 x21 x23).f1] : List Int)) x7 x21 x22 (wrap64 (x23 + 1))) else none)) else (if (rd_T112 x21 x23).f1 = 2 then (if x5_2 = true then (impl_below.l1 k x0 x4_0 x4_1 x4_2 x4_3 x4_4 x4_5 x5_0 x5_1 x5_2 x5_3 x5_4 x5_5 x6 x7 x21 x22 (wrap64 (x23 + 1))) else (if x6.length < 17592186044416 then (impl_below.l1 k x0 x4_0 x4_1 x4_2 x4_3 x4_4 x4_5 x5_0 x5_1 true x5_3 x5_4 x5_5 (x6 ++ ([(rd_T112 x21 x23).f1] : List Int)) x7 x21 x22 (wrap64 (x23 + 1))) else none)) else (if (rd_T112 x21 x23).f1 = 3 then (if x5_3 = true then (impl_below.l1 k x0 x4_0 x4_1 x4_2 x4_3 x4_4 x4_5 x5_0 x5_1 x5_2 x5_3 x5_4 x5_5 x6 x7 x21 x22 (wrap64 (x23 + 1))) else (if x6.length < 17592186044416 then (impl_below.l1 k x0 x4_0 x4_1 x4_2 x4_3 x4_4 x4_5 x5_0 x5_1 x5_2 true x5_4 x5_5 (x6 ++ ([(rd_T112 x21 x23).f1] : List Int)) x7 x21 x22 (wrap64 (x23 + 1))) else none)) else (if (rd_T112 x21 x23).f1 = 4 then (if x5_4 = true then (impl_below.l1 k x0 x4_0 x4_1 x4_2 x4_3 x4_4 x4_5 x5_0 x5_1 x5_2 x5_3 x5_4 x5_5 x6 x7 x21 x22 (wrap64 (x23 + 1))) else (if x6.length < 17592186044416 then (impl_below.l1 k x0 x4_0 x4_1 x4_2 x4_3 x4_4 x4_5 x5_0 x5_1 x5_2 x5_3 true x5_5 (x6 ++ ([(rd_T112 x21 x23).f1] : List Int)) x7 x21 x22 (wrap64 (x23 + 1))) else none)) else (if (rd_T112 x21 x23).f1 = 5 then (if x5_5 = true then (impl_below.l1 k x0 x4_0 x4_1 x4_2 x4_3 x4_4 x4_5 x5_0 x5_1 x5_2 x5_3 x5_4 x5_5 x6 x7 x21 x22 (wrap64 (x23 + 1))) else (if x6.length < 17592186044416 then (impl_below.l1 k x0 x4_0 x4_1 x4_2 x4_3 x4_4 x4_5 x5_0 x5_1 x5_2 x5_3 x5_4 true (x6 ++ ([(rd_T112 x21 x23).f1] : List Int)) x7 x21 x22 (wrap64 (x23 + 1))) else none)) else none)))))) else (impl_below.l1 k x0 x4_0 x4_1 x4_2 x4_3 x4_4 x4_5 x5_0 x5_1 x5_2 x5_3 x5_4 x5_5 x6 x7 x21 x22 (wrap64 (x23 + 1))))) else (impl_below.l1 k x0 x4_0 x4_1 x4_2 x4_3 x4_4 x4_5 x5_0 x5_1 x5_2 x5_3 x5_4 x5_5 x6 x7 x21 x22 (wrap64 (x23 + 1)))) else none) else none) else (impl_below.l0 k x0 x4_0 x4_1 x4_2 x4_3 x4_4 x4_5 x5_0 x5_1 x5_2 x5_3 x5_4 x5_5 x6)
end
def impl_below.f (k : Nat) (a0 : List S112) (a1 : Int) : Option (Bool × Bool × Bool × Bool × Bool × Bool) := impl_below.l0 k a0 false false false false false false false false false false false false ([a1] : List Int)
def impl_ArePairs.l0 : Nat → List S112 → List S112 → Int → Int → Option (Bool)
 | 0, _, _, _, _ => none
 | k + 1, x0, x5, x6, x7 => if x7 < x6 then (if 0 ≤ x7 then (if x7 < (x5.length : Int) then ((impl_isRole.f ((rd_T112 x5 x7).f0)).bind fun t13 => (if t13 = true then ((impl_isRole.f ((rd_T112 x5 x7).f1)).bind fun t18 => (if t18 = true then ((impl_below.f k x0 ((rd_T112 x5 x7).f0)).bind fun t25 => (if (rd_T112 x5 x7).f0 = 0 then (if t25.1 = true then (some false) else (impl_ArePairs.l0 k x0 x5 x6 (wrap64 (x7 + 1)))) else (if (rd_T112 x5 x7).f0 = 1 then (if t25.2.1 = true then (some false) else (impl_ArePairs.l0 k x0 x5 x6 (wrap64 (x7 + 1)))) else (if (rd_T112 x5 x7).f0 = 2 then (if t25.2.2.1 = true then (some false) else (impl_ArePairs.l0 k x0 x5 x6 (wrap64 (x7 + 1)))) else (if (rd_T112 x5 x7).f0 = 3 then (if t25.2.2.2.1 = true then (some false) else (impl_ArePairs.l0 k x0 x5 x6 (wrap64 (x7 + 1)))) else (if (rd_T112 x5 x7).f0 = 4 then (if t25.2.2.2.2.1 = true then (some false) else (impl_ArePairs.l0 k x0 x5 x6 (wrap64 (x7 + 1)))) else (if (rd_T112 x5 x7).f0 = 5 then (if t25.2.2.2.2.2 = true then (some false) else (impl_ArePairs.l0 k x0 x5 x6 (wrap64 (x7 + 1)))) else none))))))) else (some false))) else (some false))) else none) else none) else (some (decide ((x0.length : Int) ≤ 10)))
def impl_ArePairs.f (k : Nat) (a0 : List S112) : Option (Bool) := impl_ArePairs.l0 k a0 a0 (a0.length : Int) 0
mutual
def impl_SizeOf.l0 : Nat → Int → List S108 → Int → Int → Option (Int)
 | 0, _, _, _, _ => none
 | k + 1, x3, x7, x8, x9 => if x9 < x8 then (if 0 ≤ x9 then (if x9 < (x7.length : Int) then ((impl_SizeOf.f k ((rd_T108 x7 x9).f0) ((rd_T108 x7 x9).f1) ((rd_T108 x7 x9).f2) ((rd_T108 x7 x9).f3)).bind fun t15 => (impl_SizeOf.l0 k (wrap64 (x3 + t15)) x7 x8 (wrap64 (x9 + 1)))) else none) else none) else (some x3)
def impl_SizeOf.f : Nat → Int → Int → Int → List S108 → Option (Int)
 | 0, _, _, _, _ => none
 | k + 1, a0_0, a0_1, a0_2, a0_3 => impl_SizeOf.l0 k 1 a0_3 (a0_3.length : Int) 0
end
def impl_ArityOf.f (a0 : Int) : Option (Int) := if a0 = 7 then (some 1) else (if a0 = 8 then (some 2) else (if a0 = 9 then (some 2) else ((impl_InRange.f a0 1 6).bind fun t15 => (if t15 = true then (some 0) else (some (-1))))))
def impl_isNode.f (a0_0 : Int) (a0_1 : Int) (a0_2 : Int) (a0_3 : List S108) : Option (Bool) := if a0_0 = 2 then ((impl_InRange.f a0_0 2 5).bind fun t16 => (if t16 = true then ((impl_ArityOf.f a0_0).bind fun t22 => (if (a0_3.length : Int) = t22 then ((impl_InRange.f a0_1 0 5).bind fun t28 => (if t28 = true then ((impl_InRange.f a0_2 0 10000).bind fun t34 => (some t34)) else (some false))) else (some false))) else ((impl_ArityOf.f a0_0).bind fun t22 => (if (a0_3.length : Int) = t22 then ((impl_InRange.f a0_1 0 5).bind fun t28 => (if t28 = true then ((impl_InRange.f a0_2 0 0).bind fun t34 => (some t34)) else (some false))) else (some false))))) else (if a0_0 = 4 then ((impl_InRange.f a0_0 2 5).bind fun t16 => (if t16 = true then ((impl_ArityOf.f a0_0).bind fun t22 => (if (a0_3.length : Int) = t22 then ((impl_InRange.f a0_1 0 3).bind fun t28 => (if t28 = true then ((impl_InRange.f a0_2 0 10000).bind fun t34 => (some t34)) else (some false))) else (some false))) else ((impl_ArityOf.f a0_0).bind fun t22 => (if (a0_3.length : Int) = t22 then ((impl_InRange.f a0_1 0 3).bind fun t28 => (if t28 = true then ((impl_InRange.f a0_2 0 0).bind fun t34 => (some t34)) else (some false))) else (some false))))) else (if a0_0 = 5 then ((impl_InRange.f a0_0 2 5).bind fun t16 => (if t16 = true then ((impl_ArityOf.f a0_0).bind fun t22 => (if (a0_3.length : Int) = t22 then ((impl_InRange.f a0_1 0 3).bind fun t28 => (if t28 = true then ((impl_InRange.f a0_2 0 10000).bind fun t34 => (some t34)) else (some false))) else (some false))) else ((impl_ArityOf.f a0_0).bind fun t22 => (if (a0_3.length : Int) = t22 then ((impl_InRange.f a0_1 0 3).bind fun t28 => (if t28 = true then ((impl_InRange.f a0_2 0 0).bind fun t34 => (some t34)) else (some false))) else (some false))))) else (if a0_0 = 6 then ((impl_InRange.f a0_0 2 5).bind fun t16 => (if t16 = true then ((impl_ArityOf.f a0_0).bind fun t22 => (if (a0_3.length : Int) = t22 then ((impl_InRange.f a0_1 0 10000).bind fun t28 => (if t28 = true then ((impl_InRange.f a0_2 0 10000).bind fun t34 => (some t34)) else (some false))) else (some false))) else ((impl_ArityOf.f a0_0).bind fun t22 => (if (a0_3.length : Int) = t22 then ((impl_InRange.f a0_1 0 10000).bind fun t28 => (if t28 = true then ((impl_InRange.f a0_2 0 0).bind fun t34 => (some t34)) else (some false))) else (some false))))) else ((impl_InRange.f a0_0 2 5).bind fun t16 => (if t16 = true then ((impl_ArityOf.f a0_0).bind fun t22 => (if (a0_3.length : Int) = t22 then ((impl_InRange.f a0_1 0 0).bind fun t28 => (if t28 = true then ((impl_InRange.f a0_2 0 10000).bind fun t34 => (some t34)) else (some false))) else (some false))) else ((impl_ArityOf.f a0_0).bind fun t22 => (if (a0_3.length : Int) = t22 then ((impl_InRange.f a0_1 0 0).bind fun t28 => (if t28 = true then ((impl_InRange.f a0_2 0 0).bind fun t34 => (some t34)) else (some false))) else (some false))))))))
mutual
def cl136.f : Nat → Int → Int → Int → List S108 → Option (Bool)
 | 0, _, _, _, _ => none
 | k + 1, a0_0, a0_1, a0_2, a0_3 => (impl_areNodes.f k a0_0 a0_1 a0_2 a0_3).bind fun t4 => (some (!t4))
def impl_areNodes.f : Nat → Int → Int → Int → List S108 → Option (Bool)
 | 0, _, _, _, _ => none
 | k + 1, a0_0, a0_1, a0_2, a0_3 => (impl_isNode.f a0_0 a0_1 a0_2 a0_3).bind fun t4 => (if t4 = true then ((slices_ContainsFunc135_136.f k a0_3).bind fun t8 => (some (!t8))) else (some false))
def slices_ContainsFunc135_136.f : Nat → List S108 → Option (Bool)
 | 0, _ => none
 | k + 1, a0 => (slices_IndexFunc146_136.f k a0).bind fun t7 => (some (decide (t7 ≥ 0)))
def slices_IndexFunc146_136.l0 : Nat → List S108 → Int → Int → Option (Int)
 | 0, _, _, _ => none
 | k + 1, x0, x7, x8 => if x8 < x7 then (if 0 ≤ x8 then (if x8 < (x0.length : Int) then ((cl136.f k ((rd_T108 x0 x8).f0) ((rd_T108 x0 x8).f1) ((rd_T108 x0 x8).f2) ((rd_T108 x0 x8).f3)).bind fun t16 => (if t16 = true then (some x8) else (slices_IndexFunc146_136.l0 k x0 x7 (wrap64 (x8 + 1))))) else none) else none) else (some (-1))
def slices_IndexFunc146_136.f : Nat → List S108 → Option (Int)
 | 0, _ => none
 | k + 1, a0 => slices_IndexFunc146_136.l0 k a0 (a0.length : Int) 0
end
def impl_IsCond.f (k : Nat) (a0_0 : Int) (a0_1 : Int) (a0_2 : Int) (a0_3 : List S108) : Option (Bool) := (impl_SizeOf.f k a0_0 a0_1 a0_2 a0_3).bind fun t4 => (if t4 ≤ 15 then ((impl_areNodes.f k a0_0 a0_1 a0_2 a0_3).bind fun t8 => (some t8)) else (some false))
def impl_IsName.f (a0 : Int) : Option (Bool) := (impl_InRange.f a0 10 49).bind fun t4 => (some t4)
def impl_KindOf.f (a0 : Int) : Option (Int) := (impl_IsName.f a0).bind fun t4 => (if t4 = true then (some (wrap64 (Int.tdiv a0 10))) else (some 0))
def impl_HasKind.f (a0 : Int) (a1 : Int) : Option (Bool) := (impl_IsName.f a0).bind fun t6 => (if t6 = true then ((impl_KindOf.f a0).bind fun t9 => (some (decide (t9 = a1)))) else (some false))
def impl_IsRule.f (k : Nat) (a0_0 : Int) (a0_1 : Int) (a0_2 : Int) (a0_3 : Int) (a0_4 : Int) (a0_5 : Int) (a0_6 : List S108) : Option (Bool) := (impl_InRange.f a0_0 0 1).bind fun t5 => (if t5 = true then ((impl_InRange.f a0_1 (-1) 5).bind fun t9 => (if t9 = true then (if a0_2 = (-1) then ((impl_IsCond.f k a0_3 a0_4 a0_5 a0_6).bind fun t24 => (some t24)) else ((impl_HasKind.f a0_2 4).bind fun t18 => (if t18 = true then ((impl_IsCond.f k a0_3 a0_4 a0_5 a0_6).bind fun t24 => (some t24)) else (some false)))) else (some false))) else (some false))
def cl91.f (k : Nat) (a0_0 : Int) (a0_1 : Int) (a0_2 : Int) (a0_3 : Int) (a0_4 : Int) (a0_5 : Int) (a0_6 : List S108) : Option (Bool) := (impl_IsRule.f k a0_0 a0_1 a0_2 a0_3 a0_4 a0_5 a0_6).bind fun t4 => (some (!t4))
def slices_IndexFunc110_91.l0 : Nat → List S110 → Int → Int → Option (Int)
 | 0, _, _, _ => none
 | k + 1, x0, x7, x8 => if x8 < x7 then (if 0 ≤ x8 then (if x8 < (x0.length : Int) then ((cl91.f k ((rd_T110 x0 x8).f0) ((rd_T110 x0 x8).f1) ((rd_T110 x0 x8).f2) ((rd_T110 x0 x8).f3.f0) ((rd_T110 x0 x8).f3.f1) ((rd_T110 x0 x8).f3.f2) ((rd_T110 x0 x8).f3.f3)).bind fun t16 => (if t16 = true then (some x8) else (slices_IndexFunc110_91.l0 k x0 x7 (wrap64 (x8 + 1))))) else none) else none) else (some (-1))
def slices_IndexFunc110_91.f (k : Nat) (a0 : List S110) : Option (Int) := slices_IndexFunc110_91.l0 k a0 (a0.length : Int) 0
def slices_ContainsFunc90_91.f (k : Nat) (a0 : List S110) : Option (Bool) := (slices_IndexFunc110_91.f k a0).bind fun t7 => (some (decide (t7 ≥ 0)))
def impl_IsPolicy.f (k : Nat) (a0_0 : Int) (a0_1 : List S110) : Option (Bool) := (impl_InRange.f a0_0 0 999).bind fun t5 => (if t5 = true then (if (a0_1.length : Int) ≤ 8 then ((slices_ContainsFunc90_91.f k a0_1).bind fun t15 => (some (!t15))) else (some false)) else (some false))
def impl_IsEpoch.f (k : Nat) (a0_0 : Int) (a0_1 : Int) (a0_2 : List S112) (a0_3 : Int) (a0_4 : List S110) : Option (Bool) := (impl_InRange.f a0_0 0 999).bind fun t5 => (if t5 = true then ((impl_IsTime.f a0_1).bind fun t9 => (if t9 = true then ((impl_ArePairs.f k a0_2).bind fun t14 => (if t14 = true then ((impl_IsPolicy.f k a0_3 a0_4).bind fun t19 => (if t19 = true then (some (decide (a0_3 = a0_0))) else (some false))) else (some false))) else (some false))) else (some false))
def impl_isClaim.f (a0_0 : Int) (a0_1 : Int) (a0_2 : Int) (a0_3 : Int) (a0_4 : Int) (a0_5 : Int) : Option (Bool) := if a0_0 = 1 then ((impl_HasKind.f a0_1 1).bind fun t9 => (if t9 = true then ((impl_InRange.f a0_2 0 5).bind fun t13 => (some t13)) else (some false))) else (if a0_0 = 2 then ((impl_HasKind.f a0_1 1).bind fun t19 => (if t19 = true then ((impl_HasKind.f a0_2 2).bind fun t23 => (some t23)) else (some false))) else (if a0_0 = 3 then ((impl_HasKind.f a0_1 2).bind fun t29 => (if t29 = true then ((impl_InRange.f a0_2 0 3).bind fun t33 => (some t33)) else (some false))) else (if a0_0 = 4 then ((impl_HasKind.f a0_1 3).bind fun t39 => (if t39 = true then ((impl_InRange.f a0_2 0 3).bind fun t43 => (some t43)) else (some false))) else (some false))))
def impl_IsFact.f (a0_0 : Int) (a0_1 : Int) (a0_2 : Int) (a0_3 : Int) (a0_4 : Int) (a0_5 : Int) : Option (Bool) := (impl_isClaim.f a0_0 a0_1 a0_2 a0_3 a0_4 a0_5).bind fun t4 => (if t4 = true then ((impl_InRange.f a0_3 0 9).bind fun t8 => (if t8 = true then ((impl_IsTime.f a0_4).bind fun t13 => (if t13 = true then ((impl_IsTime.f a0_5).bind fun t18 => (if t18 = true then (some (decide (a0_4 ≤ a0_5))) else (some false))) else (some false))) else (some false))) else (some false))
def impl_compareClaims.l0 : Nat → Int → Int → Int → Int → Int → Int → Int → Int → Int → Option (Int)
 | 0, _, _, _, _, _, _, _, _, _ => none
 | k + 1, x5_0, x5_1, x5_2, x5_3, x6_0, x6_1, x6_2, x6_3, x26 => if x26 < 4 then (if x26 = 0 then (if x5_0 < x6_0 then (some (-1)) else (if x5_0 > x6_0 then (some 1) else (impl_compareClaims.l0 k x5_0 x5_1 x5_2 x5_3 x6_0 x6_1 x6_2 x6_3 (wrap64 (x26 + 1))))) else (if x26 = 1 then (if x5_1 < x6_1 then (some (-1)) else (if x5_1 > x6_1 then (some 1) else (impl_compareClaims.l0 k x5_0 x5_1 x5_2 x5_3 x6_0 x6_1 x6_2 x6_3 (wrap64 (x26 + 1))))) else (if x26 = 2 then (if x5_2 < x6_2 then (some (-1)) else (if x5_2 > x6_2 then (some 1) else (impl_compareClaims.l0 k x5_0 x5_1 x5_2 x5_3 x6_0 x6_1 x6_2 x6_3 (wrap64 (x26 + 1))))) else (if x26 = 3 then (if x5_3 < x6_3 then (some (-1)) else (if x5_3 > x6_3 then (some 1) else (impl_compareClaims.l0 k x5_0 x5_1 x5_2 x5_3 x6_0 x6_1 x6_2 x6_3 (wrap64 (x26 + 1))))) else none)))) else (some 0)
def impl_compareClaims.f (k : Nat) (a0_0 : Int) (a0_1 : Int) (a0_2 : Int) (a0_3 : Int) (a0_4 : Int) (a0_5 : Int) (a1_0 : Int) (a1_1 : Int) (a1_2 : Int) (a1_3 : Int) (a1_4 : Int) (a1_5 : Int) : Option (Int) := impl_compareClaims.l0 k a0_0 a0_1 a0_2 a0_3 a1_0 a1_1 a1_2 a1_3 0
def impl_FactBefore.f (k : Nat) (a0_0 : Int) (a0_1 : Int) (a0_2 : Int) (a0_3 : Int) (a0_4 : Int) (a0_5 : Int) (a1_0 : Int) (a1_1 : Int) (a1_2 : Int) (a1_3 : Int) (a1_4 : Int) (a1_5 : Int) : Option (Bool) := (impl_compareClaims.f k a0_0 a0_1 a0_2 a0_3 a0_4 a0_5 a1_0 a1_1 a1_2 a1_3 a1_4 a1_5).bind fun t7 => (some (decide (t7 < 0)))
def impl_IsStore.l0 : Nat → List S83 → List S83 → Int → Int → Option (Bool)
 | 0, _, _, _, _ => none
 | k + 1, x0, x5, x6, x7 => if x7 < x6 then (if 0 ≤ x7 then (if x7 < (x5.length : Int) then ((impl_IsFact.f ((rd_T83 x5 x7).f0) ((rd_T83 x5 x7).f1) ((rd_T83 x5 x7).f2) ((rd_T83 x5 x7).f3) ((rd_T83 x5 x7).f4) ((rd_T83 x5 x7).f5)).bind fun t13 => (if t13 = true then (if x7 > 0 then (if 0 ≤ (wrap64 (x7 - 1)) then (if (wrap64 (x7 - 1)) < (x0.length : Int) then ((impl_FactBefore.f k ((rd_T83 x0 (wrap64 (x7 - 1))).f0) ((rd_T83 x0 (wrap64 (x7 - 1))).f1) ((rd_T83 x0 (wrap64 (x7 - 1))).f2) ((rd_T83 x0 (wrap64 (x7 - 1))).f3) ((rd_T83 x0 (wrap64 (x7 - 1))).f4) ((rd_T83 x0 (wrap64 (x7 - 1))).f5) ((rd_T83 x5 x7).f0) ((rd_T83 x5 x7).f1) ((rd_T83 x5 x7).f2) ((rd_T83 x5 x7).f3) ((rd_T83 x5 x7).f4) ((rd_T83 x5 x7).f5)).bind fun t25 => (if t25 = true then (impl_IsStore.l0 k x0 x5 x6 (wrap64 (x7 + 1))) else (some false))) else none) else none) else (impl_IsStore.l0 k x0 x5 x6 (wrap64 (x7 + 1)))) else (some false))) else none) else none) else (some (decide ((x0.length : Int) ≤ 30)))
def impl_IsStore.f (k : Nat) (a0 : List S83) : Option (Bool) := impl_IsStore.l0 k a0 a0 (a0.length : Int) 0
def impl_AreRevoked.l0 : Nat → List S86 → List S86 → Int → Int → Option (Bool)
 | 0, _, _, _, _ => none
 | k + 1, x0, x5, x6, x7 => if x7 < x6 then (if 0 ≤ x7 then (if x7 < (x5.length : Int) then ((impl_InRange.f ((rd_T86 x5 x7).f0) 1 9999).bind fun t14 => (if t14 = true then ((impl_IsTime.f ((rd_T86 x5 x7).f1)).bind fun t19 => (if t19 = true then (if x7 > 0 then (if 0 ≤ (wrap64 (x7 - 1)) then (if (wrap64 (x7 - 1)) < (x0.length : Int) then (if (rd_T86 x0 (wrap64 (x7 - 1))).f0 ≥ (rd_T86 x5 x7).f0 then (some false) else (impl_AreRevoked.l0 k x0 x5 x6 (wrap64 (x7 + 1)))) else none) else none) else (impl_AreRevoked.l0 k x0 x5 x6 (wrap64 (x7 + 1)))) else (some false))) else (some false))) else none) else none) else (some (decide ((x0.length : Int) ≤ 40)))
def impl_AreRevoked.f (k : Nat) (a0 : List S86) : Option (Bool) := impl_AreRevoked.l0 k a0 a0 (a0.length : Int) 0
def impl_IsRequest.f (a0_0 : Int) (a0_1 : Int) (a0_2 : Int) (a0_3 : Int) (a0_4 : Int) (a0_5 : Int) : Option (Bool) := (impl_HasKind.f a0_0 1).bind fun t5 => (if t5 = true then ((impl_HasKind.f a0_1 2).bind fun t9 => (if t9 = true then ((impl_HasKind.f a0_2 3).bind fun t14 => (if t14 = true then ((impl_HasKind.f a0_4 4).bind fun t19 => (if t19 = true then ((impl_InRange.f a0_3 0 5).bind fun t24 => (if t24 = true then ((impl_IsTime.f a0_5).bind fun t29 => (some t29)) else (some false))) else (some false))) else (some false))) else (some false))) else (some false))
def impl_AtTime.f (a0_0 : Int) (a0_1 : Int) (a0_2 : Int) (a0_3 : Int) (a0_4 : Int) (a0_5 : Int) (a1 : Int) : Option (Int × Int × Int × Int × Int × Int) := some (a0_0, a0_1, a0_2, a0_3, a0_4, a1)
def impl_IsFor.f (a0_0 : Int) (a0_1 : Int) (a0_2 : Int) (a0_3 : Int) (a0_4 : Int) (a0_5 : Int) (a0_6 : List S108) (a1 : Int) (a2 : Int) : Option (Bool) := if a0_1 = (-1) then (if a0_2 = (-1) then (some true) else (some (decide (a0_2 = a2)))) else (if a0_1 = a1 then (if a0_2 = (-1) then (some true) else (some (decide (a0_2 = a2)))) else (some false))
def impl_IsWithin.f (a0 : Int) (a1 : Int) (a2 : Int) : Option (Bool) := (impl_IsTime.f a0).bind fun t8 => (if t8 = true then ((impl_IsTime.f a1).bind fun t11 => (if t11 = true then ((impl_IsTime.f a2).bind fun t15 => (if t15 = true then ((impl_InRange.f a2 a0 a1).bind fun t21 => (some t21)) else (some false))) else (some false))) else (some false))
def impl_AgeOf.f (a0 : Int) (a1 : Int) : Option (Int) := (impl_IsTime.f a0).bind fun t6 => (if t6 = true then ((impl_IsTime.f a1).bind fun t10 => (if t10 = true then (if a0 > a1 then (some (-1)) else (some (wrap64 (a1 - a0)))) else (some (-1)))) else (some (-1)))
def impl_HoldsAt.f (a0_0 : Int) (a0_1 : Int) (a0_2 : Int) (a0_3 : Int) (a0_4 : Int) (a0_5 : Int) (a1 : Int) (a2 : Int) : Option (Bool) := (impl_IsFact.f a0_0 a0_1 a0_2 a0_3 a0_4 a0_5).bind fun t8 => (if t8 = true then ((impl_IsWithin.f a0_4 a0_5 a1).bind fun t15 => (if t15 = true then ((impl_AgeOf.f a0_4 a1).bind fun t21 => (some (decide (t21 ≤ a2)))) else (some false))) else (some false))
def impl_RolesUnder.l0 : Nat → Int → List Int → Bool → Bool → Bool → Bool → Bool → Bool → Int → Option ((List Int))
 | 0, _, _, _, _, _, _, _, _, _ => none
 | k + 1, x1, x5, x15_0, x15_1, x15_2, x15_3, x15_4, x15_5, x16 => if x16 < 6 then (if x16 = 0 then (if x15_0 = true then (if x5.length < 17592186044416 then (impl_RolesUnder.l0 k x1 (x5 ++ [x16]) x15_0 x15_1 x15_2 x15_3 x15_4 x15_5 (wrap64 (x16 + 1))) else none) else (if x16 = x1 then (if x5.length < 17592186044416 then (impl_RolesUnder.l0 k x1 (x5 ++ [x16]) x15_0 x15_1 x15_2 x15_3 x15_4 x15_5 (wrap64 (x16 + 1))) else none) else (impl_RolesUnder.l0 k x1 x5 x15_0 x15_1 x15_2 x15_3 x15_4 x15_5 (wrap64 (x16 + 1))))) else (if x16 = 1 then (if x15_1 = true then (if x5.length < 17592186044416 then (impl_RolesUnder.l0 k x1 (x5 ++ [x16]) x15_0 x15_1 x15_2 x15_3 x15_4 x15_5 (wrap64 (x16 + 1))) else none) else (if x16 = x1 then (if x5.length < 17592186044416 then (impl_RolesUnder.l0 k x1 (x5 ++ [x16]) x15_0 x15_1 x15_2 x15_3 x15_4 x15_5 (wrap64 (x16 + 1))) else none) else (impl_RolesUnder.l0 k x1 x5 x15_0 x15_1 x15_2 x15_3 x15_4 x15_5 (wrap64 (x16 + 1))))) else (if x16 = 2 then (if x15_2 = true then (if x5.length < 17592186044416 then (impl_RolesUnder.l0 k x1 (x5 ++ [x16]) x15_0 x15_1 x15_2 x15_3 x15_4 x15_5 (wrap64 (x16 + 1))) else none) else (if x16 = x1 then (if x5.length < 17592186044416 then (impl_RolesUnder.l0 k x1 (x5 ++ [x16]) x15_0 x15_1 x15_2 x15_3 x15_4 x15_5 (wrap64 (x16 + 1))) else none) else (impl_RolesUnder.l0 k x1 x5 x15_0 x15_1 x15_2 x15_3 x15_4 x15_5 (wrap64 (x16 + 1))))) else (if x16 = 3 then (if x15_3 = true then (if x5.length < 17592186044416 then (impl_RolesUnder.l0 k x1 (x5 ++ [x16]) x15_0 x15_1 x15_2 x15_3 x15_4 x15_5 (wrap64 (x16 + 1))) else none) else (if x16 = x1 then (if x5.length < 17592186044416 then (impl_RolesUnder.l0 k x1 (x5 ++ [x16]) x15_0 x15_1 x15_2 x15_3 x15_4 x15_5 (wrap64 (x16 + 1))) else none) else (impl_RolesUnder.l0 k x1 x5 x15_0 x15_1 x15_2 x15_3 x15_4 x15_5 (wrap64 (x16 + 1))))) else (if x16 = 4 then (if x15_4 = true then (if x5.length < 17592186044416 then (impl_RolesUnder.l0 k x1 (x5 ++ [x16]) x15_0 x15_1 x15_2 x15_3 x15_4 x15_5 (wrap64 (x16 + 1))) else none) else (if x16 = x1 then (if x5.length < 17592186044416 then (impl_RolesUnder.l0 k x1 (x5 ++ [x16]) x15_0 x15_1 x15_2 x15_3 x15_4 x15_5 (wrap64 (x16 + 1))) else none) else (impl_RolesUnder.l0 k x1 x5 x15_0 x15_1 x15_2 x15_3 x15_4 x15_5 (wrap64 (x16 + 1))))) else (if x16 = 5 then (if x15_5 = true then (if x5.length < 17592186044416 then (impl_RolesUnder.l0 k x1 (x5 ++ [x16]) x15_0 x15_1 x15_2 x15_3 x15_4 x15_5 (wrap64 (x16 + 1))) else none) else (if x16 = x1 then (if x5.length < 17592186044416 then (impl_RolesUnder.l0 k x1 (x5 ++ [x16]) x15_0 x15_1 x15_2 x15_3 x15_4 x15_5 (wrap64 (x16 + 1))) else none) else (impl_RolesUnder.l0 k x1 x5 x15_0 x15_1 x15_2 x15_3 x15_4 x15_5 (wrap64 (x16 + 1))))) else none)))))) else (some x5)
def impl_RolesUnder.f (k : Nat) (a0 : List S112) (a1 : Int) : Option ((List Int)) := (impl_isRole.f a1).bind fun t10 => (if t10 = true then ((impl_below.f k a0 a1).bind fun t15 => (impl_RolesUnder.l0 k a1 ([] : List Int) t15.1 t15.2.1 t15.2.2.1 t15.2.2.2.1 t15.2.2.2.2.1 t15.2.2.2.2.2 0)) else (some ([] : List Int)))
def slices_Sort_int_int.f (l0 : List Int) : Option (List Int) := if l0.length < 2199023255552 then some (l0.mergeSort fun x y => decide (x ≤ y)) else none
def slices_Compact_int_int.f (l0 : List Int) : Option (List Int) := if l0.length < 2199023255552 then some (Go.Lib.compact l0) else none
def impl_RolesOf.l0 : Nat → List S112 → Int → Int → Int → List Int → List S83 → Int → Int → Option ((List Int))
 | 0, _, _, _, _, _, _, _, _ => none
 | k + 1, x0, x2, x3, x4, x11, x15, x16, x17 => if x17 < x16 then (if 0 ≤ x17 then (if x17 < (x15.length : Int) then (if (rd_T83 x15 x17).f0 = 1 then (if (rd_T83 x15 x17).f1 = x2 then ((impl_HoldsAt.f ((rd_T83 x15 x17).f0) ((rd_T83 x15 x17).f1) ((rd_T83 x15 x17).f2) ((rd_T83 x15 x17).f3) ((rd_T83 x15 x17).f4) ((rd_T83 x15 x17).f5) x3 x4).bind fun t34 => (if t34 = true then ((impl_RolesUnder.f k x0 ((rd_T83 x15 x17).f2)).bind fun t40 => (if x11.length + t40.length ≤ 17592186044416 then (impl_RolesOf.l0 k x0 x2 x3 x4 (x11 ++ t40) x15 x16 (wrap64 (x17 + 1))) else none)) else (impl_RolesOf.l0 k x0 x2 x3 x4 x11 x15 x16 (wrap64 (x17 + 1))))) else (impl_RolesOf.l0 k x0 x2 x3 x4 x11 x15 x16 (wrap64 (x17 + 1)))) else (impl_RolesOf.l0 k x0 x2 x3 x4 x11 x15 x16 (wrap64 (x17 + 1)))) else none) else none) else ((slices_Sort_int_int.f x11).bind fun t44 => ((slices_Compact_int_int.f t44).bind fun t46 => (some t46)))
def impl_RolesOf.f (k : Nat) (a0 : List S112) (a1 : List S83) (a2 : Int) (a3 : Int) (a4 : Int) : Option ((List Int)) := impl_RolesOf.l0 k a0 a2 a3 a4 ([] : List Int) a1 (a1.length : Int) 0
def slices_Index155.l0 : Nat → List Int → Int → Int → Int → Option (Int)
 | 0, _, _, _, _ => none
 | k + 1, x0, x1, x7, x8 => if x8 < x7 then (if 0 ≤ x8 then (if x8 < (x0.length : Int) then (if x1 = (rd x0 x8) then (some x8) else (slices_Index155.l0 k x0 x1 x7 (wrap64 (x8 + 1)))) else none) else none) else (some (-1))
def slices_Index155.f (k : Nat) (a0 : List Int) (a1 : Int) : Option (Int) := slices_Index155.l0 k a0 a1 (a0.length : Int) 0
def slices_Contains147.f (k : Nat) (a0 : List Int) (a1 : Int) : Option (Bool) := (slices_Index155.f k a0 a1).bind fun t7 => (some (decide (t7 ≥ 0)))
def impl_HasRole.f (k : Nat) (a0 : List S112) (a1 : List S83) (a2 : Int) (a3 : Int) (a4 : Int) (a5 : Int) : Option (Bool) := (impl_RolesOf.f k a0 a1 a2 a4 a5).bind fun t18 => ((slices_Contains147.f k t18 a3).bind fun t20 => (some t20))
def cl150.f (a0_0 : Int) (a0_1 : Int) (a0_2 : Int) (a0_3 : Int) (a0_4 : Int) (a0_5 : Int) (a1 : Int) (a2 : Int) (a3 : Int) (a4 : Int) (a5 : Int) : Option (Bool) := if a0_0 = a1 then (if a0_1 = a2 then (if a0_2 = a3 then ((impl_HoldsAt.f a0_0 a0_1 a0_2 a0_3 a0_4 a0_5 a4 a5).bind fun t28 => (some t28)) else (some false)) else (some false)) else (some false)
def slices_IndexFunc149_150.l0 : Nat → List S83 → Int → Int → Int → Int → Int → Int → Int → Option (Int)
 | 0, _, _, _, _, _, _, _, _ => none
 | k + 1, x0, x1_0, x1_1, x1_2, x1_3, x1_4, x7, x8 => if x8 < x7 then (if 0 ≤ x8 then (if x8 < (x0.length : Int) then ((cl150.f ((rd_T83 x0 x8).f0) ((rd_T83 x0 x8).f1) ((rd_T83 x0 x8).f2) ((rd_T83 x0 x8).f3) ((rd_T83 x0 x8).f4) ((rd_T83 x0 x8).f5) x1_0 x1_1 x1_2 x1_3 x1_4).bind fun t16 => (if t16 = true then (some x8) else (slices_IndexFunc149_150.l0 k x0 x1_0 x1_1 x1_2 x1_3 x1_4 x7 (wrap64 (x8 + 1))))) else none) else none) else (some (-1))
def slices_IndexFunc149_150.f (k : Nat) (a0 : List S83) (a1_0 : Int) (a1_1 : Int) (a1_2 : Int) (a1_3 : Int) (a1_4 : Int) : Option (Int) := slices_IndexFunc149_150.l0 k a0 a1_0 a1_1 a1_2 a1_3 a1_4 (a0.length : Int) 0
def impl_FindFact.f (k : Nat) (a0 : List S83) (a1 : Int) (a2 : Int) (a3 : Int) (a4 : Int) (a5 : Int) : Option (Int) := (slices_IndexFunc149_150.f k a0 a1 a2 a3 a4 a5).bind fun t15 => (some t15)
def impl_BestValue.l0 : Nat → Int → Int → Int → Int → Int → List S83 → Int → Int → Option (Int)
 | 0, _, _, _, _, _, _, _, _ => none
 | k + 1, x1, x2, x3, x4, x11, x14, x15, x16 => if x16 < x15 then (if 0 ≤ x16 then (if x16 < (x14.length : Int) then (if (rd_T83 x14 x16).f0 = x1 then (if (rd_T83 x14 x16).f1 = x2 then ((impl_HoldsAt.f ((rd_T83 x14 x16).f0) ((rd_T83 x14 x16).f1) ((rd_T83 x14 x16).f2) ((rd_T83 x14 x16).f3) ((rd_T83 x14 x16).f4) ((rd_T83 x14 x16).f5) x3 x4).bind fun t34 => (if t34 = true then (impl_BestValue.l0 k x1 x2 x3 x4 (if (rd_T83 x14 x16).f2 > x11 then (rd_T83 x14 x16).f2 else x11) x14 x15 (wrap64 (x16 + 1))) else (impl_BestValue.l0 k x1 x2 x3 x4 x11 x14 x15 (wrap64 (x16 + 1))))) else (impl_BestValue.l0 k x1 x2 x3 x4 x11 x14 x15 (wrap64 (x16 + 1)))) else (impl_BestValue.l0 k x1 x2 x3 x4 x11 x14 x15 (wrap64 (x16 + 1)))) else none) else none) else (some x11)
def impl_BestValue.f (k : Nat) (a0 : List S83) (a1 : Int) (a2 : Int) (a3 : Int) (a4 : Int) : Option (Int) := impl_BestValue.l0 k a1 a2 a3 a4 (-1) a0 (a0.length : Int) 0
def impl_LeafHolds.f (k : Nat) (a0 : List S112) (a1 : List S83) (a2_0 : Int) (a2_1 : Int) (a2_2 : Int) (a2_3 : List S108) (a3_0 : Int) (a3_1 : Int) (a3_2 : Int) (a3_3 : Int) (a3_4 : Int) (a3_5 : Int) : Option (Bool) := if a2_0 = 1 then (some true) else (if a2_0 = 2 then ((impl_HasRole.f k a0 a1 a3_0 a2_1 a3_5 a2_2).bind fun t25 => (some t25)) else (if a2_0 = 3 then ((impl_FindFact.f k a1 2 a3_0 a3_1 a3_5 a2_2).bind fun t37 => (some (!decide (t37 = (-1))))) else (if a2_0 = 4 then ((impl_BestValue.f k a1 3 a3_1 a3_5 a2_2).bind fun t48 => (some (decide (t48 ≥ a2_1)))) else (if a2_0 = 5 then ((impl_BestValue.f k a1 4 a3_2 a3_5 a2_2).bind fun t61 => (some (decide (t61 ≥ a2_1)))) else (if a2_0 = 6 then (some (decide (a3_5 ≤ a2_1))) else (some false))))))
def cl126.f (k : Nat) (a0_0 : Int) (a0_1 : Int) (a0_2 : Int) (a0_3 : List S108) (a1 : List S112) (a2 : List S83) (a3_0 : Int) (a3_1 : Int) (a3_2 : Int) (a3_3 : Int) (a3_4 : Int) (a3_5 : Int) : Option (Bool) := (impl_LeafHolds.f k a1 a2 a0_0 a0_1 a0_2 a0_3 a3_0 a3_1 a3_2 a3_3 a3_4 a3_5).bind fun t10 => (some t10)
def impl_evalWith_126.f : Nat → Int → Int → Int → List S108 → List S112 → List S83 → Int → Int → Int → Int → Int → Int → Option (Bool)
 | 0, _, _, _, _, _, _, _, _, _, _, _, _ => none
 | k + 1, a0_0, a0_1, a0_2, a0_3, a1_0, a1_1, a1_2, a1_3, a1_4, a1_5, a1_6, a1_7 => if a0_0 = 7 then (if 0 < (a0_3.length : Int) then ((impl_evalWith_126.f k ((rd_T108 a0_3 0).f0) ((rd_T108 a0_3 0).f1) ((rd_T108 a0_3 0).f2) ((rd_T108 a0_3 0).f3) a1_0 a1_1 a1_2 a1_3 a1_4 a1_5 a1_6 a1_7).bind fun t14 => (some (!t14))) else none) else (if a0_0 = 8 then (if 0 < (a0_3.length : Int) then ((impl_evalWith_126.f k ((rd_T108 a0_3 0).f0) ((rd_T108 a0_3 0).f1) ((rd_T108 a0_3 0).f2) ((rd_T108 a0_3 0).f3) a1_0 a1_1 a1_2 a1_3 a1_4 a1_5 a1_6 a1_7).bind fun t23 => (if t23 = true then (if 1 < (a0_3.length : Int) then ((impl_evalWith_126.f k ((rd_T108 a0_3 1).f0) ((rd_T108 a0_3 1).f1) ((rd_T108 a0_3 1).f2) ((rd_T108 a0_3 1).f3) a1_0 a1_1 a1_2 a1_3 a1_4 a1_5 a1_6 a1_7).bind fun t30 => (some t30)) else none) else (some false))) else none) else (if a0_0 = 9 then (if 0 < (a0_3.length : Int) then ((impl_evalWith_126.f k ((rd_T108 a0_3 0).f0) ((rd_T108 a0_3 0).f1) ((rd_T108 a0_3 0).f2) ((rd_T108 a0_3 0).f3) a1_0 a1_1 a1_2 a1_3 a1_4 a1_5 a1_6 a1_7).bind fun t39 => (if t39 = true then (some true) else (if 1 < (a0_3.length : Int) then ((impl_evalWith_126.f k ((rd_T108 a0_3 1).f0) ((rd_T108 a0_3 1).f1) ((rd_T108 a0_3 1).f2) ((rd_T108 a0_3 1).f3) a1_0 a1_1 a1_2 a1_3 a1_4 a1_5 a1_6 a1_7).bind fun t46 => (some t46)) else none))) else none) else ((cl126.f k a0_0 a0_1 a0_2 a0_3 a1_0 a1_1 a1_2 a1_3 a1_4 a1_5 a1_6 a1_7).bind fun t50 => (some t50))))
def impl_EvalCond.f (k : Nat) (a0 : List S112) (a1 : List S83) (a2_0 : Int) (a2_1 : Int) (a2_2 : Int) (a2_3 : List S108) (a3_0 : Int) (a3_1 : Int) (a3_2 : Int) (a3_3 : Int) (a3_4 : Int) (a3_5 : Int) : Option (Bool) := (impl_IsCond.f k a2_0 a2_1 a2_2 a2_3).bind fun t10 => (if t10 = true then ((impl_evalWith_126.f k a2_0 a2_1 a2_2 a2_3 a0 a1 a3_0 a3_1 a3_2 a3_3 a3_4 a3_5).bind fun t14 => (some t14)) else (some false))
def impl_RulesThatHold.l0 : Nat → List S112 → List S83 → Int → Int → Int → Int → Int → Int → List Int → List S110 → Int → Int → Option ((List Int))
 | 0, _, _, _, _, _, _, _, _, _, _, _, _ => none
 | k + 1, x0, x1, x7_0, x7_1, x7_2, x7_3, x7_4, x7_5, x9, x14, x15, x16 => if x16 < x15 then (if 0 ≤ x16 then (if x16 < (x14.length : Int) then ((impl_IsFor.f ((rd_T110 x14 x16).f0) ((rd_T110 x14 x16).f1) ((rd_T110 x14 x16).f2) ((rd_T110 x14 x16).f3.f0) ((rd_T110 x14 x16).f3.f1) ((rd_T110 x14 x16).f3.f2) ((rd_T110 x14 x16).f3.f3) x7_3 x7_4).bind fun t26 => (if t26 = true then ((impl_EvalCond.f k x0 x1 ((rd_T110 x14 x16).f3.f0) ((rd_T110 x14 x16).f3.f1) ((rd_T110 x14 x16).f3.f2) ((rd_T110 x14 x16).f3.f3) x7_0 x7_1 x7_2 x7_3 x7_4 x7_5).bind fun t33 => (if t33 = true then (if x9.length < 17592186044416 then (impl_RulesThatHold.l0 k x0 x1 x7_0 x7_1 x7_2 x7_3 x7_4 x7_5 (x9 ++ [x16]) x14 x15 (wrap64 (x16 + 1))) else none) else (impl_RulesThatHold.l0 k x0 x1 x7_0 x7_1 x7_2 x7_3 x7_4 x7_5 x9 x14 x15 (wrap64 (x16 + 1))))) else (impl_RulesThatHold.l0 k x0 x1 x7_0 x7_1 x7_2 x7_3 x7_4 x7_5 x9 x14 x15 (wrap64 (x16 + 1))))) else none) else none) else (some x9)
def impl_RulesThatHold.f (k : Nat) (a0 : List S112) (a1 : List S83) (a2_0 : Int) (a2_1 : List S110) (a3_0 : Int) (a3_1 : Int) (a3_2 : Int) (a3_3 : Int) (a3_4 : Int) (a3_5 : Int) : Option ((List Int)) := impl_RulesThatHold.l0 k a0 a1 a3_0 a3_1 a3_2 a3_3 a3_4 a3_5 ([] : List Int) a2_1 (a2_1.length : Int) 0
def impl_decided.l0 : Nat → Int → List S110 → Int → List Int → Int → Int → Option (Int)
 | 0, _, _, _, _, _, _ => none
 | k + 1, x2_0, x2_1, x5, x8, x9, x10 => if x10 < x9 then (if 0 ≤ x10 then (if x10 < (x8.length : Int) then (if 0 ≤ (rd x8 x10) then (if (rd x8 x10) < (x2_1.length : Int) then (if (rd_T110 x2_1 (rd x8 x10)).f0 = 0 then (some 0) else (if (rd_T110 x2_1 (rd x8 x10)).f0 = 1 then (impl_decided.l0 k x2_0 x2_1 1 x8 x9 (wrap64 (x10 + 1))) else (impl_decided.l0 k x2_0 x2_1 x5 x8 x9 (wrap64 (x10 + 1))))) else none) else none) else none) else none) else (some x5)
def impl_decided.f (k : Nat) (a0_0 : Int) (a0_1 : List S110) (a1 : List Int) : Option (Int) := impl_decided.l0 k a0_0 a0_1 0 a1 (a1.length : Int) 0
def impl_DecideBy.f (k : Nat) (a0 : List S112) (a1 : List S83) (a2_0 : Int) (a2_1 : List S110) (a3_0 : Int) (a3_1 : Int) (a3_2 : Int) (a3_3 : Int) (a3_4 : Int) (a3_5 : Int) : Option (Int) := (impl_IsRequest.f a3_0 a3_1 a3_2 a3_3 a3_4 a3_5).bind fun t10 => (if t10 = true then ((impl_IsPolicy.f k a2_0 a2_1).bind fun t14 => (if t14 = true then ((impl_RulesThatHold.f k a0 a1 a2_0 a2_1 a3_0 a3_1 a3_2 a3_3 a3_4 a3_5).bind fun t22 => ((impl_decided.f k a2_0 a2_1 t22).bind fun t23 => (some t23))) else (some 0))) else (some 0))
def impl_isTrueSaved.l0 : Nat → Int → Int → Int → List S112 → Int → List S110 → List S83 → List S86 → Int → List S58 → Int → Int → Int → Int → Int → Int → Int → Int → Int → Option (Bool)
 | 0, _, _, _, _, _, _, _, _, _, _, _, _, _, _, _, _, _, _, _ => none
 | k + 1, x2_0, x2_1, x2_2, x2_3, x2_4, x2_5, x2_6, x2_7, x2_8, x2_9, x3_0, x3_1, x3_2, x3_3, x3_4, x3_5, x3_6, x3_7, x5 => if x5 ≤ x3_7 then ((impl_AtTime.f x3_0 x3_1 x3_2 x3_3 x3_4 x3_5 x5).bind fun t51 => ((impl_DecideBy.f k x2_3 x2_6 x2_4 x2_5 t51.1 t51.2.1 t51.2.2.1 t51.2.2.2.1 t51.2.2.2.2.1 t51.2.2.2.2.2).bind fun t52 => (if t52 = x3_6 then (impl_isTrueSaved.l0 k x2_0 x2_1 x2_2 x2_3 x2_4 x2_5 x2_6 x2_7 x2_8 x2_9 x3_0 x3_1 x3_2 x3_3 x3_4 x3_5 x3_6 x3_7 (wrap64 (x5 + 1))) else (some false)))) else (some true)
def impl_isTrueSaved.f (k : Nat) (a0_0 : Int) (a0_1 : Int) (a0_2 : Int) (a0_3 : List S112) (a0_4 : Int) (a0_5 : List S110) (a0_6 : List S83) (a0_7 : List S86) (a0_8 : Int) (a0_9 : List S58) (a1_0 : Int) (a1_1 : Int) (a1_2 : Int) (a1_3 : Int) (a1_4 : Int) (a1_5 : Int) (a1_6 : Int) (a1_7 : Int) : Option (Bool) := (impl_IsRequest.f a1_0 a1_1 a1_2 a1_3 a1_4 a1_5).bind fun t8 => (if t8 = true then (if a1_5 < a0_8 then (some false) else ((impl_InRange.f a1_7 a1_5 (wrap64 (a1_5 + 10))).bind fun t28 => (if t28 = true then (impl_isTrueSaved.l0 k a0_0 a0_1 a0_2 a0_3 a0_4 a0_5 a0_6 a0_7 a0_8 a0_9 a1_0 a1_1 a1_2 a1_3 a1_4 a1_5 a1_6 a1_7 a1_5) else (some false)))) else (some false))
def cl31.f (k : Nat) (a0_0 : Int) (a0_1 : Int) (a0_2 : Int) (a0_3 : Int) (a0_4 : Int) (a0_5 : Int) (a0_6 : Int) (a0_7 : Int) (a1_0 : Int) (a1_1 : Int) (a1_2 : Int) (a1_3 : List S112) (a1_4 : Int) (a1_5 : List S110) (a1_6 : List S83) (a1_7 : List S86) (a1_8 : Int) (a1_9 : List S58) : Option (Bool) := (impl_isTrueSaved.f k a1_0 a1_1 a1_2 a1_3 a1_4 a1_5 a1_6 a1_7 a1_8 a1_9 a0_0 a0_1 a0_2 a0_3 a0_4 a0_5 a0_6 a0_7).bind fun t6 => (some (!t6))
def slices_IndexFunc65_31.l0 : Nat → List S58 → Int → Int → Int → List S112 → Int → List S110 → List S83 → List S86 → Int → List S58 → Int → Int → Option (Int)
 | 0, _, _, _, _, _, _, _, _, _, _, _, _, _ => none
 | k + 1, x0, x1_0, x1_1, x1_2, x1_3, x1_4, x1_5, x1_6, x1_7, x1_8, x1_9, x7, x8 => if x8 < x7 then (if 0 ≤ x8 then (if x8 < (x0.length : Int) then ((cl31.f k ((rd_T58 x0 x8).f0.f0) ((rd_T58 x0 x8).f0.f1) ((rd_T58 x0 x8).f0.f2) ((rd_T58 x0 x8).f0.f3) ((rd_T58 x0 x8).f0.f4) ((rd_T58 x0 x8).f0.f5) ((rd_T58 x0 x8).f1) ((rd_T58 x0 x8).f2) x1_0 x1_1 x1_2 x1_3 x1_4 x1_5 x1_6 x1_7 x1_8 x1_9).bind fun t16 => (if t16 = true then (some x8) else (slices_IndexFunc65_31.l0 k x0 x1_0 x1_1 x1_2 x1_3 x1_4 x1_5 x1_6 x1_7 x1_8 x1_9 x7 (wrap64 (x8 + 1))))) else none) else none) else (some (-1))
def slices_IndexFunc65_31.f (k : Nat) (a0 : List S58) (a1_0 : Int) (a1_1 : Int) (a1_2 : Int) (a1_3 : List S112) (a1_4 : Int) (a1_5 : List S110) (a1_6 : List S83) (a1_7 : List S86) (a1_8 : Int) (a1_9 : List S58) : Option (Int) := slices_IndexFunc65_31.l0 k a0 a1_0 a1_1 a1_2 a1_3 a1_4 a1_5 a1_6 a1_7 a1_8 a1_9 (a0.length : Int) 0
def slices_ContainsFunc30_31.f (k : Nat) (a0 : List S58) (a1_0 : Int) (a1_1 : Int) (a1_2 : Int) (a1_3 : List S112) (a1_4 : Int) (a1_5 : List S110) (a1_6 : List S83) (a1_7 : List S86) (a1_8 : Int) (a1_9 : List S58) : Option (Bool) := (slices_IndexFunc65_31.f k a0 a1_0 a1_1 a1_2 a1_3 a1_4 a1_5 a1_6 a1_7 a1_8 a1_9).bind fun t7 => (some (decide (t7 ≥ 0)))
def impl_IsPoint.f (k : Nat) (a0_0 : Int) (a0_1 : Int) (a0_2 : Int) (a0_3 : List S112) (a0_4 : Int) (a0_5 : List S110) (a0_6 : List S83) (a0_7 : List S86) (a0_8 : Int) (a0_9 : List S58) : Option (Bool) := if a0_8 = (-1) then ((impl_NewPoint.f a0_0).bind fun t9 => ((impl_EqualPoints.f k a0_0 a0_1 a0_2 a0_3 a0_4 a0_5 a0_6 a0_7 a0_8 a0_9 t9.1 t9.2.1 t9.2.2.1 t9.2.2.2.1 t9.2.2.2.2.1 t9.2.2.2.2.2.1 t9.2.2.2.2.2.2.1 t9.2.2.2.2.2.2.2.1 t9.2.2.2.2.2.2.2.2.1 t9.2.2.2.2.2.2.2.2.2).bind fun t10 => (some t10))) else ((impl_IsTime.f a0_8).bind fun t13 => (if t13 = true then ((impl_IsEpoch.f k a0_1 a0_2 a0_3 a0_4 a0_5).bind fun t17 => (if t17 = true then ((impl_IsStore.f k a0_6).bind fun t22 => (if t22 = true then ((impl_AreRevoked.f k a0_7).bind fun t27 => (if t27 = true then (if (a0_9.length : Int) ≤ 8 then ((slices_ContainsFunc30_31.f k a0_9 a0_0 a0_1 a0_2 a0_3 a0_4 a0_5 a0_6 a0_7 a0_8 a0_9).bind fun t39 => (some (!t39))) else (some false)) else (some false))) else (some false))) else (some false))) else (some false)))
def laws_eqIncludes.f (a0_0 : Int) (a0_1 : Int) (a1_0 : Int) (a1_1 : Int) : Option (Bool) := if a0_0 = a1_0 then (if a0_1 = a1_1 then (some true) else (some false)) else (some false)
def laws_eqIncludesS.l0 : Nat → List S112 → List S112 → Int → Option (Bool)
 | 0, _, _, _ => none
 | k + 1, x0, x1, x5 => if x5 < (x0.length : Int) then (if 0 ≤ x5 then (if x5 < (x1.length : Int) then ((laws_eqIncludes.f ((rd_T112 x0 x5).f0) ((rd_T112 x0 x5).f1) ((rd_T112 x1 x5).f0) ((rd_T112 x1 x5).f1)).bind fun t25 => (if t25 = true then (laws_eqIncludesS.l0 k x0 x1 (wrap64 (x5 + 1))) else (some false))) else none) else none) else (some true)
def laws_eqIncludesS.f (k : Nat) (a0 : List S112) (a1 : List S112) : Option (Bool) := if (a0.length : Int) = (a1.length : Int) then (laws_eqIncludesS.l0 k a0 a1 0) else (some false)
mutual
def laws_eqCondS.l0 : Nat → List S108 → List S108 → Int → Option (Bool)
 | 0, _, _, _ => none
 | k + 1, x0, x1, x5 => if x5 < (x0.length : Int) then (if 0 ≤ x5 then (if x5 < (x1.length : Int) then ((laws_eqCond.f k ((rd_T108 x0 x5).f0) ((rd_T108 x0 x5).f1) ((rd_T108 x0 x5).f2) ((rd_T108 x0 x5).f3) ((rd_T108 x1 x5).f0) ((rd_T108 x1 x5).f1) ((rd_T108 x1 x5).f2) ((rd_T108 x1 x5).f3)).bind fun t25 => (if t25 = true then (laws_eqCondS.l0 k x0 x1 (wrap64 (x5 + 1))) else (some false))) else none) else none) else (some true)
def laws_eqCondS.f : Nat → List S108 → List S108 → Option (Bool)
 | 0, _, _ => none
 | k + 1, a0, a1 => if (a0.length : Int) = (a1.length : Int) then (laws_eqCondS.l0 k a0 a1 0) else (some false)
def laws_eqCond.f : Nat → Int → Int → Int → List S108 → Int → Int → Int → List S108 → Option (Bool)
 | 0, _, _, _, _, _, _, _, _ => none
 | k + 1, a0_0, a0_1, a0_2, a0_3, a1_0, a1_1, a1_2, a1_3 => if a0_0 = a1_0 then (if a0_1 = a1_1 then (if a0_2 = a1_2 then ((laws_eqCondS.f k a0_3 a1_3).bind fun t24 => (if t24 = true then (some true) else (some false))) else (some false)) else (some false)) else (some false)
end
def laws_eqRule.f (k : Nat) (a0_0 : Int) (a0_1 : Int) (a0_2 : Int) (a0_3 : Int) (a0_4 : Int) (a0_5 : Int) (a0_6 : List S108) (a1_0 : Int) (a1_1 : Int) (a1_2 : Int) (a1_3 : Int) (a1_4 : Int) (a1_5 : Int) (a1_6 : List S108) : Option (Bool) := if a0_0 = a1_0 then (if a0_1 = a1_1 then (if a0_2 = a1_2 then ((laws_eqCond.f k a0_3 a0_4 a0_5 a0_6 a1_3 a1_4 a1_5 a1_6).bind fun t24 => (if t24 = true then (some true) else (some false))) else (some false)) else (some false)) else (some false)
def laws_eqRuleS.l0 : Nat → List S110 → List S110 → Int → Option (Bool)
 | 0, _, _, _ => none
 | k + 1, x0, x1, x5 => if x5 < (x0.length : Int) then (if 0 ≤ x5 then (if x5 < (x1.length : Int) then ((laws_eqRule.f k ((rd_T110 x0 x5).f0) ((rd_T110 x0 x5).f1) ((rd_T110 x0 x5).f2) ((rd_T110 x0 x5).f3.f0) ((rd_T110 x0 x5).f3.f1) ((rd_T110 x0 x5).f3.f2) ((rd_T110 x0 x5).f3.f3) ((rd_T110 x1 x5).f0) ((rd_T110 x1 x5).f1) ((rd_T110 x1 x5).f2) ((rd_T110 x1 x5).f3.f0) ((rd_T110 x1 x5).f3.f1) ((rd_T110 x1 x5).f3.f2) ((rd_T110 x1 x5).f3.f3)).bind fun t25 => (if t25 = true then (laws_eqRuleS.l0 k x0 x1 (wrap64 (x5 + 1))) else (some false))) else none) else none) else (some true)
def laws_eqRuleS.f (k : Nat) (a0 : List S110) (a1 : List S110) : Option (Bool) := if (a0.length : Int) = (a1.length : Int) then (laws_eqRuleS.l0 k a0 a1 0) else (some false)
def laws_eqPolicy.f (k : Nat) (a0_0 : Int) (a0_1 : List S110) (a1_0 : Int) (a1_1 : List S110) : Option (Bool) := if a0_0 = a1_0 then ((laws_eqRuleS.f k a0_1 a1_1).bind fun t14 => (if t14 = true then (some true) else (some false))) else (some false)
def laws_eqEpoch.f (k : Nat) (a0_0 : Int) (a0_1 : Int) (a0_2 : List S112) (a0_3 : Int) (a0_4 : List S110) (a1_0 : Int) (a1_1 : Int) (a1_2 : List S112) (a1_3 : Int) (a1_4 : List S110) : Option (Bool) := if a0_0 = a1_0 then (if a0_1 = a1_1 then ((laws_eqIncludesS.f k a0_2 a1_2).bind fun t19 => (if t19 = true then ((laws_eqPolicy.f k a0_3 a0_4 a1_3 a1_4).bind fun t25 => (if t25 = true then (some true) else (some false))) else (some false))) else (some false)) else (some false)
def laws_eqFact.f (a0_0 : Int) (a0_1 : Int) (a0_2 : Int) (a0_3 : Int) (a0_4 : Int) (a0_5 : Int) (a1_0 : Int) (a1_1 : Int) (a1_2 : Int) (a1_3 : Int) (a1_4 : Int) (a1_5 : Int) : Option (Bool) := if a0_0 = a1_0 then (if a0_1 = a1_1 then (if a0_2 = a1_2 then (if a0_3 = a1_3 then (if a0_4 = a1_4 then (if a0_5 = a1_5 then (some true) else (some false)) else (some false)) else (some false)) else (some false)) else (some false)) else (some false)
def laws_eqFactS.l0 : Nat → List S83 → List S83 → Int → Option (Bool)
 | 0, _, _, _ => none
 | k + 1, x0, x1, x5 => if x5 < (x0.length : Int) then (if 0 ≤ x5 then (if x5 < (x1.length : Int) then ((laws_eqFact.f ((rd_T83 x0 x5).f0) ((rd_T83 x0 x5).f1) ((rd_T83 x0 x5).f2) ((rd_T83 x0 x5).f3) ((rd_T83 x0 x5).f4) ((rd_T83 x0 x5).f5) ((rd_T83 x1 x5).f0) ((rd_T83 x1 x5).f1) ((rd_T83 x1 x5).f2) ((rd_T83 x1 x5).f3) ((rd_T83 x1 x5).f4) ((rd_T83 x1 x5).f5)).bind fun t25 => (if t25 = true then (laws_eqFactS.l0 k x0 x1 (wrap64 (x5 + 1))) else (some false))) else none) else none) else (some true)
def laws_eqFactS.f (k : Nat) (a0 : List S83) (a1 : List S83) : Option (Bool) := if (a0.length : Int) = (a1.length : Int) then (laws_eqFactS.l0 k a0 a1 0) else (some false)
def laws_eqRevoked.f (a0_0 : Int) (a0_1 : Int) (a1_0 : Int) (a1_1 : Int) : Option (Bool) := if a0_0 = a1_0 then (if a0_1 = a1_1 then (some true) else (some false)) else (some false)
def laws_eqRevokedS.l0 : Nat → List S86 → List S86 → Int → Option (Bool)
 | 0, _, _, _ => none
 | k + 1, x0, x1, x5 => if x5 < (x0.length : Int) then (if 0 ≤ x5 then (if x5 < (x1.length : Int) then ((laws_eqRevoked.f ((rd_T86 x0 x5).f0) ((rd_T86 x0 x5).f1) ((rd_T86 x1 x5).f0) ((rd_T86 x1 x5).f1)).bind fun t25 => (if t25 = true then (laws_eqRevokedS.l0 k x0 x1 (wrap64 (x5 + 1))) else (some false))) else none) else none) else (some true)
def laws_eqRevokedS.f (k : Nat) (a0 : List S86) (a1 : List S86) : Option (Bool) := if (a0.length : Int) = (a1.length : Int) then (laws_eqRevokedS.l0 k a0 a1 0) else (some false)
def laws_eqRequest.f (a0_0 : Int) (a0_1 : Int) (a0_2 : Int) (a0_3 : Int) (a0_4 : Int) (a0_5 : Int) (a1_0 : Int) (a1_1 : Int) (a1_2 : Int) (a1_3 : Int) (a1_4 : Int) (a1_5 : Int) : Option (Bool) := if a0_0 = a1_0 then (if a0_1 = a1_1 then (if a0_2 = a1_2 then (if a0_3 = a1_3 then (if a0_4 = a1_4 then (if a0_5 = a1_5 then (some true) else (some false)) else (some false)) else (some false)) else (some false)) else (some false)) else (some false)
def laws_eqSaved.f (a0_0 : Int) (a0_1 : Int) (a0_2 : Int) (a0_3 : Int) (a0_4 : Int) (a0_5 : Int) (a0_6 : Int) (a0_7 : Int) (a1_0 : Int) (a1_1 : Int) (a1_2 : Int) (a1_3 : Int) (a1_4 : Int) (a1_5 : Int) (a1_6 : Int) (a1_7 : Int) : Option (Bool) := (laws_eqRequest.f a0_0 a0_1 a0_2 a0_3 a0_4 a0_5 a1_0 a1_1 a1_2 a1_3 a1_4 a1_5).bind fun t9 => (if t9 = true then (if a0_6 = a1_6 then (if a0_7 = a1_7 then (some true) else (some false)) else (some false)) else (some false))
def laws_eqSavedS.l0 : Nat → List S58 → List S58 → Int → Option (Bool)
 | 0, _, _, _ => none
 | k + 1, x0, x1, x5 => if x5 < (x0.length : Int) then (if 0 ≤ x5 then (if x5 < (x1.length : Int) then ((laws_eqSaved.f ((rd_T58 x0 x5).f0.f0) ((rd_T58 x0 x5).f0.f1) ((rd_T58 x0 x5).f0.f2) ((rd_T58 x0 x5).f0.f3) ((rd_T58 x0 x5).f0.f4) ((rd_T58 x0 x5).f0.f5) ((rd_T58 x0 x5).f1) ((rd_T58 x0 x5).f2) ((rd_T58 x1 x5).f0.f0) ((rd_T58 x1 x5).f0.f1) ((rd_T58 x1 x5).f0.f2) ((rd_T58 x1 x5).f0.f3) ((rd_T58 x1 x5).f0.f4) ((rd_T58 x1 x5).f0.f5) ((rd_T58 x1 x5).f1) ((rd_T58 x1 x5).f2)).bind fun t25 => (if t25 = true then (laws_eqSavedS.l0 k x0 x1 (wrap64 (x5 + 1))) else (some false))) else none) else none) else (some true)
def laws_eqSavedS.f (k : Nat) (a0 : List S58) (a1 : List S58) : Option (Bool) := if (a0.length : Int) = (a1.length : Int) then (laws_eqSavedS.l0 k a0 a1 0) else (some false)
def laws_eqPoint.f (k : Nat) (a0_0 : Int) (a0_1 : Int) (a0_2 : Int) (a0_3 : List S112) (a0_4 : Int) (a0_5 : List S110) (a0_6 : List S83) (a0_7 : List S86) (a0_8 : Int) (a0_9 : List S58) (a1_0 : Int) (a1_1 : Int) (a1_2 : Int) (a1_3 : List S112) (a1_4 : Int) (a1_5 : List S110) (a1_6 : List S83) (a1_7 : List S86) (a1_8 : Int) (a1_9 : List S58) : Option (Bool) := if a0_0 = a1_0 then ((laws_eqEpoch.f k a0_1 a0_2 a0_3 a0_4 a0_5 a1_1 a1_2 a1_3 a1_4 a1_5).bind fun t14 => (if t14 = true then ((laws_eqFactS.f k a0_6 a1_6).bind fun t20 => (if t20 = true then ((laws_eqRevokedS.f k a0_7 a1_7).bind fun t26 => (if t26 = true then (if a0_8 = a1_8 then ((laws_eqSavedS.f k a0_9 a1_9).bind fun t37 => (if t37 = true then (some true) else (some false))) else (some false)) else (some false))) else (some false))) else (some false))) else (some false)
def laws_FnExactIsPoint.f (k : Nat) (a0_0 : Int) (a0_1 : Int) (a0_2 : Int) (a0_3 : List S117) (a0_4 : Int) (a0_5 : List S133) (a0_6 : List S90) (a0_7 : List S92) (a0_8 : Int) (a0_9 : List S96) : Option (Bool) := (laws_szPoint.f k a0_0 a0_1 a0_2 a0_3 a0_4 a0_5 a0_6 a0_7 a0_8 a0_9 1048576).bind fun t9 => (if t9 < 0 then (some true) else ((laws_toPoint.f k a0_0 a0_1 a0_2 a0_3 a0_4 a0_5 a0_6 a0_7 a0_8 a0_9).bind fun t13 => ((spec_IsPoint.f k t13.1 t13.2.1 t13.2.2.1 t13.2.2.2.1 t13.2.2.2.2.1 t13.2.2.2.2.2.1 t13.2.2.2.2.2.2.1 t13.2.2.2.2.2.2.2.1 t13.2.2.2.2.2.2.2.2.1 t13.2.2.2.2.2.2.2.2.2).bind fun t14 => ((laws_toPoint.f k a0_0 a0_1 a0_2 a0_3 a0_4 a0_5 a0_6 a0_7 a0_8 a0_9).bind fun t16 => ((impl_IsPoint.f k t16.1 t16.2.1 t16.2.2.1 t16.2.2.2.1 t16.2.2.2.2.1 t16.2.2.2.2.2.1 t16.2.2.2.2.2.2.1 t16.2.2.2.2.2.2.2.1 t16.2.2.2.2.2.2.2.2.1 t16.2.2.2.2.2.2.2.2.2).bind fun t18 => (if (t18 != t14) = true then (some false) else ((laws_toPoint.f k a0_0 a0_1 a0_2 a0_3 a0_4 a0_5 a0_6 a0_7 a0_8 a0_9).bind fun t24 => ((laws_eqPoint.f k t16.1 t16.2.1 t16.2.2.1 t16.2.2.2.1 t16.2.2.2.2.1 t16.2.2.2.2.2.1 t16.2.2.2.2.2.2.1 t16.2.2.2.2.2.2.2.1 t16.2.2.2.2.2.2.2.2.1 t16.2.2.2.2.2.2.2.2.2 t24.1 t24.2.1 t24.2.2.1 t24.2.2.2.1 t24.2.2.2.2.1 t24.2.2.2.2.2.1 t24.2.2.2.2.2.2.1 t24.2.2.2.2.2.2.2.1 t24.2.2.2.2.2.2.2.2.1 t24.2.2.2.2.2.2.2.2.2).bind fun t25 => (if t25 = true then (some true) else (some false))))))))))
def g117 (x : S117) : Prop := (Lit.int .i64 x.f0).wf = true ∧ (Lit.int .i64 x.f1).wf = true
def GF131 (G : S131 → Prop) (x : S131) : Prop := (Lit.int .i64 x.f0).wf = true ∧ (Lit.int .i64 x.f1).wf = true ∧ (Lit.int .i64 x.f2).wf = true ∧ (x.f3.length ≤ maxLen ∧ ∀ y_ ∈ x.f3, G y_)
def g131 (x : S131) : Prop := ∃ k, Nat.rec (motive := fun _ => S131 → Prop) (fun _ => False) (fun _ G => GF131 G) k x
def g133 (x : S133) : Prop := (Lit.int .i64 x.f0).wf = true ∧ (Lit.int .i64 x.f1).wf = true ∧ (Lit.int .i64 x.f2).wf = true ∧ g131 x.f3
def g25 (x : S25) : Prop := (Lit.int .i64 x.f0).wf = true ∧ (x.f1.length ≤ maxLen ∧ ∀ y_ ∈ x.f1, g133 y_)
def g27 (x : S27) : Prop := (Lit.int .i64 x.f0).wf = true ∧ (Lit.int .i64 x.f1).wf = true ∧ (x.f2.length ≤ maxLen ∧ ∀ y_ ∈ x.f2, g117 y_) ∧ g25 x.f3
def g90 (x : S90) : Prop := (Lit.int .i64 x.f0).wf = true ∧ (Lit.int .i64 x.f1).wf = true ∧ (Lit.int .i64 x.f2).wf = true ∧ (Lit.int .i64 x.f3).wf = true ∧ (Lit.int .i64 x.f4).wf = true ∧ (Lit.int .i64 x.f5).wf = true
def g92 (x : S92) : Prop := (Lit.int .i64 x.f0).wf = true ∧ (Lit.int .i64 x.f1).wf = true
def g94 (x : S94) : Prop := (Lit.int .i64 x.f0).wf = true ∧ (Lit.int .i64 x.f1).wf = true ∧ (Lit.int .i64 x.f2).wf = true ∧ (Lit.int .i64 x.f3).wf = true ∧ (Lit.int .i64 x.f4).wf = true ∧ (Lit.int .i64 x.f5).wf = true
def g96 (x : S96) : Prop := g94 x.f0 ∧ (Lit.int .i64 x.f1).wf = true ∧ (Lit.int .i64 x.f2).wf = true
def g32 (x : S32) : Prop := (Lit.int .i64 x.f0).wf = true ∧ g27 x.f1 ∧ (x.f2.length ≤ maxLen ∧ ∀ y_ ∈ x.f2, g90 y_) ∧ (x.f3.length ≤ maxLen ∧ ∀ y_ ∈ x.f3, g92 y_) ∧ (Lit.int .i64 x.f4).wf = true ∧ (x.f5.length ≤ maxLen ∧ ∀ y_ ∈ x.f5, g96 y_)
def laws_FnExactIsPoint.Pure : Prop := ∀ (x0 : S32), g32 x0 → ∃ k, laws_FnExactIsPoint.f k x0.f0 x0.f1.f0 x0.f1.f1 x0.f1.f2 x0.f1.f3.f0 x0.f1.f3.f1 x0.f2 x0.f3 x0.f4 x0.f5 = some true
end Go.Proofs.YtikbkgenadkbdaaGreat.QFnExactIsPoint
