import Derived.Lib.SlicesCompact
import Derived.Test.YthliecjiafjokaaGreatWWords
/- What each function that FnExactCenterIssue reaches computes, over numbers and lists. -/
namespace Go.Proofs.YthliecjiafjokaaGreat.QFnExactCenterIssue
open Go Go.RowKit Go.Proofs.YthliecjiafjokaaGreatW.PrintWords
set_option linter.unusedVariables false
structure S71 where
  f0 : Int
  f1 : (List Int)
  f2 : Int
def z71 : S71 := ⟨(0 : Int), ([] : List Int), (0 : Int)⟩
def rd_T71 (xs : List S71) (i : Int) : S71 := xs.getD i.toNat z71
structure S136 where
  f0 : Int
  f1 : Int
def z136 : S136 := ⟨(0 : Int), (0 : Int)⟩
def rd_T136 (xs : List S136) (i : Int) : S136 := xs.getD i.toNat z136
structure S144 where
  f0 : Int
  f1 : Int
  f2 : Int
  f3 : (List S144)
def z144 : S144 := ⟨(0 : Int), (0 : Int), (0 : Int), ([] : List S144)⟩
def rd_T144 (xs : List S144) (i : Int) : S144 := xs.getD i.toNat z144
structure S146 where
  f0 : Int
  f1 : Int
  f2 : Int
  f3 : S144
def z146 : S146 := ⟨(0 : Int), (0 : Int), (0 : Int), z144⟩
def rd_T146 (xs : List S146) (i : Int) : S146 := xs.getD i.toNat z146
structure S76 where
  f0 : Int
  f1 : (List S146)
def z76 : S76 := ⟨(0 : Int), ([] : List S146)⟩
structure S78 where
  f0 : Int
  f1 : Int
  f2 : (List S136)
  f3 : S76
def z78 : S78 := ⟨(0 : Int), (0 : Int), ([] : List S136), z76⟩
def rd_T78 (xs : List S78) (i : Int) : S78 := xs.getD i.toNat z78
structure S98 where
  f0 : Int
  f1 : Int
  f2 : Int
  f3 : Int
  f4 : Int
  f5 : Int
def z98 : S98 := ⟨(0 : Int), (0 : Int), (0 : Int), (0 : Int), (0 : Int), (0 : Int)⟩
def rd_T98 (xs : List S98) (i : Int) : S98 := xs.getD i.toNat z98
structure S102 where
  f0 : Int
  f1 : Int
def z102 : S102 := ⟨(0 : Int), (0 : Int)⟩
def rd_T102 (xs : List S102) (i : Int) : S102 := xs.getD i.toNat z102
structure S104 where
  f0 : Int
  f1 : Int
  f2 : Int
  f3 : Int
  f4 : Int
  f5 : Int
def z104 : S104 := ⟨(0 : Int), (0 : Int), (0 : Int), (0 : Int), (0 : Int), (0 : Int)⟩
def rd_T104 (xs : List S104) (i : Int) : S104 := xs.getD i.toNat z104
structure S86 where
  f0 : Int
  f1 : (List Int)
  f2 : Int
def z86 : S86 := ⟨(0 : Int), ([] : List Int), (0 : Int)⟩
def rd_T86 (xs : List S86) (i : Int) : S86 := xs.getD i.toNat z86
structure S125 where
  f0 : Int
  f1 : Int
def z125 : S125 := ⟨(0 : Int), (0 : Int)⟩
def rd_T125 (xs : List S125) (i : Int) : S125 := xs.getD i.toNat z125
structure S128 where
  f0 : Int
  f1 : Int
  f2 : Int
  f3 : (List S128)
def z128 : S128 := ⟨(0 : Int), (0 : Int), (0 : Int), ([] : List S128)⟩
def rd_T128 (xs : List S128) (i : Int) : S128 := xs.getD i.toNat z128
structure S130 where
  f0 : Int
  f1 : Int
  f2 : Int
  f3 : S128
def z130 : S130 := ⟨(0 : Int), (0 : Int), (0 : Int), z128⟩
def rd_T130 (xs : List S130) (i : Int) : S130 := xs.getD i.toNat z130
structure S91 where
  f0 : Int
  f1 : (List S130)
def z91 : S91 := ⟨(0 : Int), ([] : List S130)⟩
structure S93 where
  f0 : Int
  f1 : Int
  f2 : (List S125)
  f3 : S91
def z93 : S93 := ⟨(0 : Int), (0 : Int), ([] : List S125), z91⟩
def rd_T93 (xs : List S93) (i : Int) : S93 := xs.getD i.toNat z93
structure S96 where
  f0 : Int
  f1 : Int
  f2 : Int
  f3 : Int
  f4 : Int
  f5 : Int
def z96 : S96 := ⟨(0 : Int), (0 : Int), (0 : Int), (0 : Int), (0 : Int), (0 : Int)⟩
def rd_T96 (xs : List S96) (i : Int) : S96 := xs.getD i.toNat z96
structure S100 where
  f0 : Int
  f1 : Int
def z100 : S100 := ⟨(0 : Int), (0 : Int)⟩
def rd_T100 (xs : List S100) (i : Int) : S100 := xs.getD i.toNat z100
structure S50 where
  f0 : Int
  f1 : Int
  f2 : Int
  f3 : Int
  f4 : Int
  f5 : Int
def z50 : S50 := ⟨(0 : Int), (0 : Int), (0 : Int), (0 : Int), (0 : Int), (0 : Int)⟩
def rd_T50 (xs : List S50) (i : Int) : S50 := xs.getD i.toNat z50
structure S28 where
  f0 : (List S71)
  f1 : (List S78)
  f2 : (List S98)
  f3 : (List S102)
  f4 : Int
  f5 : (List S104)
def z28 : S28 := ⟨([] : List S71), ([] : List S78), ([] : List S98), ([] : List S102), (0 : Int), ([] : List S104)⟩
structure S36 where
  f0 : (List S86)
  f1 : (List S93)
  f2 : (List S96)
  f3 : (List S100)
  f4 : Int
  f5 : (List S50)
def z36 : S36 := ⟨([] : List S86), ([] : List S93), ([] : List S96), ([] : List S100), (0 : Int), ([] : List S50)⟩
def laws_szIntS.f (a0 : List Int) (a1 : Int) : Option (Int) := if (wrap64 (a1 - (a0.length : Int))) < 0 then (some (-1)) else (some (wrap64 (a1 - (a0.length : Int))))
def laws_szIssuer.f (a0_0 : Int) (a0_1 : List Int) (a0_2 : Int) (a1 : Int) : Option (Int) := (laws_szIntS.f a0_1 a1).bind fun t8 => (if t8 < 0 then (some (-1)) else (some t8))
def laws_szIssuerS.l0 : Nat → List S71 → Int → Int → Option (Int)
 | 0, _, _, _ => none
 | k + 1, x0, x1, x5 => if x5 < (x0.length : Int) then (if 0 ≤ x5 then ((laws_szIssuer.f ((rd_T71 x0 x5).f0) ((rd_T71 x0 x5).f1) ((rd_T71 x0 x5).f2) x1).bind fun t23 => (if t23 < 0 then (some (-1)) else (laws_szIssuerS.l0 k x0 t23 (wrap64 (x5 + 1))))) else none) else (some x1)
def laws_szIssuerS.f (k : Nat) (a0 : List S71) (a1 : Int) : Option (Int) := if (wrap64 (a1 - (a0.length : Int))) < 0 then (some (-1)) else (laws_szIssuerS.l0 k a0 (wrap64 (a1 - (a0.length : Int))) 0)
def laws_szIncludesS.f (a0 : List S136) (a1 : Int) : Option (Int) := if (wrap64 (a1 - (a0.length : Int))) < 0 then (some (-1)) else (some (wrap64 (a1 - (a0.length : Int))))
mutual
def laws_szCondS.l0 : Nat → List S144 → Int → Int → Option (Int)
 | 0, _, _, _ => none
 | k + 1, x0, x1, x5 => if x5 < (x0.length : Int) then (if 0 ≤ x5 then ((laws_szCond.f k ((rd_T144 x0 x5).f0) ((rd_T144 x0 x5).f1) ((rd_T144 x0 x5).f2) ((rd_T144 x0 x5).f3) x1).bind fun t23 => (if t23 < 0 then (some (-1)) else (laws_szCondS.l0 k x0 t23 (wrap64 (x5 + 1))))) else none) else (some x1)
def laws_szCondS.f : Nat → List S144 → Int → Option (Int)
 | 0, _, _ => none
 | k + 1, a0, a1 => if (wrap64 (a1 - (a0.length : Int))) < 0 then (some (-1)) else (laws_szCondS.l0 k a0 (wrap64 (a1 - (a0.length : Int))) 0)
def laws_szCond.f : Nat → Int → Int → Int → List S144 → Int → Option (Int)
 | 0, _, _, _, _, _ => none
 | k + 1, a0_0, a0_1, a0_2, a0_3, a1 => (laws_szCondS.f k a0_3 a1).bind fun t8 => (if t8 < 0 then (some (-1)) else (some t8))
end
def laws_szRule.f (k : Nat) (a0_0 : Int) (a0_1 : Int) (a0_2 : Int) (a0_3 : Int) (a0_4 : Int) (a0_5 : Int) (a0_6 : List S144) (a1 : Int) : Option (Int) := (laws_szCond.f k a0_3 a0_4 a0_5 a0_6 a1).bind fun t8 => (if t8 < 0 then (some (-1)) else (some t8))
def laws_szRuleS.l0 : Nat → List S146 → Int → Int → Option (Int)
 | 0, _, _, _ => none
 | k + 1, x0, x1, x5 => if x5 < (x0.length : Int) then (if 0 ≤ x5 then ((laws_szRule.f k ((rd_T146 x0 x5).f0) ((rd_T146 x0 x5).f1) ((rd_T146 x0 x5).f2) ((rd_T146 x0 x5).f3.f0) ((rd_T146 x0 x5).f3.f1) ((rd_T146 x0 x5).f3.f2) ((rd_T146 x0 x5).f3.f3) x1).bind fun t23 => (if t23 < 0 then (some (-1)) else (laws_szRuleS.l0 k x0 t23 (wrap64 (x5 + 1))))) else none) else (some x1)
def laws_szRuleS.f (k : Nat) (a0 : List S146) (a1 : Int) : Option (Int) := if (wrap64 (a1 - (a0.length : Int))) < 0 then (some (-1)) else (laws_szRuleS.l0 k a0 (wrap64 (a1 - (a0.length : Int))) 0)
def laws_szPolicy.f (k : Nat) (a0_0 : Int) (a0_1 : List S146) (a1 : Int) : Option (Int) := (laws_szRuleS.f k a0_1 a1).bind fun t8 => (if t8 < 0 then (some (-1)) else (some t8))
def laws_szEpoch.f (k : Nat) (a0_0 : Int) (a0_1 : Int) (a0_2 : List S136) (a0_3 : Int) (a0_4 : List S146) (a1 : Int) : Option (Int) := (laws_szIncludesS.f a0_2 a1).bind fun t8 => (if t8 < 0 then (some (-1)) else ((laws_szPolicy.f k a0_3 a0_4 t8).bind fun t14 => (if t14 < 0 then (some (-1)) else (some t14))))
def laws_szEpochS.l0 : Nat → List S78 → Int → Int → Option (Int)
 | 0, _, _, _ => none
 | k + 1, x0, x1, x5 => if x5 < (x0.length : Int) then (if 0 ≤ x5 then ((laws_szEpoch.f k ((rd_T78 x0 x5).f0) ((rd_T78 x0 x5).f1) ((rd_T78 x0 x5).f2) ((rd_T78 x0 x5).f3.f0) ((rd_T78 x0 x5).f3.f1) x1).bind fun t23 => (if t23 < 0 then (some (-1)) else (laws_szEpochS.l0 k x0 t23 (wrap64 (x5 + 1))))) else none) else (some x1)
def laws_szEpochS.f (k : Nat) (a0 : List S78) (a1 : Int) : Option (Int) := if (wrap64 (a1 - (a0.length : Int))) < 0 then (some (-1)) else (laws_szEpochS.l0 k a0 (wrap64 (a1 - (a0.length : Int))) 0)
def laws_szFactS.f (a0 : List S98) (a1 : Int) : Option (Int) := if (wrap64 (a1 - (a0.length : Int))) < 0 then (some (-1)) else (some (wrap64 (a1 - (a0.length : Int))))
def laws_szRevokedS.f (a0 : List S102) (a1 : Int) : Option (Int) := if (wrap64 (a1 - (a0.length : Int))) < 0 then (some (-1)) else (some (wrap64 (a1 - (a0.length : Int))))
def laws_szCertS.f (a0 : List S104) (a1 : Int) : Option (Int) := if (wrap64 (a1 - (a0.length : Int))) < 0 then (some (-1)) else (some (wrap64 (a1 - (a0.length : Int))))
def laws_szCenter.f (k : Nat) (a0_0 : List S71) (a0_1 : List S78) (a0_2 : List S98) (a0_3 : List S102) (a0_4 : Int) (a0_5 : List S104) (a1 : Int) : Option (Int) := (laws_szIssuerS.f k a0_0 a1).bind fun t8 => (if t8 < 0 then (some (-1)) else ((laws_szEpochS.f k a0_1 t8).bind fun t14 => (if t14 < 0 then (some (-1)) else ((laws_szFactS.f a0_2 t14).bind fun t20 => (if t20 < 0 then (some (-1)) else ((laws_szRevokedS.f a0_3 t20).bind fun t26 => (if t26 < 0 then (some (-1)) else ((laws_szCertS.f a0_5 t26).bind fun t32 => (if t32 < 0 then (some (-1)) else (some t32))))))))))
def laws_toIntS.l0 : Nat → List Int → List Int → Int → Option ((List Int))
 | 0, _, _, _ => none
 | k + 1, x0, x3, x4 => if x4 < (x0.length : Int) then (if 0 ≤ x4 then (if x4 < (x3.length : Int) then (laws_toIntS.l0 k x0 (x3.set (x4 : Int).toNat (rd x0 x4)) (wrap64 (x4 + 1))) else none) else none) else (some x3)
def laws_toIntS.f (k : Nat) (a0 : List Int) : Option ((List Int)) := if (a0.length : Int) = (a0.length : Int) then (if 0 ≤ (a0.length : Int) then (if (a0.length : Int) ≤ 35184372088832 then (laws_toIntS.l0 k a0 (List.replicate (a0.length : Int).toNat 0) 0) else none) else none) else none
def laws_toIssuer.f (k : Nat) (a0_0 : Int) (a0_1 : List Int) (a0_2 : Int) : Option (Int × (List Int) × Int) := (laws_toIntS.f k a0_1).bind fun t9 => (some (a0_0, t9, a0_2))
def laws_toIssuerS.l0 : Nat → List S71 → List S86 → Int → Option ((List S86))
 | 0, _, _, _ => none
 | k + 1, x0, x3, x4 => if x4 < (x0.length : Int) then (if 0 ≤ x4 then ((laws_toIssuer.f k ((rd_T71 x0 x4).f0) ((rd_T71 x0 x4).f1) ((rd_T71 x0 x4).f2)).bind fun t20 => (if x4 < (x3.length : Int) then (laws_toIssuerS.l0 k x0 (x3.set (x4 : Int).toNat (⟨t20.1, t20.2.1, t20.2.2⟩ : S86)) (wrap64 (x4 + 1))) else none)) else none) else (some x3)
def laws_toIssuerS.f (k : Nat) (a0 : List S71) : Option ((List S86)) := if (a0.length : Int) = (a0.length : Int) then (if 0 ≤ (a0.length : Int) then (if (a0.length : Int) ≤ 7036874417766 then (laws_toIssuerS.l0 k a0 (List.replicate (a0.length : Int).toNat (⟨0, ([] : List Int), 0⟩ : S86)) 0) else none) else none) else none
def laws_toIncludes.f (a0_0 : Int) (a0_1 : Int) : Option (Int × Int) := some (a0_0, a0_1)
def laws_toIncludesS.l0 : Nat → List S136 → List S125 → Int → Option ((List S125))
 | 0, _, _, _ => none
 | k + 1, x0, x3, x4 => if x4 < (x0.length : Int) then (if 0 ≤ x4 then ((laws_toIncludes.f ((rd_T136 x0 x4).f0) ((rd_T136 x0 x4).f1)).bind fun t20 => (if x4 < (x3.length : Int) then (laws_toIncludesS.l0 k x0 (x3.set (x4 : Int).toNat (⟨t20.1, t20.2⟩ : S125)) (wrap64 (x4 + 1))) else none)) else none) else (some x3)
def laws_toIncludesS.f (k : Nat) (a0 : List S136) : Option ((List S125)) := if (a0.length : Int) = (a0.length : Int) then (if 0 ≤ (a0.length : Int) then (if (a0.length : Int) ≤ 17592186044416 then (laws_toIncludesS.l0 k a0 (List.replicate (a0.length : Int).toNat (⟨0, 0⟩ : S125)) 0) else none) else none) else none
mutual
def laws_toCondS.l0 : Nat → List S144 → List S128 → Int → Option ((List S128))
 | 0, _, _, _ => none
 | k + 1, x0, x3, x4 => if x4 < (x0.length : Int) then (if 0 ≤ x4 then ((laws_toCond.f k ((rd_T144 x0 x4).f0) ((rd_T144 x0 x4).f1) ((rd_T144 x0 x4).f2) ((rd_T144 x0 x4).f3)).bind fun t20 => (if x4 < (x3.length : Int) then (laws_toCondS.l0 k x0 (x3.set (x4 : Int).toNat (⟨t20.1, t20.2.1, t20.2.2.1, t20.2.2.2⟩ : S128)) (wrap64 (x4 + 1))) else none)) else none) else (some x3)
def laws_toCondS.f : Nat → List S144 → Option ((List S128))
 | 0, _ => none
 | k + 1, a0 => if (a0.length : Int) = (a0.length : Int) then (if 0 ≤ (a0.length : Int) then (if (a0.length : Int) ≤ 5864062014805 then (laws_toCondS.l0 k a0 (List.replicate (a0.length : Int).toNat (⟨0, 0, 0, ([] : List S128)⟩ : S128)) 0) else none) else none) else none
def laws_toCond.f : Nat → Int → Int → Int → List S144 → Option (Int × Int × Int × (List S128))
 | 0, _, _, _, _ => none
 | k + 1, a0_0, a0_1, a0_2, a0_3 => (laws_toCondS.f k a0_3).bind fun t15 => (some (a0_0, a0_1, a0_2, t15))
end
def laws_toRule.f (k : Nat) (a0_0 : Int) (a0_1 : Int) (a0_2 : Int) (a0_3 : Int) (a0_4 : Int) (a0_5 : Int) (a0_6 : List S144) : Option (Int × Int × Int × Int × Int × Int × (List S128)) := (laws_toCond.f k a0_3 a0_4 a0_5 a0_6).bind fun t15 => (some (a0_0, a0_1, a0_2, t15.1, t15.2.1, t15.2.2.1, t15.2.2.2))
def laws_toRuleS.l0 : Nat → List S146 → List S130 → Int → Option ((List S130))
 | 0, _, _, _ => none
 | k + 1, x0, x3, x4 => if x4 < (x0.length : Int) then (if 0 ≤ x4 then ((laws_toRule.f k ((rd_T146 x0 x4).f0) ((rd_T146 x0 x4).f1) ((rd_T146 x0 x4).f2) ((rd_T146 x0 x4).f3.f0) ((rd_T146 x0 x4).f3.f1) ((rd_T146 x0 x4).f3.f2) ((rd_T146 x0 x4).f3.f3)).bind fun t20 => (if x4 < (x3.length : Int) then (laws_toRuleS.l0 k x0 (x3.set (x4 : Int).toNat (⟨t20.1, t20.2.1, t20.2.2.1, (⟨t20.2.2.2.1, t20.2.2.2.2.1, t20.2.2.2.2.2.1, t20.2.2.2.2.2.2⟩ : S128)⟩ : S130)) (wrap64 (x4 + 1))) else none)) else none) else (some x3)
def laws_toRuleS.f (k : Nat) (a0 : List S146) : Option ((List S130)) := if (a0.length : Int) = (a0.length : Int) then (if 0 ≤ (a0.length : Int) then (if (a0.length : Int) ≤ 3909374676536 then (laws_toRuleS.l0 k a0 (List.replicate (a0.length : Int).toNat (⟨0, 0, 0, (⟨0, 0, 0, ([] : List S128)⟩ : S128)⟩ : S130)) 0) else none) else none) else none
def laws_toPolicy.f (k : Nat) (a0_0 : Int) (a0_1 : List S146) : Option (Int × (List S130)) := (laws_toRuleS.f k a0_1).bind fun t9 => (some (a0_0, t9))
def laws_toEpoch.f (k : Nat) (a0_0 : Int) (a0_1 : Int) (a0_2 : List S136) (a0_3 : Int) (a0_4 : List S146) : Option (Int × Int × (List S125) × Int × (List S130)) := (laws_toIncludesS.f k a0_2).bind fun t12 => ((laws_toPolicy.f k a0_3 a0_4).bind fun t16 => (some (a0_0, a0_1, t12, t16.1, t16.2)))
def laws_toEpochS.l0 : Nat → List S78 → List S93 → Int → Option ((List S93))
 | 0, _, _, _ => none
 | k + 1, x0, x3, x4 => if x4 < (x0.length : Int) then (if 0 ≤ x4 then ((laws_toEpoch.f k ((rd_T78 x0 x4).f0) ((rd_T78 x0 x4).f1) ((rd_T78 x0 x4).f2) ((rd_T78 x0 x4).f3.f0) ((rd_T78 x0 x4).f3.f1)).bind fun t20 => (if x4 < (x3.length : Int) then (laws_toEpochS.l0 k x0 (x3.set (x4 : Int).toNat (⟨t20.1, t20.2.1, t20.2.2.1, (⟨t20.2.2.2.1, t20.2.2.2.2⟩ : S91)⟩ : S93)) (wrap64 (x4 + 1))) else none)) else none) else (some x3)
def laws_toEpochS.f (k : Nat) (a0 : List S78) : Option ((List S93)) := if (a0.length : Int) = (a0.length : Int) then (if 0 ≤ (a0.length : Int) then (if (a0.length : Int) ≤ 3909374676536 then (laws_toEpochS.l0 k a0 (List.replicate (a0.length : Int).toNat (⟨0, 0, ([] : List S125), (⟨0, ([] : List S130)⟩ : S91)⟩ : S93)) 0) else none) else none) else none
def laws_toFact.f (a0_0 : Int) (a0_1 : Int) (a0_2 : Int) (a0_3 : Int) (a0_4 : Int) (a0_5 : Int) : Option (Int × Int × Int × Int × Int × Int) := some (a0_0, a0_1, a0_2, a0_3, a0_4, a0_5)
def laws_toFactS.l0 : Nat → List S98 → List S96 → Int → Option ((List S96))
 | 0, _, _, _ => none
 | k + 1, x0, x3, x4 => if x4 < (x0.length : Int) then (if 0 ≤ x4 then ((laws_toFact.f ((rd_T98 x0 x4).f0) ((rd_T98 x0 x4).f1) ((rd_T98 x0 x4).f2) ((rd_T98 x0 x4).f3) ((rd_T98 x0 x4).f4) ((rd_T98 x0 x4).f5)).bind fun t20 => (if x4 < (x3.length : Int) then (laws_toFactS.l0 k x0 (x3.set (x4 : Int).toNat (⟨t20.1, t20.2.1, t20.2.2.1, t20.2.2.2.1, t20.2.2.2.2.1, t20.2.2.2.2.2⟩ : S96)) (wrap64 (x4 + 1))) else none)) else none) else (some x3)
def laws_toFactS.f (k : Nat) (a0 : List S98) : Option ((List S96)) := if (a0.length : Int) = (a0.length : Int) then (if 0 ≤ (a0.length : Int) then (if (a0.length : Int) ≤ 5864062014805 then (laws_toFactS.l0 k a0 (List.replicate (a0.length : Int).toNat (⟨0, 0, 0, 0, 0, 0⟩ : S96)) 0) else none) else none) else none
def laws_toRevoked.f (a0_0 : Int) (a0_1 : Int) : Option (Int × Int) := some (a0_0, a0_1)
def laws_toRevokedS.l0 : Nat → List S102 → List S100 → Int → Option ((List S100))
 | 0, _, _, _ => none
 | k + 1, x0, x3, x4 => if x4 < (x0.length : Int) then (if 0 ≤ x4 then ((laws_toRevoked.f ((rd_T102 x0 x4).f0) ((rd_T102 x0 x4).f1)).bind fun t20 => (if x4 < (x3.length : Int) then (laws_toRevokedS.l0 k x0 (x3.set (x4 : Int).toNat (⟨t20.1, t20.2⟩ : S100)) (wrap64 (x4 + 1))) else none)) else none) else (some x3)
def laws_toRevokedS.f (k : Nat) (a0 : List S102) : Option ((List S100)) := if (a0.length : Int) = (a0.length : Int) then (if 0 ≤ (a0.length : Int) then (if (a0.length : Int) ≤ 17592186044416 then (laws_toRevokedS.l0 k a0 (List.replicate (a0.length : Int).toNat (⟨0, 0⟩ : S100)) 0) else none) else none) else none
def laws_toCert.f (a0_0 : Int) (a0_1 : Int) (a0_2 : Int) (a0_3 : Int) (a0_4 : Int) (a0_5 : Int) : Option (Int × Int × Int × Int × Int × Int) := some (a0_0, a0_1, a0_2, a0_3, a0_4, a0_5)
def laws_toCertS.l0 : Nat → List S104 → List S50 → Int → Option ((List S50))
 | 0, _, _, _ => none
 | k + 1, x0, x3, x4 => if x4 < (x0.length : Int) then (if 0 ≤ x4 then ((laws_toCert.f ((rd_T104 x0 x4).f0) ((rd_T104 x0 x4).f1) ((rd_T104 x0 x4).f2) ((rd_T104 x0 x4).f3) ((rd_T104 x0 x4).f4) ((rd_T104 x0 x4).f5)).bind fun t20 => (if x4 < (x3.length : Int) then (laws_toCertS.l0 k x0 (x3.set (x4 : Int).toNat (⟨t20.1, t20.2.1, t20.2.2.1, t20.2.2.2.1, t20.2.2.2.2.1, t20.2.2.2.2.2⟩ : S50)) (wrap64 (x4 + 1))) else none)) else none) else (some x3)
def laws_toCertS.f (k : Nat) (a0 : List S104) : Option ((List S50)) := if (a0.length : Int) = (a0.length : Int) then (if 0 ≤ (a0.length : Int) then (if (a0.length : Int) ≤ 5864062014805 then (laws_toCertS.l0 k a0 (List.replicate (a0.length : Int).toNat (⟨0, 0, 0, 0, 0, 0⟩ : S50)) 0) else none) else none) else none
def laws_toCenter.f (k : Nat) (a0_0 : List S71) (a0_1 : List S78) (a0_2 : List S98) (a0_3 : List S102) (a0_4 : Int) (a0_5 : List S104) : Option ((List S86) × (List S93) × (List S96) × (List S100) × Int × (List S50)) := (laws_toIssuerS.f k a0_0).bind fun t6 => ((laws_toEpochS.f k a0_1).bind fun t10 => ((laws_toFactS.f k a0_2).bind fun t14 => ((laws_toRevokedS.f k a0_3).bind fun t18 => ((laws_toCertS.f k a0_5).bind fun t25 => (some (t6, t10, t14, t18, a0_4, t25))))))
def spec_l8Copy.l0 : Nat → List S86 → List S86 → Int → Option ((List S86))
 | 0, _, _, _ => none
 | k + 1, x0, x3, x4 => if x4 < (x0.length : Int) then (if 0 ≤ x4 then (if 0 + ((rd_T86 x0 x4).f1).length ≤ 17592186044416 then (if x3.length < 3518437208883 then (spec_l8Copy.l0 k x0 (x3 ++ ([(⟨(rd_T86 x0 x4).f0, (([] : List Int) ++ ((rd_T86 x0 x4).f1)), (rd_T86 x0 x4).f2⟩ : S86)] : List S86)) (wrap64 (x4 + 1))) else none) else none) else none) else (some x3)
def spec_l8Copy.f (k : Nat) (a0 : List S86) : Option ((List S86)) := spec_l8Copy.l0 k a0 ([] : List S86) 0
mutual
def spec_l15Copy.l0 : Nat → Int → Int → Int → List S128 → Int → Int → Int → List S128 → Int → Int → Int → List S128 → Int → Option (Int × Int × Int × (List S128))
 | 0, _, _, _, _, _, _, _, _, _, _, _, _, _ => none
 | k + 1, x1_0, x1_1, x1_2, x1_3, x2_0, x2_1, x2_2, x2_3, x3_0, x3_1, x3_2, x3_3, x4 => if x4 < (x1_3.length : Int) then (if 0 ≤ x4 then ((spec_l15Copy.f k ((rd_T128 x1_3 x4).f0) ((rd_T128 x1_3 x4).f1) ((rd_T128 x1_3 x4).f2) ((rd_T128 x1_3 x4).f3)).bind fun t26 => (if x3_3.length < 2932031007402 then (spec_l15Copy.l0 k x1_0 x1_1 x1_2 x1_3 x2_0 x2_1 x2_2 x2_3 x3_0 x3_1 x3_2 (x3_3 ++ ([(⟨t26.1, t26.2.1, t26.2.2.1, t26.2.2.2⟩ : S128)] : List S128)) (wrap64 (x4 + 1))) else none)) else none) else (some (x3_0, x3_1, x3_2, x3_3))
def spec_l15Copy.f : Nat → Int → Int → Int → List S128 → Option (Int × Int × Int × (List S128))
 | 0, _, _, _, _ => none
 | k + 1, a0_0, a0_1, a0_2, a0_3 => spec_l15Copy.l0 k a0_0 a0_1 a0_2 a0_3 0 0 0 ([] : List S128) a0_0 a0_1 a0_2 ([] : List S128) 0
end
def spec_l19Copy.l0 : Nat → Int → List S130 → Int → List S130 → Int → List S130 → Int → Option (Int × (List S130))
 | 0, _, _, _, _, _, _, _ => none
 | k + 1, x1_0, x1_1, x2_0, x2_1, x3_0, x3_1, x4 => if x4 < (x1_1.length : Int) then (if 0 ≤ x4 then ((spec_l15Copy.f k ((rd_T130 x1_1 x4).f3.f0) ((rd_T130 x1_1 x4).f3.f1) ((rd_T130 x1_1 x4).f3.f2) ((rd_T130 x1_1 x4).f3.f3)).bind fun t27 => (if x3_1.length < 1954687338268 then (spec_l19Copy.l0 k x1_0 x1_1 x2_0 x2_1 x3_0 (x3_1 ++ ([(⟨(rd_T130 x1_1 x4).f0, (rd_T130 x1_1 x4).f1, (rd_T130 x1_1 x4).f2, (⟨t27.1, t27.2.1, t27.2.2.1, t27.2.2.2⟩ : S128)⟩ : S130)] : List S130)) (wrap64 (x4 + 1))) else none)) else none) else (some (x3_0, x3_1))
def spec_l19Copy.f (k : Nat) (a0_0 : Int) (a0_1 : List S130) : Option (Int × (List S130)) := spec_l19Copy.l0 k a0_0 a0_1 0 ([] : List S130) a0_0 ([] : List S130) 0
def spec_l24Copy.f (k : Nat) (a0_0 : Int) (a0_1 : Int) (a0_2 : List S125) (a0_3 : Int) (a0_4 : List S130) : Option (Int × Int × (List S125) × Int × (List S130)) := if 0 + a0_2.length ≤ 8796093022208 then ((spec_l19Copy.f k a0_3 a0_4).bind fun t13 => (some (a0_0, a0_1, (([] : List S125) ++ a0_2), t13.1, t13.2))) else none
def spec_l24All.l0 : Nat → List S93 → List S93 → Int → Option ((List S93))
 | 0, _, _, _ => none
 | k + 1, x0, x3, x4 => if x4 < (x0.length : Int) then (if 0 ≤ x4 then ((spec_l24Copy.f k ((rd_T93 x0 x4).f0) ((rd_T93 x0 x4).f1) ((rd_T93 x0 x4).f2) ((rd_T93 x0 x4).f3.f0) ((rd_T93 x0 x4).f3.f1)).bind fun t17 => (if x3.length < 1954687338268 then (spec_l24All.l0 k x0 (x3 ++ ([(⟨t17.1, t17.2.1, t17.2.2.1, (⟨t17.2.2.2.1, t17.2.2.2.2⟩ : S91)⟩ : S93)] : List S93)) (wrap64 (x4 + 1))) else none)) else none) else (some x3)
def spec_l24All.f (k : Nat) (a0 : List S93) : Option ((List S93)) := spec_l24All.l0 k a0 ([] : List S93) 0
def spec_l7Copy.f (a0 : List S96) : Option ((List S96)) := if 0 + a0.length ≤ 2932031007402 then (some (([] : List S96) ++ a0)) else none
def spec_l28Copy.f (k : Nat) (a0_0 : List S86) (a0_1 : List S93) (a0_2 : List S96) (a0_3 : List S100) (a0_4 : Int) (a0_5 : List S50) : Option ((List S86) × (List S93) × (List S96) × (List S100) × Int × (List S50)) := (spec_l8Copy.f k a0_0).bind fun t5 => ((spec_l24All.f k a0_1).bind fun t8 => ((spec_l7Copy.f a0_2).bind fun t11 => (if 0 + a0_3.length ≤ 8796093022208 then (if 0 + a0_5.length ≤ 2932031007402 then (some (t5, t8, t11, (([] : List S100) ++ a0_3), a0_4, (([] : List S50) ++ a0_5))) else none) else none)))
def spec_l1In.f (a0 : Int) (a1 : Int) (a2 : Int) : Option (Bool) := if a0 ≥ a1 then (some (decide (a0 ≤ a2))) else (some false)
def spec_IsTime.f (a0 : Int) : Option (Bool) := (spec_l1In.f a0 0 10000).bind fun t4 => (some t4)
def spec_Min.f (a0 : Int) (a1 : Int) : Option (Int) := if a1 < a0 then (some a1) else (some a0)
def spec_EndOf.f (a0 : Int) (a1 : Int) : Option (Int) := (spec_IsTime.f a0).bind fun t6 => (if t6 = true then ((spec_IsTime.f a1).bind fun t10 => (if t10 = true then ((spec_Min.f 10000 (wrap64 (a0 + a1))).bind fun t16 => (some t16)) else (some 0))) else (some 0))
def spec_Mod.f (a0 : Int) (a1 : Int) : Option (Int) := (spec_l1In.f a1 1 1000000000000).bind fun t6 => (if t6 = true then (if a1 = 0 then none else (some (Int.tmod (wrap64 ((Int.tmod a0 a1) + a1)) a1))) else (some 0))
def spec_Hash.l0 : Nat → List Int → Int → Int → Option (Int)
 | 0, _, _, _ => none
 | k + 1, x0, x3, x4 => if x4 < (x0.length : Int) then (if 0 ≤ x4 then ((spec_Mod.f (rd x0 x4) 2147483647).bind fun t17 => (spec_Hash.l0 k x0 (Int.tmod (wrap64 ((wrap64 ((wrap64 (x3 * 1000003)) + t17)) + 13)) 2147483647) (wrap64 (x4 + 1)))) else none) else (some x3)
def spec_Hash.f (k : Nat) (a0 : List Int) : Option (Int) := spec_Hash.l0 k a0 11 0
def spec_KeyedHash.f (k : Nat) (a0 : Int) (a1 : List Int) : Option (Int) := if 1 + a1.length ≤ 17592186044416 then ((some (([a0] : List Int) ++ a1) : Option (List Int)).bind fun y8_1 => (if y8_1.length < 17592186044416 then ((spec_Hash.f k (y8_1 ++ [a0])).bind fun t12 => (some t12)) else none)) else none
def spec_MarkCert.f (k : Nat) (a0 : Int) (a1_0 : Int) (a1_1 : Int) (a1_2 : Int) (a1_3 : Int) (a1_4 : Int) (a1_5 : Int) : Option (Int × Int × Int × Int × Int × Int) := (spec_KeyedHash.f k a0 ([a1_0, a1_1, a1_2, a1_3, a1_4] : List Int)).bind fun t17 => (some (a1_0, a1_1, a1_2, a1_3, a1_4, t17))
def spec_IsValidKey.f (a0 : Int) : Option (Bool) := (spec_l1In.f a0 1 2147483646).bind fun t4 => (some t4)
def spec_IsName.f (a0 : Int) : Option (Bool) := (spec_l1In.f a0 10 49).bind fun t4 => (some t4)
def spec_IsCert.f (a0_0 : Int) (a0_1 : Int) (a0_2 : Int) (a0_3 : Int) (a0_4 : Int) (a0_5 : Int) : Option (Bool) := (spec_l1In.f a0_0 1 9999).bind fun t5 => (if t5 = true then ((spec_IsName.f a0_1).bind fun t9 => (if t9 = true then ((spec_IsValidKey.f a0_2).bind fun t14 => (if t14 = true then ((spec_IsTime.f a0_3).bind fun t19 => (if t19 = true then ((spec_IsTime.f a0_4).bind fun t24 => (if t24 = true then (if a0_3 ≤ a0_4 then (some (decide ((wrap64 (a0_4 - a0_3)) ≤ 50))) else (some false)) else (some false))) else (some false))) else (some false))) else (some false))) else (some false))
def spec_IssueCert.f (k : Nat) (a0 : Int) (a1 : Int) (a2 : Int) (a3 : Int) (a4 : Int) (a5 : Int) : Option (Int × Int × Int × Int × Int × Int × Bool) := (spec_EndOf.f a4 a5).bind fun t22 => ((spec_MarkCert.f k a0 a1 a2 a3 a4 t22 0).bind fun t24 => ((spec_IsValidKey.f a0).bind fun t26 => (if t26 = true then (if a5 < 0 then (some (0, 0, 0, 0, 0, 0, false)) else ((spec_IsCert.f t24.1 t24.2.1 t24.2.2.1 t24.2.2.2.1 t24.2.2.2.2.1 t24.2.2.2.2.2).bind fun t34 => (if t34 = true then (some (t24.1, t24.2.1, t24.2.2.1, t24.2.2.2.1, t24.2.2.2.2.1, t24.2.2.2.2.2, true)) else (some (0, 0, 0, 0, 0, 0, false))))) else (some (0, 0, 0, 0, 0, 0, false)))))
def spec_CenterIssue.f (k : Nat) (a0_0 : List S86) (a0_1 : List S93) (a0_2 : List S96) (a0_3 : List S100) (a0_4 : Int) (a0_5 : List S50) (a1 : Int) (a2 : Int) (a3 : Int) (a4 : Int) : Option ((List S86) × (List S93) × (List S96) × (List S100) × Int × (List S50) × Int) := (spec_l28Copy.f k a0_0 a0_1 a0_2 a0_3 a0_4 a0_5).bind fun t16 => ((spec_IssueCert.f k a0_4 (wrap64 ((a0_5.length : Int) + 1)) a1 a2 a3 a4).bind fun t28 => (if t28.2.2.2.2.2.2 = true then (if (a0_5.length : Int) ≥ 20 then (some (t16.1, t16.2.1, t16.2.2.1, t16.2.2.2.1, t16.2.2.2.2.1, t16.2.2.2.2.2, 0)) else (if t16.2.2.2.2.2.length < 2932031007402 then (some (t16.1, t16.2.1, t16.2.2.1, t16.2.2.2.1, t16.2.2.2.2.1, (t16.2.2.2.2.2 ++ ([(⟨t28.1, t28.2.1, t28.2.2.1, t28.2.2.2.1, t28.2.2.2.2.1, t28.2.2.2.2.2.1⟩ : S50)] : List S50)), t28.1)) else none)) else (some (t16.1, t16.2.1, t16.2.2.1, t16.2.2.2.1, t16.2.2.2.2.1, t16.2.2.2.2.2, 0))))
mutual
def impl_copyCond.l0 : Nat → Int → Int → Int → List S128 → Int → Int → Int → List S128 → List S128 → Int → Int → Option (Int × Int × Int × (List S128))
 | 0, _, _, _, _, _, _, _, _, _, _, _ => none
 | k + 1, x2_0, x2_1, x2_2, x2_3, x3_0, x3_1, x3_2, x3_3, x14, x15, x16 => if x16 < x15 then (if 0 ≤ x16 then (if x16 < (x14.length : Int) then ((impl_copyCond.f k ((rd_T128 x14 x16).f0) ((rd_T128 x14 x16).f1) ((rd_T128 x14 x16).f2) ((rd_T128 x14 x16).f3)).bind fun t23 => (if x3_3.length < 2932031007402 then (impl_copyCond.l0 k x2_0 x2_1 x2_2 x2_3 x3_0 x3_1 x3_2 (x3_3 ++ ([(⟨t23.1, t23.2.1, t23.2.2.1, t23.2.2.2⟩ : S128)] : List S128)) x14 x15 (wrap64 (x16 + 1))) else none)) else none) else none) else (some (x3_0, x3_1, x3_2, x3_3))
def impl_copyCond.f : Nat → Int → Int → Int → List S128 → Option (Int × Int × Int × (List S128))
 | 0, _, _, _, _ => none
 | k + 1, a0_0, a0_1, a0_2, a0_3 => impl_copyCond.l0 k 0 0 0 ([] : List S128) a0_0 a0_1 a0_2 ([] : List S128) a0_3 (a0_3.length : Int) 0
end
def impl_copyRules.l0 : Nat → List S130 → List S130 → Int → Int → Option ((List S130))
 | 0, _, _, _, _ => none
 | k + 1, x3, x7, x8, x9 => if x9 < x8 then (if 0 ≤ x9 then (if x9 < (x7.length : Int) then ((impl_copyCond.f k ((rd_T130 x7 x9).f3.f0) ((rd_T130 x7 x9).f3.f1) ((rd_T130 x7 x9).f3.f2) ((rd_T130 x7 x9).f3.f3)).bind fun t15 => (if x3.length < 1954687338268 then (impl_copyRules.l0 k (x3 ++ ([(⟨(rd_T130 x7 x9).f0, (rd_T130 x7 x9).f1, (rd_T130 x7 x9).f2, (⟨t15.1, t15.2.1, t15.2.2.1, t15.2.2.2⟩ : S128)⟩ : S130)] : List S130)) x7 x8 (wrap64 (x9 + 1))) else none)) else none) else none) else (some x3)
def impl_copyRules.f (k : Nat) (a0 : List S130) : Option ((List S130)) := impl_copyRules.l0 k ([] : List S130) a0 (a0.length : Int) 0
def impl_copyPolicy.f (k : Nat) (a0_0 : Int) (a0_1 : List S130) : Option (Int × (List S130)) := (impl_copyRules.f k a0_1).bind fun t7 => (some (a0_0, t7))
def impl_copyEpoch.f (k : Nat) (a0_0 : Int) (a0_1 : Int) (a0_2 : List S125) (a0_3 : Int) (a0_4 : List S130) : Option (Int × Int × (List S125) × Int × (List S130)) := if 0 + a0_2.length ≤ 8796093022208 then ((impl_copyPolicy.f k a0_3 a0_4).bind fun t13 => (some (a0_0, a0_1, (([] : List S125) ++ a0_2), t13.1, t13.2))) else none
def impl_copyEpochs.l0 : Nat → List S93 → List S93 → Int → Int → Option ((List S93))
 | 0, _, _, _, _ => none
 | k + 1, x3, x7, x8, x9 => if x9 < x8 then (if 0 ≤ x9 then (if x9 < (x7.length : Int) then ((impl_copyEpoch.f k ((rd_T93 x7 x9).f0) ((rd_T93 x7 x9).f1) ((rd_T93 x7 x9).f2) ((rd_T93 x7 x9).f3.f0) ((rd_T93 x7 x9).f3.f1)).bind fun t15 => (if x3.length < 1954687338268 then (impl_copyEpochs.l0 k (x3 ++ ([(⟨t15.1, t15.2.1, t15.2.2.1, (⟨t15.2.2.2.1, t15.2.2.2.2⟩ : S91)⟩ : S93)] : List S93)) x7 x8 (wrap64 (x9 + 1))) else none)) else none) else none) else (some x3)
def impl_copyEpochs.f (k : Nat) (a0 : List S93) : Option ((List S93)) := impl_copyEpochs.l0 k ([] : List S93) a0 (a0.length : Int) 0
def impl_copyFacts.f (a0 : List S96) : Option ((List S96)) := if 0 + a0.length ≤ 2932031007402 then (some (([] : List S96) ++ a0)) else none
def impl_copyCenter.l0 : Nat → List S86 → List S93 → List S96 → List S100 → Int → List S50 → List S86 → List S93 → List S96 → List S100 → Int → List S50 → List S86 → Int → Int → Option ((List S86) × (List S93) × (List S96) × (List S100) × Int × (List S50))
 | 0, _, _, _, _, _, _, _, _, _, _, _, _, _, _, _ => none
 | k + 1, x2_0, x2_1, x2_2, x2_3, x2_4, x2_5, x3_0, x3_1, x3_2, x3_3, x3_4, x3_5, x24, x25, x26 => if x26 < x25 then (if 0 ≤ x26 then (if x26 < (x24.length : Int) then (if 0 + ((rd_T86 x24 x26).f1).length ≤ 17592186044416 then (if x3_0.length < 3518437208883 then (impl_copyCenter.l0 k x2_0 x2_1 x2_2 x2_3 x2_4 x2_5 (x3_0 ++ ([(⟨(rd_T86 x24 x26).f0, (([] : List Int) ++ ((rd_T86 x24 x26).f1)), (rd_T86 x24 x26).f2⟩ : S86)] : List S86)) x3_1 x3_2 x3_3 x3_4 x3_5 x24 x25 (wrap64 (x26 + 1))) else none) else none) else none) else none) else (some (x3_0, x3_1, x3_2, x3_3, x3_4, x3_5))
def impl_copyCenter.f (k : Nat) (a0_0 : List S86) (a0_1 : List S93) (a0_2 : List S96) (a0_3 : List S100) (a0_4 : Int) (a0_5 : List S50) : Option ((List S86) × (List S93) × (List S96) × (List S100) × Int × (List S50)) := (impl_copyEpochs.f k a0_1).bind fun t8 => ((impl_copyFacts.f a0_2).bind fun t11 => (if 0 + a0_3.length ≤ 8796093022208 then (if 0 + a0_5.length ≤ 2932031007402 then (impl_copyCenter.l0 k ([] : List S86) ([] : List S93) ([] : List S96) ([] : List S100) 0 ([] : List S50) ([] : List S86) t8 t11 (([] : List S100) ++ a0_3) a0_4 (([] : List S50) ++ a0_5) a0_0 (a0_0.length : Int) 0) else none) else none))
def impl_InRange.f (a0 : Int) (a1 : Int) (a2 : Int) : Option (Bool) := if a1 ≤ a0 then (some (decide (a0 ≤ a2))) else (some false)
def impl_IsTime.f (a0 : Int) : Option (Bool) := (impl_InRange.f a0 0 10000).bind fun t4 => (some t4)
def impl_EndOf.f (a0 : Int) (a1 : Int) : Option (Int) := (impl_IsTime.f a0).bind fun t6 => (if t6 = true then ((impl_InRange.f a1 0 10000).bind fun t10 => (if t10 = true then (some (if 10000 < (wrap64 (a0 + a1)) then 10000 else (wrap64 (a0 + a1)))) else (some 0))) else (some 0))
def slices_Grow_int_int.f (l0 : List Int) (a1 : Int) : Option (List Int) := if 0 < a1 then if a1 < 2199023255552 then some [] else none else none
mutual
def slices_Concat100.l0 : Nat → List (List Int) → Int → List (List Int) → Int → Int → Option ((List Int))
 | 0, _, _, _, _, _ => none
 | k + 1, x0, x3, x9, x10, x11 => if x11 < x10 then (if 0 ≤ x11 then (if x11 < (x9.length : Int) then (if (wrap64 (x3 + ((rdOf ([] : List Int) x9 x11).length : Int))) < 0 then none else (slices_Concat100.l0 k x0 (wrap64 (x3 + ((rdOf ([] : List Int) x9 x11).length : Int))) x9 x10 (wrap64 (x11 + 1)))) else none) else none) else ((slices_Grow_int_int.f ([] : List Int) x3).bind fun t24 => (slices_Concat100.l1 k t24 x0 (x0.length : Int) 0))
def slices_Concat100.l1 : Nat → List Int → List (List Int) → Int → Int → Option ((List Int))
 | 0, _, _, _, _ => none
 | k + 1, x6, x25, x26, x27 => if x27 < x26 then (if 0 ≤ x27 then (if x27 < (x25.length : Int) then (if x6.length + (rdOf ([] : List Int) x25 x27).length ≤ 17592186044416 then (slices_Concat100.l1 k (x6 ++ (rdOf ([] : List Int) x25 x27)) x25 x26 (wrap64 (x27 + 1))) else none) else none) else none) else (some x6)
end
def slices_Concat100.f (k : Nat) (a0 : List (List Int)) : Option ((List Int)) := slices_Concat100.l0 k a0 0 a0 (a0.length : Int) 0
def impl_Mod.f (a0 : Int) (a1 : Int) : Option (Int) := (impl_InRange.f a1 1 1000000000000).bind fun t6 => (if t6 = true then (if a1 = 0 then none else (some (Int.tmod (wrap64 ((Int.tmod a0 a1) + a1)) a1))) else (some 0))
def impl_Hash.l0 : Nat → Int → List Int → Int → Int → Option (Int)
 | 0, _, _, _, _ => none
 | k + 1, x3, x6, x7, x8 => if x8 < x7 then (if 0 ≤ x8 then (if x8 < (x6.length : Int) then ((impl_Mod.f (rd x6 x8) 2147483647).bind fun t15 => (impl_Hash.l0 k (Int.tmod (wrap64 ((wrap64 ((wrap64 (x3 * 1000003)) + t15)) + 13)) 2147483647) x6 x7 (wrap64 (x8 + 1)))) else none) else none) else (some x3)
def impl_Hash.f (k : Nat) (a0 : List Int) : Option (Int) := impl_Hash.l0 k 11 a0 (a0.length : Int) 0
def impl_KeyedHash.f (k : Nat) (a0 : Int) (a1 : List Int) : Option (Int) := (slices_Concat100.f k ([([a0] : List Int), a1, ([a0] : List Int)] : List (List Int))).bind fun t11 => ((impl_Hash.f k t11).bind fun t12 => (some t12))
def impl_MarkCert.f (k : Nat) (a0 : Int) (a1_0 : Int) (a1_1 : Int) (a1_2 : Int) (a1_3 : Int) (a1_4 : Int) (a1_5 : Int) : Option (Int × Int × Int × Int × Int × Int) := (impl_KeyedHash.f k a0 ([a1_0, a1_1, a1_2, a1_3, a1_4] : List Int)).bind fun t17 => (some (a1_0, a1_1, a1_2, a1_3, a1_4, t17))
def impl_IsValidKey.f (a0 : Int) : Option (Bool) := (impl_InRange.f a0 1 2147483646).bind fun t4 => (some t4)
def impl_IsName.f (a0 : Int) : Option (Bool) := (impl_InRange.f a0 10 49).bind fun t4 => (some t4)
def impl_IsCert.f (a0_0 : Int) (a0_1 : Int) (a0_2 : Int) (a0_3 : Int) (a0_4 : Int) (a0_5 : Int) : Option (Bool) := (impl_InRange.f a0_0 1 9999).bind fun t5 => (if t5 = true then ((impl_IsName.f a0_1).bind fun t9 => (if t9 = true then ((impl_IsValidKey.f a0_2).bind fun t14 => (if t14 = true then ((impl_IsTime.f a0_3).bind fun t19 => (if t19 = true then ((impl_IsTime.f a0_4).bind fun t24 => (if t24 = true then ((impl_InRange.f (wrap64 (a0_4 - a0_3)) 0 50).bind fun t32 => (some t32)) else (some false))) else (some false))) else (some false))) else (some false))) else (some false))
def impl_IssueCert.f (k : Nat) (a0 : Int) (a1 : Int) (a2 : Int) (a3 : Int) (a4 : Int) (a5 : Int) : Option (Int × Int × Int × Int × Int × Int × Bool) := (impl_EndOf.f a4 a5).bind fun t22 => ((impl_MarkCert.f k a0 a1 a2 a3 a4 t22 0).bind fun t24 => ((impl_IsValidKey.f a0).bind fun t26 => (if t26 = true then ((impl_IsCert.f t24.1 t24.2.1 t24.2.2.1 t24.2.2.2.1 t24.2.2.2.2.1 t24.2.2.2.2.2).bind fun t30 => (if t30 = true then (if a5 < 0 then (some (0, 0, 0, 0, 0, 0, false)) else (some (t24.1, t24.2.1, t24.2.2.1, t24.2.2.2.1, t24.2.2.2.2.1, t24.2.2.2.2.2, true))) else (some (0, 0, 0, 0, 0, 0, false)))) else (some (0, 0, 0, 0, 0, 0, false)))))
def impl_CenterIssue.f (k : Nat) (a0_0 : List S86) (a0_1 : List S93) (a0_2 : List S96) (a0_3 : List S100) (a0_4 : Int) (a0_5 : List S50) (a1 : Int) (a2 : Int) (a3 : Int) (a4 : Int) : Option ((List S86) × (List S93) × (List S96) × (List S100) × Int × (List S50) × Int) := (impl_copyCenter.f k a0_0 a0_1 a0_2 a0_3 a0_4 a0_5).bind fun t17 => ((impl_IssueCert.f k a0_4 (wrap64 ((a0_5.length : Int) + 1)) a1 a2 a3 a4).bind fun t30 => (if t30.2.2.2.2.2.2 = true then (if (a0_5.length : Int) ≥ 20 then (some (t17.1, t17.2.1, t17.2.2.1, t17.2.2.2.1, t17.2.2.2.2.1, t17.2.2.2.2.2, 0)) else (if t17.2.2.2.2.2.length < 2932031007402 then (some (t17.1, t17.2.1, t17.2.2.1, t17.2.2.2.1, t17.2.2.2.2.1, (t17.2.2.2.2.2 ++ ([(⟨t30.1, t30.2.1, t30.2.2.1, t30.2.2.2.1, t30.2.2.2.2.1, t30.2.2.2.2.2.1⟩ : S50)] : List S50)), (wrap64 ((a0_5.length : Int) + 1)))) else none)) else (some (t17.1, t17.2.1, t17.2.2.1, t17.2.2.2.1, t17.2.2.2.2.1, t17.2.2.2.2.2, 0))))
def laws_eqIntS.l0 : Nat → List Int → List Int → Int → Option (Bool)
 | 0, _, _, _ => none
 | k + 1, x0, x1, x5 => if x5 < (x0.length : Int) then (if 0 ≤ x5 then (if x5 < (x1.length : Int) then (if (rd x0 x5) = (rd x1 x5) then (laws_eqIntS.l0 k x0 x1 (wrap64 (x5 + 1))) else (some false)) else none) else none) else (some true)
def laws_eqIntS.f (k : Nat) (a0 : List Int) (a1 : List Int) : Option (Bool) := if (a0.length : Int) = (a1.length : Int) then (laws_eqIntS.l0 k a0 a1 0) else (some false)
def laws_eqIssuer.f (k : Nat) (a0_0 : Int) (a0_1 : List Int) (a0_2 : Int) (a1_0 : Int) (a1_1 : List Int) (a1_2 : Int) : Option (Bool) := if a0_0 = a1_0 then ((laws_eqIntS.f k a0_1 a1_1).bind fun t14 => (if t14 = true then (if a0_2 = a1_2 then (some true) else (some false)) else (some false))) else (some false)
def laws_eqIssuerS.l0 : Nat → List S86 → List S86 → Int → Option (Bool)
 | 0, _, _, _ => none
 | k + 1, x0, x1, x5 => if x5 < (x0.length : Int) then (if 0 ≤ x5 then (if x5 < (x1.length : Int) then ((laws_eqIssuer.f k ((rd_T86 x0 x5).f0) ((rd_T86 x0 x5).f1) ((rd_T86 x0 x5).f2) ((rd_T86 x1 x5).f0) ((rd_T86 x1 x5).f1) ((rd_T86 x1 x5).f2)).bind fun t25 => (if t25 = true then (laws_eqIssuerS.l0 k x0 x1 (wrap64 (x5 + 1))) else (some false))) else none) else none) else (some true)
def laws_eqIssuerS.f (k : Nat) (a0 : List S86) (a1 : List S86) : Option (Bool) := if (a0.length : Int) = (a1.length : Int) then (laws_eqIssuerS.l0 k a0 a1 0) else (some false)
def laws_eqIncludes.f (a0_0 : Int) (a0_1 : Int) (a1_0 : Int) (a1_1 : Int) : Option (Bool) := if a0_0 = a1_0 then (if a0_1 = a1_1 then (some true) else (some false)) else (some false)
def laws_eqIncludesS.l0 : Nat → List S125 → List S125 → Int → Option (Bool)
 | 0, _, _, _ => none
 | k + 1, x0, x1, x5 => if x5 < (x0.length : Int) then (if 0 ≤ x5 then (if x5 < (x1.length : Int) then ((laws_eqIncludes.f ((rd_T125 x0 x5).f0) ((rd_T125 x0 x5).f1) ((rd_T125 x1 x5).f0) ((rd_T125 x1 x5).f1)).bind fun t25 => (if t25 = true then (laws_eqIncludesS.l0 k x0 x1 (wrap64 (x5 + 1))) else (some false))) else none) else none) else (some true)
def laws_eqIncludesS.f (k : Nat) (a0 : List S125) (a1 : List S125) : Option (Bool) := if (a0.length : Int) = (a1.length : Int) then (laws_eqIncludesS.l0 k a0 a1 0) else (some false)
mutual
def laws_eqCondS.l0 : Nat → List S128 → List S128 → Int → Option (Bool)
 | 0, _, _, _ => none
 | k + 1, x0, x1, x5 => if x5 < (x0.length : Int) then (if 0 ≤ x5 then (if x5 < (x1.length : Int) then ((laws_eqCond.f k ((rd_T128 x0 x5).f0) ((rd_T128 x0 x5).f1) ((rd_T128 x0 x5).f2) ((rd_T128 x0 x5).f3) ((rd_T128 x1 x5).f0) ((rd_T128 x1 x5).f1) ((rd_T128 x1 x5).f2) ((rd_T128 x1 x5).f3)).bind fun t25 => (if t25 = true then (laws_eqCondS.l0 k x0 x1 (wrap64 (x5 + 1))) else (some false))) else none) else none) else (some true)
def laws_eqCondS.f : Nat → List S128 → List S128 → Option (Bool)
 | 0, _, _ => none
 | k + 1, a0, a1 => if (a0.length : Int) = (a1.length : Int) then (laws_eqCondS.l0 k a0 a1 0) else (some false)
def laws_eqCond.f : Nat → Int → Int → Int → List S128 → Int → Int → Int → List S128 → Option (Bool)
 | 0, _, _, _, _, _, _, _, _ => none
 | k + 1, a0_0, a0_1, a0_2, a0_3, a1_0, a1_1, a1_2, a1_3 => if a0_0 = a1_0 then (if a0_1 = a1_1 then (if a0_2 = a1_2 then ((laws_eqCondS.f k a0_3 a1_3).bind fun t24 => (if t24 = true then (some true) else (some false))) else (some false)) else (some false)) else (some false)
end
def laws_eqRule.f (k : Nat) (a0_0 : Int) (a0_1 : Int) (a0_2 : Int) (a0_3 : Int) (a0_4 : Int) (a0_5 : Int) (a0_6 : List S128) (a1_0 : Int) (a1_1 : Int) (a1_2 : Int) (a1_3 : Int) (a1_4 : Int) (a1_5 : Int) (a1_6 : List S128) : Option (Bool) := if a0_0 = a1_0 then (if a0_1 = a1_1 then (if a0_2 = a1_2 then ((laws_eqCond.f k a0_3 a0_4 a0_5 a0_6 a1_3 a1_4 a1_5 a1_6).bind fun t24 => (if t24 = true then (some true) else (some false))) else (some false)) else (some false)) else (some false)
def laws_eqRuleS.l0 : Nat → List S130 → List S130 → Int → Option (Bool)
 | 0, _, _, _ => none
 | k + 1, x0, x1, x5 => if x5 < (x0.length : Int) then (if 0 ≤ x5 then (if x5 < (x1.length : Int) then ((laws_eqRule.f k ((rd_T130 x0 x5).f0) ((rd_T130 x0 x5).f1) ((rd_T130 x0 x5).f2) ((rd_T130 x0 x5).f3.f0) ((rd_T130 x0 x5).f3.f1) ((rd_T130 x0 x5).f3.f2) ((rd_T130 x0 x5).f3.f3) ((rd_T130 x1 x5).f0) ((rd_T130 x1 x5).f1) ((rd_T130 x1 x5).f2) ((rd_T130 x1 x5).f3.f0) ((rd_T130 x1 x5).f3.f1) ((rd_T130 x1 x5).f3.f2) ((rd_T130 x1 x5).f3.f3)).bind fun t25 => (if t25 = true then (laws_eqRuleS.l0 k x0 x1 (wrap64 (x5 + 1))) else (some false))) else none) else none) else (some true)
def laws_eqRuleS.f (k : Nat) (a0 : List S130) (a1 : List S130) : Option (Bool) := if (a0.length : Int) = (a1.length : Int) then (laws_eqRuleS.l0 k a0 a1 0) else (some false)
def laws_eqPolicy.f (k : Nat) (a0_0 : Int) (a0_1 : List S130) (a1_0 : Int) (a1_1 : List S130) : Option (Bool) := if a0_0 = a1_0 then ((laws_eqRuleS.f k a0_1 a1_1).bind fun t14 => (if t14 = true then (some true) else (some false))) else (some false)
def laws_eqEpoch.f (k : Nat) (a0_0 : Int) (a0_1 : Int) (a0_2 : List S125) (a0_3 : Int) (a0_4 : List S130) (a1_0 : Int) (a1_1 : Int) (a1_2 : List S125) (a1_3 : Int) (a1_4 : List S130) : Option (Bool) := if a0_0 = a1_0 then (if a0_1 = a1_1 then ((laws_eqIncludesS.f k a0_2 a1_2).bind fun t19 => (if t19 = true then ((laws_eqPolicy.f k a0_3 a0_4 a1_3 a1_4).bind fun t25 => (if t25 = true then (some true) else (some false))) else (some false))) else (some false)) else (some false)
def laws_eqEpochS.l0 : Nat → List S93 → List S93 → Int → Option (Bool)
 | 0, _, _, _ => none
 | k + 1, x0, x1, x5 => if x5 < (x0.length : Int) then (if 0 ≤ x5 then (if x5 < (x1.length : Int) then ((laws_eqEpoch.f k ((rd_T93 x0 x5).f0) ((rd_T93 x0 x5).f1) ((rd_T93 x0 x5).f2) ((rd_T93 x0 x5).f3.f0) ((rd_T93 x0 x5).f3.f1) ((rd_T93 x1 x5).f0) ((rd_T93 x1 x5).f1) ((rd_T93 x1 x5).f2) ((rd_T93 x1 x5).f3.f0) ((rd_T93 x1 x5).f3.f1)).bind fun t25 => (if t25 = true then (laws_eqEpochS.l0 k x0 x1 (wrap64 (x5 + 1))) else (some false))) else none) else none) else (some true)
def laws_eqEpochS.f (k : Nat) (a0 : List S93) (a1 : List S93) : Option (Bool) := if (a0.length : Int) = (a1.length : Int) then (laws_eqEpochS.l0 k a0 a1 0) else (some false)
def laws_eqFact.f (a0_0 : Int) (a0_1 : Int) (a0_2 : Int) (a0_3 : Int) (a0_4 : Int) (a0_5 : Int) (a1_0 : Int) (a1_1 : Int) (a1_2 : Int) (a1_3 : Int) (a1_4 : Int) (a1_5 : Int) : Option (Bool) := if a0_0 = a1_0 then (if a0_1 = a1_1 then (if a0_2 = a1_2 then (if a0_3 = a1_3 then (if a0_4 = a1_4 then (if a0_5 = a1_5 then (some true) else (some false)) else (some false)) else (some false)) else (some false)) else (some false)) else (some false)
def laws_eqFactS.l0 : Nat → List S96 → List S96 → Int → Option (Bool)
 | 0, _, _, _ => none
 | k + 1, x0, x1, x5 => if x5 < (x0.length : Int) then (if 0 ≤ x5 then (if x5 < (x1.length : Int) then ((laws_eqFact.f ((rd_T96 x0 x5).f0) ((rd_T96 x0 x5).f1) ((rd_T96 x0 x5).f2) ((rd_T96 x0 x5).f3) ((rd_T96 x0 x5).f4) ((rd_T96 x0 x5).f5) ((rd_T96 x1 x5).f0) ((rd_T96 x1 x5).f1) ((rd_T96 x1 x5).f2) ((rd_T96 x1 x5).f3) ((rd_T96 x1 x5).f4) ((rd_T96 x1 x5).f5)).bind fun t25 => (if t25 = true then (laws_eqFactS.l0 k x0 x1 (wrap64 (x5 + 1))) else (some false))) else none) else none) else (some true)
def laws_eqFactS.f (k : Nat) (a0 : List S96) (a1 : List S96) : Option (Bool) := if (a0.length : Int) = (a1.length : Int) then (laws_eqFactS.l0 k a0 a1 0) else (some false)
def laws_eqRevoked.f (a0_0 : Int) (a0_1 : Int) (a1_0 : Int) (a1_1 : Int) : Option (Bool) := if a0_0 = a1_0 then (if a0_1 = a1_1 then (some true) else (some false)) else (some false)
def laws_eqRevokedS.l0 : Nat → List S100 → List S100 → Int → Option (Bool)
 | 0, _, _, _ => none
 | k + 1, x0, x1, x5 => if x5 < (x0.length : Int) then (if 0 ≤ x5 then (if x5 < (x1.length : Int) then ((laws_eqRevoked.f ((rd_T100 x0 x5).f0) ((rd_T100 x0 x5).f1) ((rd_T100 x1 x5).f0) ((rd_T100 x1 x5).f1)).bind fun t25 => (if t25 = true then (laws_eqRevokedS.l0 k x0 x1 (wrap64 (x5 + 1))) else (some false))) else none) else none) else (some true)
def laws_eqRevokedS.f (k : Nat) (a0 : List S100) (a1 : List S100) : Option (Bool) := if (a0.length : Int) = (a1.length : Int) then (laws_eqRevokedS.l0 k a0 a1 0) else (some false)
def laws_eqCert.f (a0_0 : Int) (a0_1 : Int) (a0_2 : Int) (a0_3 : Int) (a0_4 : Int) (a0_5 : Int) (a1_0 : Int) (a1_1 : Int) (a1_2 : Int) (a1_3 : Int) (a1_4 : Int) (a1_5 : Int) : Option (Bool) := if a0_0 = a1_0 then (if a0_1 = a1_1 then (if a0_2 = a1_2 then (if a0_3 = a1_3 then (if a0_4 = a1_4 then (if a0_5 = a1_5 then (some true) else (some false)) else (some false)) else (some false)) else (some false)) else (some false)) else (some false)
def laws_eqCertS.l0 : Nat → List S50 → List S50 → Int → Option (Bool)
 | 0, _, _, _ => none
 | k + 1, x0, x1, x5 => if x5 < (x0.length : Int) then (if 0 ≤ x5 then (if x5 < (x1.length : Int) then ((laws_eqCert.f ((rd_T50 x0 x5).f0) ((rd_T50 x0 x5).f1) ((rd_T50 x0 x5).f2) ((rd_T50 x0 x5).f3) ((rd_T50 x0 x5).f4) ((rd_T50 x0 x5).f5) ((rd_T50 x1 x5).f0) ((rd_T50 x1 x5).f1) ((rd_T50 x1 x5).f2) ((rd_T50 x1 x5).f3) ((rd_T50 x1 x5).f4) ((rd_T50 x1 x5).f5)).bind fun t25 => (if t25 = true then (laws_eqCertS.l0 k x0 x1 (wrap64 (x5 + 1))) else (some false))) else none) else none) else (some true)
def laws_eqCertS.f (k : Nat) (a0 : List S50) (a1 : List S50) : Option (Bool) := if (a0.length : Int) = (a1.length : Int) then (laws_eqCertS.l0 k a0 a1 0) else (some false)
def laws_eqCenter.f (k : Nat) (a0_0 : List S86) (a0_1 : List S93) (a0_2 : List S96) (a0_3 : List S100) (a0_4 : Int) (a0_5 : List S50) (a1_0 : List S86) (a1_1 : List S93) (a1_2 : List S96) (a1_3 : List S100) (a1_4 : Int) (a1_5 : List S50) : Option (Bool) := (laws_eqIssuerS.f k a0_0 a1_0).bind fun t9 => (if t9 = true then ((laws_eqEpochS.f k a0_1 a1_1).bind fun t15 => (if t15 = true then ((laws_eqFactS.f k a0_2 a1_2).bind fun t21 => (if t21 = true then ((laws_eqRevokedS.f k a0_3 a1_3).bind fun t27 => (if t27 = true then (if a0_4 = a1_4 then ((laws_eqCertS.f k a0_5 a1_5).bind fun t38 => (if t38 = true then (some true) else (some false))) else (some false)) else (some false))) else (some false))) else (some false))) else (some false))
def laws_markIntS.l0 : Nat → List Int → Int → Int → Option (Int × (List Int))
 | 0, _, _, _ => none
 | k + 1, x0, x1, x5 => if x5 < (x0.length : Int) then (if 0 ≤ x5 then (laws_markIntS.l0 k (x0.set (x5 : Int).toNat x1) (wrap64 (x1 + 1)) (wrap64 (x5 + 1))) else none) else (some (x1, x0))
def laws_markIntS.f (k : Nat) (a0 : List Int) (a1 : Int) : Option (Int × (List Int)) := laws_markIntS.l0 k a0 a1 0
def laws_markIssuerS.l0 : Nat → List S86 → Int → Int → Option (Int × (List S86))
 | 0, _, _, _ => none
 | k + 1, x0, x1, x5 => if x5 < (x0.length : Int) then (if 0 ≤ x5 then ((some (x0.set (x5 : Int).toNat (⟨x1, (rd_T86 x0 x5).f1, (rd_T86 x0 x5).f2⟩ : S86)) : Option (List S86)).bind fun y0_1 => (if x5 < (y0_1.length : Int) then ((laws_markIntS.f k ((rd_T86 y0_1 x5).f1) (wrap64 (x1 + 1))).bind fun t25 => ((some (y0_1.set (x5 : Int).toNat (⟨(rd_T86 y0_1 x5).f0, t25.2, (rd_T86 y0_1 x5).f2⟩ : S86)) : Option (List S86)).bind fun y25_3 => (if x5 < (y25_3.length : Int) then (laws_markIssuerS.l0 k (y25_3.set (x5 : Int).toNat (⟨(rd_T86 y25_3 x5).f0, (rd_T86 y25_3 x5).f1, t25.1⟩ : S86)) (wrap64 (t25.1 + 1)) (wrap64 (x5 + 1))) else none))) else none)) else none) else (some (x1, x0))
def laws_markIssuerS.f (k : Nat) (a0 : List S86) (a1 : Int) : Option (Int × (List S86)) := laws_markIssuerS.l0 k a0 a1 0
def laws_markIncludesS.l0 : Nat → List S125 → Int → Int → Option (Int × (List S125))
 | 0, _, _, _ => none
 | k + 1, x0, x1, x5 => if x5 < (x0.length : Int) then (if 0 ≤ x5 then ((some (x0.set (x5 : Int).toNat (⟨x1, (rd_T125 x0 x5).f1⟩ : S125)) : Option (List S125)).bind fun y0_1 => (if x5 < (y0_1.length : Int) then (laws_markIncludesS.l0 k (y0_1.set (x5 : Int).toNat (⟨(rd_T125 y0_1 x5).f0, (wrap64 (x1 + 1))⟩ : S125)) (wrap64 ((wrap64 (x1 + 1)) + 1)) (wrap64 (x5 + 1))) else none)) else none) else (some (x1, x0))
def laws_markIncludesS.f (k : Nat) (a0 : List S125) (a1 : Int) : Option (Int × (List S125)) := laws_markIncludesS.l0 k a0 a1 0
mutual
def laws_markCondS.l0 : Nat → List S128 → Int → Int → Option (Int × (List S128))
 | 0, _, _, _ => none
 | k + 1, x0, x1, x5 => if x5 < (x0.length : Int) then (if 0 ≤ x5 then ((some (x0.set (x5 : Int).toNat (⟨x1, (rd_T128 x0 x5).f1, (rd_T128 x0 x5).f2, (rd_T128 x0 x5).f3⟩ : S128)) : Option (List S128)).bind fun y0_1 => (if x5 < (y0_1.length : Int) then ((some (y0_1.set (x5 : Int).toNat (⟨(rd_T128 y0_1 x5).f0, (wrap64 (x1 + 1)), (rd_T128 y0_1 x5).f2, (rd_T128 y0_1 x5).f3⟩ : S128)) : Option (List S128)).bind fun y0_2 => (if x5 < (y0_2.length : Int) then ((some (y0_2.set (x5 : Int).toNat (⟨(rd_T128 y0_2 x5).f0, (rd_T128 y0_2 x5).f1, (wrap64 ((wrap64 (x1 + 1)) + 1)), (rd_T128 y0_2 x5).f3⟩ : S128)) : Option (List S128)).bind fun y0_3 => (if x5 < (y0_3.length : Int) then ((laws_markCondS.f k ((rd_T128 y0_3 x5).f3) (wrap64 ((wrap64 ((wrap64 (x1 + 1)) + 1)) + 1))).bind fun t39 => (laws_markCondS.l0 k (y0_3.set (x5 : Int).toNat (⟨(rd_T128 y0_3 x5).f0, (rd_T128 y0_3 x5).f1, (rd_T128 y0_3 x5).f2, t39.2⟩ : S128)) t39.1 (wrap64 (x5 + 1)))) else none)) else none)) else none)) else none) else (some (x1, x0))
def laws_markCondS.f : Nat → List S128 → Int → Option (Int × (List S128))
 | 0, _, _ => none
 | k + 1, a0, a1 => laws_markCondS.l0 k a0 a1 0
end
def laws_markRuleS.l0 : Nat → List S130 → Int → Int → Option (Int × (List S130))
 | 0, _, _, _ => none
 | k + 1, x0, x1, x5 => if x5 < (x0.length : Int) then (if 0 ≤ x5 then ((some (x0.set (x5 : Int).toNat (⟨x1, (rd_T130 x0 x5).f1, (rd_T130 x0 x5).f2, (⟨(rd_T130 x0 x5).f3.f0, (rd_T130 x0 x5).f3.f1, (rd_T130 x0 x5).f3.f2, (rd_T130 x0 x5).f3.f3⟩ : S128)⟩ : S130)) : Option (List S130)).bind fun y0_1 => (if x5 < (y0_1.length : Int) then ((some (y0_1.set (x5 : Int).toNat (⟨(rd_T130 y0_1 x5).f0, (wrap64 (x1 + 1)), (rd_T130 y0_1 x5).f2, (⟨(rd_T130 y0_1 x5).f3.f0, (rd_T130 y0_1 x5).f3.f1, (rd_T130 y0_1 x5).f3.f2, (rd_T130 y0_1 x5).f3.f3⟩ : S128)⟩ : S130)) : Option (List S130)).bind fun y0_2 => (if x5 < (y0_2.length : Int) then ((some (y0_2.set (x5 : Int).toNat (⟨(rd_T130 y0_2 x5).f0, (rd_T130 y0_2 x5).f1, (wrap64 ((wrap64 (x1 + 1)) + 1)), (⟨(rd_T130 y0_2 x5).f3.f0, (rd_T130 y0_2 x5).f3.f1, (rd_T130 y0_2 x5).f3.f2, (rd_T130 y0_2 x5).f3.f3⟩ : S128)⟩ : S130)) : Option (List S130)).bind fun y0_3 => (if x5 < (y0_3.length : Int) then ((some (y0_3.set (x5 : Int).toNat (⟨(rd_T130 y0_3 x5).f0, (rd_T130 y0_3 x5).f1, (rd_T130 y0_3 x5).f2, (⟨(wrap64 ((wrap64 ((wrap64 (x1 + 1)) + 1)) + 1)), (rd_T130 y0_3 x5).f3.f1, (rd_T130 y0_3 x5).f3.f2, (rd_T130 y0_3 x5).f3.f3⟩ : S128)⟩ : S130)) : Option (List S130)).bind fun y0_4 => (if x5 < (y0_4.length : Int) then ((some (y0_4.set (x5 : Int).toNat (⟨(rd_T130 y0_4 x5).f0, (rd_T130 y0_4 x5).f1, (rd_T130 y0_4 x5).f2, (⟨(rd_T130 y0_4 x5).f3.f0, (wrap64 ((wrap64 ((wrap64 ((wrap64 (x1 + 1)) + 1)) + 1)) + 1)), (rd_T130 y0_4 x5).f3.f2, (rd_T130 y0_4 x5).f3.f3⟩ : S128)⟩ : S130)) : Option (List S130)).bind fun y0_5 => (if x5 < (y0_5.length : Int) then ((some (y0_5.set (x5 : Int).toNat (⟨(rd_T130 y0_5 x5).f0, (rd_T130 y0_5 x5).f1, (rd_T130 y0_5 x5).f2, (⟨(rd_T130 y0_5 x5).f3.f0, (rd_T130 y0_5 x5).f3.f1, (wrap64 ((wrap64 ((wrap64 ((wrap64 ((wrap64 (x1 + 1)) + 1)) + 1)) + 1)) + 1)), (rd_T130 y0_5 x5).f3.f3⟩ : S128)⟩ : S130)) : Option (List S130)).bind fun y0_6 => (if x5 < (y0_6.length : Int) then ((laws_markCondS.f k ((rd_T130 y0_6 x5).f3.f3) (wrap64 ((wrap64 ((wrap64 ((wrap64 ((wrap64 ((wrap64 (x1 + 1)) + 1)) + 1)) + 1)) + 1)) + 1))).bind fun t64 => (laws_markRuleS.l0 k (y0_6.set (x5 : Int).toNat (⟨(rd_T130 y0_6 x5).f0, (rd_T130 y0_6 x5).f1, (rd_T130 y0_6 x5).f2, (⟨(rd_T130 y0_6 x5).f3.f0, (rd_T130 y0_6 x5).f3.f1, (rd_T130 y0_6 x5).f3.f2, t64.2⟩ : S128)⟩ : S130)) t64.1 (wrap64 (x5 + 1)))) else none)) else none)) else none)) else none)) else none)) else none)) else none) else (some (x1, x0))
def laws_markRuleS.f (k : Nat) (a0 : List S130) (a1 : Int) : Option (Int × (List S130)) := laws_markRuleS.l0 k a0 a1 0
def laws_markEpochS.l0 : Nat → List S93 → Int → Int → Option (Int × (List S93))
 | 0, _, _, _ => none
 | k + 1, x0, x1, x5 => if x5 < (x0.length : Int) then (if 0 ≤ x5 then ((some (x0.set (x5 : Int).toNat (⟨x1, (rd_T93 x0 x5).f1, (rd_T93 x0 x5).f2, (⟨(rd_T93 x0 x5).f3.f0, (rd_T93 x0 x5).f3.f1⟩ : S91)⟩ : S93)) : Option (List S93)).bind fun y0_1 => (if x5 < (y0_1.length : Int) then ((some (y0_1.set (x5 : Int).toNat (⟨(rd_T93 y0_1 x5).f0, (wrap64 (x1 + 1)), (rd_T93 y0_1 x5).f2, (⟨(rd_T93 y0_1 x5).f3.f0, (rd_T93 y0_1 x5).f3.f1⟩ : S91)⟩ : S93)) : Option (List S93)).bind fun y0_2 => (if x5 < (y0_2.length : Int) then ((laws_markIncludesS.f k ((rd_T93 y0_2 x5).f2) (wrap64 ((wrap64 (x1 + 1)) + 1))).bind fun t32 => ((some (y0_2.set (x5 : Int).toNat (⟨(rd_T93 y0_2 x5).f0, (rd_T93 y0_2 x5).f1, t32.2, (⟨(rd_T93 y0_2 x5).f3.f0, (rd_T93 y0_2 x5).f3.f1⟩ : S91)⟩ : S93)) : Option (List S93)).bind fun y32_4 => (if x5 < (y32_4.length : Int) then ((some (y32_4.set (x5 : Int).toNat (⟨(rd_T93 y32_4 x5).f0, (rd_T93 y32_4 x5).f1, (rd_T93 y32_4 x5).f2, (⟨t32.1, (rd_T93 y32_4 x5).f3.f1⟩ : S91)⟩ : S93)) : Option (List S93)).bind fun y0_5 => (if x5 < (y0_5.length : Int) then ((laws_markRuleS.f k ((rd_T93 y0_5 x5).f3.f1) (wrap64 (t32.1 + 1))).bind fun t48 => (laws_markEpochS.l0 k (y0_5.set (x5 : Int).toNat (⟨(rd_T93 y0_5 x5).f0, (rd_T93 y0_5 x5).f1, (rd_T93 y0_5 x5).f2, (⟨(rd_T93 y0_5 x5).f3.f0, t48.2⟩ : S91)⟩ : S93)) t48.1 (wrap64 (x5 + 1)))) else none)) else none))) else none)) else none)) else none) else (some (x1, x0))
def laws_markEpochS.f (k : Nat) (a0 : List S93) (a1 : Int) : Option (Int × (List S93)) := laws_markEpochS.l0 k a0 a1 0
def laws_markFactS.l0 : Nat → List S96 → Int → Int → Option (Int × (List S96))
 | 0, _, _, _ => none
 | k + 1, x0, x1, x5 => if x5 < (x0.length : Int) then (if 0 ≤ x5 then ((some (x0.set (x5 : Int).toNat (⟨x1, (rd_T96 x0 x5).f1, (rd_T96 x0 x5).f2, (rd_T96 x0 x5).f3, (rd_T96 x0 x5).f4, (rd_T96 x0 x5).f5⟩ : S96)) : Option (List S96)).bind fun y0_1 => (if x5 < (y0_1.length : Int) then ((some (y0_1.set (x5 : Int).toNat (⟨(rd_T96 y0_1 x5).f0, (wrap64 (x1 + 1)), (rd_T96 y0_1 x5).f2, (rd_T96 y0_1 x5).f3, (rd_T96 y0_1 x5).f4, (rd_T96 y0_1 x5).f5⟩ : S96)) : Option (List S96)).bind fun y0_2 => (if x5 < (y0_2.length : Int) then ((some (y0_2.set (x5 : Int).toNat (⟨(rd_T96 y0_2 x5).f0, (rd_T96 y0_2 x5).f1, (wrap64 ((wrap64 (x1 + 1)) + 1)), (rd_T96 y0_2 x5).f3, (rd_T96 y0_2 x5).f4, (rd_T96 y0_2 x5).f5⟩ : S96)) : Option (List S96)).bind fun y0_3 => (if x5 < (y0_3.length : Int) then ((some (y0_3.set (x5 : Int).toNat (⟨(rd_T96 y0_3 x5).f0, (rd_T96 y0_3 x5).f1, (rd_T96 y0_3 x5).f2, (wrap64 ((wrap64 ((wrap64 (x1 + 1)) + 1)) + 1)), (rd_T96 y0_3 x5).f4, (rd_T96 y0_3 x5).f5⟩ : S96)) : Option (List S96)).bind fun y0_4 => (if x5 < (y0_4.length : Int) then ((some (y0_4.set (x5 : Int).toNat (⟨(rd_T96 y0_4 x5).f0, (rd_T96 y0_4 x5).f1, (rd_T96 y0_4 x5).f2, (rd_T96 y0_4 x5).f3, (wrap64 ((wrap64 ((wrap64 ((wrap64 (x1 + 1)) + 1)) + 1)) + 1)), (rd_T96 y0_4 x5).f5⟩ : S96)) : Option (List S96)).bind fun y0_5 => (if x5 < (y0_5.length : Int) then (laws_markFactS.l0 k (y0_5.set (x5 : Int).toNat (⟨(rd_T96 y0_5 x5).f0, (rd_T96 y0_5 x5).f1, (rd_T96 y0_5 x5).f2, (rd_T96 y0_5 x5).f3, (rd_T96 y0_5 x5).f4, (wrap64 ((wrap64 ((wrap64 ((wrap64 ((wrap64 (x1 + 1)) + 1)) + 1)) + 1)) + 1))⟩ : S96)) (wrap64 ((wrap64 ((wrap64 ((wrap64 ((wrap64 ((wrap64 (x1 + 1)) + 1)) + 1)) + 1)) + 1)) + 1)) (wrap64 (x5 + 1))) else none)) else none)) else none)) else none)) else none)) else none) else (some (x1, x0))
def laws_markFactS.f (k : Nat) (a0 : List S96) (a1 : Int) : Option (Int × (List S96)) := laws_markFactS.l0 k a0 a1 0
def laws_markRevokedS.l0 : Nat → List S100 → Int → Int → Option (Int × (List S100))
 | 0, _, _, _ => none
 | k + 1, x0, x1, x5 => if x5 < (x0.length : Int) then (if 0 ≤ x5 then ((some (x0.set (x5 : Int).toNat (⟨x1, (rd_T100 x0 x5).f1⟩ : S100)) : Option (List S100)).bind fun y0_1 => (if x5 < (y0_1.length : Int) then (laws_markRevokedS.l0 k (y0_1.set (x5 : Int).toNat (⟨(rd_T100 y0_1 x5).f0, (wrap64 (x1 + 1))⟩ : S100)) (wrap64 ((wrap64 (x1 + 1)) + 1)) (wrap64 (x5 + 1))) else none)) else none) else (some (x1, x0))
def laws_markRevokedS.f (k : Nat) (a0 : List S100) (a1 : Int) : Option (Int × (List S100)) := laws_markRevokedS.l0 k a0 a1 0
def laws_markCertS.l0 : Nat → List S50 → Int → Int → Option (Int × (List S50))
 | 0, _, _, _ => none
 | k + 1, x0, x1, x5 => if x5 < (x0.length : Int) then (if 0 ≤ x5 then ((some (x0.set (x5 : Int).toNat (⟨x1, (rd_T50 x0 x5).f1, (rd_T50 x0 x5).f2, (rd_T50 x0 x5).f3, (rd_T50 x0 x5).f4, (rd_T50 x0 x5).f5⟩ : S50)) : Option (List S50)).bind fun y0_1 => (if x5 < (y0_1.length : Int) then ((some (y0_1.set (x5 : Int).toNat (⟨(rd_T50 y0_1 x5).f0, (wrap64 (x1 + 1)), (rd_T50 y0_1 x5).f2, (rd_T50 y0_1 x5).f3, (rd_T50 y0_1 x5).f4, (rd_T50 y0_1 x5).f5⟩ : S50)) : Option (List S50)).bind fun y0_2 => (if x5 < (y0_2.length : Int) then ((some (y0_2.set (x5 : Int).toNat (⟨(rd_T50 y0_2 x5).f0, (rd_T50 y0_2 x5).f1, (wrap64 ((wrap64 (x1 + 1)) + 1)), (rd_T50 y0_2 x5).f3, (rd_T50 y0_2 x5).f4, (rd_T50 y0_2 x5).f5⟩ : S50)) : Option (List S50)).bind fun y0_3 => (if x5 < (y0_3.length : Int) then ((some (y0_3.set (x5 : Int).toNat (⟨(rd_T50 y0_3 x5).f0, (rd_T50 y0_3 x5).f1, (rd_T50 y0_3 x5).f2, (wrap64 ((wrap64 ((wrap64 (x1 + 1)) + 1)) + 1)), (rd_T50 y0_3 x5).f4, (rd_T50 y0_3 x5).f5⟩ : S50)) : Option (List S50)).bind fun y0_4 => (if x5 < (y0_4.length : Int) then ((some (y0_4.set (x5 : Int).toNat (⟨(rd_T50 y0_4 x5).f0, (rd_T50 y0_4 x5).f1, (rd_T50 y0_4 x5).f2, (rd_T50 y0_4 x5).f3, (wrap64 ((wrap64 ((wrap64 ((wrap64 (x1 + 1)) + 1)) + 1)) + 1)), (rd_T50 y0_4 x5).f5⟩ : S50)) : Option (List S50)).bind fun y0_5 => (if x5 < (y0_5.length : Int) then (laws_markCertS.l0 k (y0_5.set (x5 : Int).toNat (⟨(rd_T50 y0_5 x5).f0, (rd_T50 y0_5 x5).f1, (rd_T50 y0_5 x5).f2, (rd_T50 y0_5 x5).f3, (rd_T50 y0_5 x5).f4, (wrap64 ((wrap64 ((wrap64 ((wrap64 ((wrap64 (x1 + 1)) + 1)) + 1)) + 1)) + 1))⟩ : S50)) (wrap64 ((wrap64 ((wrap64 ((wrap64 ((wrap64 ((wrap64 (x1 + 1)) + 1)) + 1)) + 1)) + 1)) + 1)) (wrap64 (x5 + 1))) else none)) else none)) else none)) else none)) else none)) else none) else (some (x1, x0))
def laws_markCertS.f (k : Nat) (a0 : List S50) (a1 : Int) : Option (Int × (List S50)) := laws_markCertS.l0 k a0 a1 0
def laws_markCenter.f (k : Nat) (a0_0 : List S86) (a0_1 : List S93) (a0_2 : List S96) (a0_3 : List S100) (a0_4 : Int) (a0_5 : List S50) (a1 : Int) : Option (Int × (List S86) × (List S93) × (List S96) × (List S100) × (List S50)) := (laws_markIssuerS.f k a0_0 a1).bind fun t8 => ((laws_markEpochS.f k a0_1 t8.1).bind fun t12 => ((laws_markFactS.f k a0_2 t12.1).bind fun t16 => ((laws_markRevokedS.f k a0_3 t16.1).bind fun t20 => ((laws_markCertS.f k a0_5 t20.1).bind fun t24 => (some (t24.1, t8.2, t12.2, t16.2, t20.2, t24.2))))))
def laws_heldIntS.l0 : Nat → List Int → Int → Int → Option (Int)
 | 0, _, _, _ => none
 | k + 1, x0, x1, x5 => if x5 < (x0.length : Int) then (if 0 ≤ x5 then (if (rd x0 x5) = x1 then (laws_heldIntS.l0 k x0 (wrap64 (x1 + 1)) (wrap64 (x5 + 1))) else (some (-1))) else none) else (some x1)
def laws_heldIntS.f (k : Nat) (a0 : List Int) (a1 : Int) : Option (Int) := laws_heldIntS.l0 k a0 a1 0
def laws_heldIssuerS.l0 : Nat → List S86 → Int → Int → Option (Int)
 | 0, _, _, _ => none
 | k + 1, x0, x1, x5 => if x5 < (x0.length : Int) then (if 0 ≤ x5 then (if (rd_T86 x0 x5).f0 = x1 then ((laws_heldIntS.f k ((rd_T86 x0 x5).f1) (wrap64 (x1 + 1))).bind fun t27 => (if t27 < 0 then (some (-1)) else (if (rd_T86 x0 x5).f2 = t27 then (laws_heldIssuerS.l0 k x0 (wrap64 (t27 + 1)) (wrap64 (x5 + 1))) else (some (-1))))) else (some (-1))) else none) else (some x1)
def laws_heldIssuerS.f (k : Nat) (a0 : List S86) (a1 : Int) : Option (Int) := laws_heldIssuerS.l0 k a0 a1 0
def laws_heldIncludesS.l0 : Nat → List S125 → Int → Int → Option (Int)
 | 0, _, _, _ => none
 | k + 1, x0, x1, x5 => if x5 < (x0.length : Int) then (if 0 ≤ x5 then (if (rd_T125 x0 x5).f0 = x1 then (if (rd_T125 x0 x5).f1 = (wrap64 (x1 + 1)) then (laws_heldIncludesS.l0 k x0 (wrap64 ((wrap64 (x1 + 1)) + 1)) (wrap64 (x5 + 1))) else (some (-1))) else (some (-1))) else none) else (some x1)
def laws_heldIncludesS.f (k : Nat) (a0 : List S125) (a1 : Int) : Option (Int) := laws_heldIncludesS.l0 k a0 a1 0
mutual
def laws_heldCondS.l0 : Nat → List S128 → Int → Int → Option (Int)
 | 0, _, _, _ => none
 | k + 1, x0, x1, x5 => if x5 < (x0.length : Int) then (if 0 ≤ x5 then (if (rd_T128 x0 x5).f0 = x1 then (if (rd_T128 x0 x5).f1 = (wrap64 (x1 + 1)) then (if (rd_T128 x0 x5).f2 = (wrap64 ((wrap64 (x1 + 1)) + 1)) then ((laws_heldCondS.f k ((rd_T128 x0 x5).f3) (wrap64 ((wrap64 ((wrap64 (x1 + 1)) + 1)) + 1))).bind fun t45 => (if t45 < 0 then (some (-1)) else (laws_heldCondS.l0 k x0 t45 (wrap64 (x5 + 1))))) else (some (-1))) else (some (-1))) else (some (-1))) else none) else (some x1)
def laws_heldCondS.f : Nat → List S128 → Int → Option (Int)
 | 0, _, _ => none
 | k + 1, a0, a1 => laws_heldCondS.l0 k a0 a1 0
end
def laws_heldRuleS.l0 : Nat → List S130 → Int → Int → Option (Int)
 | 0, _, _, _ => none
 | k + 1, x0, x1, x5 => if x5 < (x0.length : Int) then (if 0 ≤ x5 then (if (rd_T130 x0 x5).f0 = x1 then (if (rd_T130 x0 x5).f1 = (wrap64 (x1 + 1)) then (if (rd_T130 x0 x5).f2 = (wrap64 ((wrap64 (x1 + 1)) + 1)) then (if (rd_T130 x0 x5).f3.f0 = (wrap64 ((wrap64 ((wrap64 (x1 + 1)) + 1)) + 1)) then (if (rd_T130 x0 x5).f3.f1 = (wrap64 ((wrap64 ((wrap64 ((wrap64 (x1 + 1)) + 1)) + 1)) + 1)) then (if (rd_T130 x0 x5).f3.f2 = (wrap64 ((wrap64 ((wrap64 ((wrap64 ((wrap64 (x1 + 1)) + 1)) + 1)) + 1)) + 1)) then ((laws_heldCondS.f k ((rd_T130 x0 x5).f3.f3) (wrap64 ((wrap64 ((wrap64 ((wrap64 ((wrap64 ((wrap64 (x1 + 1)) + 1)) + 1)) + 1)) + 1)) + 1))).bind fun t76 => (if t76 < 0 then (some (-1)) else (laws_heldRuleS.l0 k x0 t76 (wrap64 (x5 + 1))))) else (some (-1))) else (some (-1))) else (some (-1))) else (some (-1))) else (some (-1))) else (some (-1))) else none) else (some x1)
def laws_heldRuleS.f (k : Nat) (a0 : List S130) (a1 : Int) : Option (Int) := laws_heldRuleS.l0 k a0 a1 0
def laws_heldEpochS.l0 : Nat → List S93 → Int → Int → Option (Int)
 | 0, _, _, _ => none
 | k + 1, x0, x1, x5 => if x5 < (x0.length : Int) then (if 0 ≤ x5 then (if (rd_T93 x0 x5).f0 = x1 then (if (rd_T93 x0 x5).f1 = (wrap64 (x1 + 1)) then ((laws_heldIncludesS.f k ((rd_T93 x0 x5).f2) (wrap64 ((wrap64 (x1 + 1)) + 1))).bind fun t36 => (if t36 < 0 then (some (-1)) else (if (rd_T93 x0 x5).f3.f0 = t36 then ((laws_heldRuleS.f k ((rd_T93 x0 x5).f3.f1) (wrap64 (t36 + 1))).bind fun t56 => (if t56 < 0 then (some (-1)) else (laws_heldEpochS.l0 k x0 t56 (wrap64 (x5 + 1))))) else (some (-1))))) else (some (-1))) else (some (-1))) else none) else (some x1)
def laws_heldEpochS.f (k : Nat) (a0 : List S93) (a1 : Int) : Option (Int) := laws_heldEpochS.l0 k a0 a1 0
def laws_heldFactS.l0 : Nat → List S96 → Int → Int → Option (Int)
 | 0, _, _, _ => none
 | k + 1, x0, x1, x5 => if x5 < (x0.length : Int) then (if 0 ≤ x5 then (if (rd_T96 x0 x5).f0 = x1 then (if (rd_T96 x0 x5).f1 = (wrap64 (x1 + 1)) then (if (rd_T96 x0 x5).f2 = (wrap64 ((wrap64 (x1 + 1)) + 1)) then (if (rd_T96 x0 x5).f3 = (wrap64 ((wrap64 ((wrap64 (x1 + 1)) + 1)) + 1)) then (if (rd_T96 x0 x5).f4 = (wrap64 ((wrap64 ((wrap64 ((wrap64 (x1 + 1)) + 1)) + 1)) + 1)) then (if (rd_T96 x0 x5).f5 = (wrap64 ((wrap64 ((wrap64 ((wrap64 ((wrap64 (x1 + 1)) + 1)) + 1)) + 1)) + 1)) then (laws_heldFactS.l0 k x0 (wrap64 ((wrap64 ((wrap64 ((wrap64 ((wrap64 ((wrap64 (x1 + 1)) + 1)) + 1)) + 1)) + 1)) + 1)) (wrap64 (x5 + 1))) else (some (-1))) else (some (-1))) else (some (-1))) else (some (-1))) else (some (-1))) else (some (-1))) else none) else (some x1)
def laws_heldFactS.f (k : Nat) (a0 : List S96) (a1 : Int) : Option (Int) := laws_heldFactS.l0 k a0 a1 0
def laws_heldRevokedS.l0 : Nat → List S100 → Int → Int → Option (Int)
 | 0, _, _, _ => none
 | k + 1, x0, x1, x5 => if x5 < (x0.length : Int) then (if 0 ≤ x5 then (if (rd_T100 x0 x5).f0 = x1 then (if (rd_T100 x0 x5).f1 = (wrap64 (x1 + 1)) then (laws_heldRevokedS.l0 k x0 (wrap64 ((wrap64 (x1 + 1)) + 1)) (wrap64 (x5 + 1))) else (some (-1))) else (some (-1))) else none) else (some x1)
def laws_heldRevokedS.f (k : Nat) (a0 : List S100) (a1 : Int) : Option (Int) := laws_heldRevokedS.l0 k a0 a1 0
def laws_heldCertS.l0 : Nat → List S50 → Int → Int → Option (Int)
 | 0, _, _, _ => none
 | k + 1, x0, x1, x5 => if x5 < (x0.length : Int) then (if 0 ≤ x5 then (if (rd_T50 x0 x5).f0 = x1 then (if (rd_T50 x0 x5).f1 = (wrap64 (x1 + 1)) then (if (rd_T50 x0 x5).f2 = (wrap64 ((wrap64 (x1 + 1)) + 1)) then (if (rd_T50 x0 x5).f3 = (wrap64 ((wrap64 ((wrap64 (x1 + 1)) + 1)) + 1)) then (if (rd_T50 x0 x5).f4 = (wrap64 ((wrap64 ((wrap64 ((wrap64 (x1 + 1)) + 1)) + 1)) + 1)) then (if (rd_T50 x0 x5).f5 = (wrap64 ((wrap64 ((wrap64 ((wrap64 ((wrap64 (x1 + 1)) + 1)) + 1)) + 1)) + 1)) then (laws_heldCertS.l0 k x0 (wrap64 ((wrap64 ((wrap64 ((wrap64 ((wrap64 ((wrap64 (x1 + 1)) + 1)) + 1)) + 1)) + 1)) + 1)) (wrap64 (x5 + 1))) else (some (-1))) else (some (-1))) else (some (-1))) else (some (-1))) else (some (-1))) else (some (-1))) else none) else (some x1)
def laws_heldCertS.f (k : Nat) (a0 : List S50) (a1 : Int) : Option (Int) := laws_heldCertS.l0 k a0 a1 0
def laws_heldCenter.f (k : Nat) (a0_0 : List S86) (a0_1 : List S93) (a0_2 : List S96) (a0_3 : List S100) (a0_4 : Int) (a0_5 : List S50) (a1 : Int) : Option (Int) := (laws_heldIssuerS.f k a0_0 a1).bind fun t8 => (if t8 < 0 then (some (-1)) else ((laws_heldEpochS.f k a0_1 t8).bind fun t14 => (if t14 < 0 then (some (-1)) else ((laws_heldFactS.f k a0_2 t14).bind fun t20 => (if t20 < 0 then (some (-1)) else ((laws_heldRevokedS.f k a0_3 t20).bind fun t26 => (if t26 < 0 then (some (-1)) else ((laws_heldCertS.f k a0_5 t26).bind fun t32 => (if t32 < 0 then (some (-1)) else (some t32))))))))))
def laws_FnExactCenterIssue.f (k : Nat) (a0_0 : List S71) (a0_1 : List S78) (a0_2 : List S98) (a0_3 : List S102) (a0_4 : Int) (a0_5 : List S104) (a1 : Int) (a2 : Int) (a3 : Int) (a4 : Int) : Option (Bool) := (laws_szCenter.f k a0_0 a0_1 a0_2 a0_3 a0_4 a0_5 1048576).bind fun t24 => (if t24 < 0 then (some true) else ((laws_toCenter.f k a0_0 a0_1 a0_2 a0_3 a0_4 a0_5).bind fun t29 => ((spec_CenterIssue.f k t29.1 t29.2.1 t29.2.2.1 t29.2.2.2.1 t29.2.2.2.2.1 t29.2.2.2.2.2 a1 a2 a3 a4).bind fun t34 => ((laws_toCenter.f k a0_0 a0_1 a0_2 a0_3 a0_4 a0_5).bind fun t38 => ((impl_CenterIssue.f k t38.1 t38.2.1 t38.2.2.1 t38.2.2.2.1 t38.2.2.2.2.1 t38.2.2.2.2.2 a1 a2 a3 a4).bind fun t45 => ((laws_eqCenter.f k t45.1 t45.2.1 t45.2.2.1 t45.2.2.2.1 t45.2.2.2.2.1 t45.2.2.2.2.2.1 t34.1 t34.2.1 t34.2.2.1 t34.2.2.2.1 t34.2.2.2.2.1 t34.2.2.2.2.2.1).bind fun t50 => (if t50 = true then (if t45.2.2.2.2.2.2 = t34.2.2.2.2.2.2 then ((laws_toCenter.f k a0_0 a0_1 a0_2 a0_3 a0_4 a0_5).bind fun t59 => ((laws_eqCenter.f k t38.1 t38.2.1 t38.2.2.1 t38.2.2.2.1 t38.2.2.2.2.1 t38.2.2.2.2.2 t59.1 t59.2.1 t59.2.2.1 t59.2.2.2.1 t59.2.2.2.2.1 t59.2.2.2.2.2).bind fun t60 => (if t60 = true then ((laws_markCenter.f k t38.1 t38.2.1 t38.2.2.1 t38.2.2.2.1 t38.2.2.2.2.1 t38.2.2.2.2.2 1).bind fun t64 => (if t64.1 < 0 then (some false) else ((laws_eqCenter.f k t45.1 t45.2.1 t45.2.2.1 t45.2.2.2.1 t45.2.2.2.2.1 t45.2.2.2.2.2.1 t34.1 t34.2.1 t34.2.2.1 t34.2.2.2.1 t34.2.2.2.2.1 t34.2.2.2.2.2.1).bind fun t70 => (if t70 = true then ((laws_markCenter.f k t45.1 t45.2.1 t45.2.2.1 t45.2.2.2.1 t45.2.2.2.2.1 t45.2.2.2.2.2.1 1).bind fun t80 => ((laws_heldCenter.f k t80.2.1 t80.2.2.1 t80.2.2.2.1 t80.2.2.2.2.1 t45.2.2.2.2.1 t80.2.2.2.2.2 1).bind fun t83 => (if t83 < 0 then (some false) else (if t83 = t80.1 then ((laws_toCenter.f k a0_0 a0_1 a0_2 a0_3 a0_4 a0_5).bind fun t91 => ((impl_CenterIssue.f k t91.1 t91.2.1 t91.2.2.1 t91.2.2.2.1 t91.2.2.2.2.1 t91.2.2.2.2.2 a1 a2 a3 a4).bind fun t96 => ((laws_eqCenter.f k t96.1 t96.2.1 t96.2.2.1 t96.2.2.2.1 t96.2.2.2.2.1 t96.2.2.2.2.2.1 t34.1 t34.2.1 t34.2.2.1 t34.2.2.2.1 t34.2.2.2.2.1 t34.2.2.2.2.2.1).bind fun t101 => (if t101 = true then (if t96.2.2.2.2.2.2 = t34.2.2.2.2.2.2 then ((laws_heldCenter.f k t80.2.1 t80.2.2.1 t80.2.2.2.1 t80.2.2.2.2.1 t45.2.2.2.2.1 t80.2.2.2.2.2 1).bind fun t110 => (if t110 < 0 then (some false) else (if t110 = t80.1 then (some true) else (some false)))) else (some false)) else (some false))))) else (some false))))) else (some false))))) else (some false)))) else (some false)) else (some false))))))))
def g71 (x : S71) : Prop := (Lit.int .i64 x.f0).wf = true ∧ (x.f1.length ≤ maxLen ∧ ∀ y_ ∈ x.f1, (Lit.int .i64 y_).wf = true) ∧ (Lit.int .i64 x.f2).wf = true
def g136 (x : S136) : Prop := (Lit.int .i64 x.f0).wf = true ∧ (Lit.int .i64 x.f1).wf = true
def GF144 (G : S144 → Prop) (x : S144) : Prop := (Lit.int .i64 x.f0).wf = true ∧ (Lit.int .i64 x.f1).wf = true ∧ (Lit.int .i64 x.f2).wf = true ∧ (x.f3.length ≤ maxLen ∧ ∀ y_ ∈ x.f3, G y_)
def g144 (x : S144) : Prop := ∃ k, Nat.rec (motive := fun _ => S144 → Prop) (fun _ => False) (fun _ G => GF144 G) k x
def g146 (x : S146) : Prop := (Lit.int .i64 x.f0).wf = true ∧ (Lit.int .i64 x.f1).wf = true ∧ (Lit.int .i64 x.f2).wf = true ∧ g144 x.f3
def g76 (x : S76) : Prop := (Lit.int .i64 x.f0).wf = true ∧ (x.f1.length ≤ maxLen ∧ ∀ y_ ∈ x.f1, g146 y_)
def g78 (x : S78) : Prop := (Lit.int .i64 x.f0).wf = true ∧ (Lit.int .i64 x.f1).wf = true ∧ (x.f2.length ≤ maxLen ∧ ∀ y_ ∈ x.f2, g136 y_) ∧ g76 x.f3
def g98 (x : S98) : Prop := (Lit.int .i64 x.f0).wf = true ∧ (Lit.int .i64 x.f1).wf = true ∧ (Lit.int .i64 x.f2).wf = true ∧ (Lit.int .i64 x.f3).wf = true ∧ (Lit.int .i64 x.f4).wf = true ∧ (Lit.int .i64 x.f5).wf = true
def g102 (x : S102) : Prop := (Lit.int .i64 x.f0).wf = true ∧ (Lit.int .i64 x.f1).wf = true
def g104 (x : S104) : Prop := (Lit.int .i64 x.f0).wf = true ∧ (Lit.int .i64 x.f1).wf = true ∧ (Lit.int .i64 x.f2).wf = true ∧ (Lit.int .i64 x.f3).wf = true ∧ (Lit.int .i64 x.f4).wf = true ∧ (Lit.int .i64 x.f5).wf = true
def g28 (x : S28) : Prop := (x.f0.length ≤ maxLen ∧ ∀ y_ ∈ x.f0, g71 y_) ∧ (x.f1.length ≤ maxLen ∧ ∀ y_ ∈ x.f1, g78 y_) ∧ (x.f2.length ≤ maxLen ∧ ∀ y_ ∈ x.f2, g98 y_) ∧ (x.f3.length ≤ maxLen ∧ ∀ y_ ∈ x.f3, g102 y_) ∧ (Lit.int .i64 x.f4).wf = true ∧ (x.f5.length ≤ maxLen ∧ ∀ y_ ∈ x.f5, g104 y_)
def laws_FnExactCenterIssue.Pure : Prop := ∀ (x0 : S28) (a1 : Int) (a2 : Int) (a3 : Int) (a4 : Int), g28 x0 → (Lit.int .i64 a1).wf = true → (Lit.int .i64 a2).wf = true → (Lit.int .i64 a3).wf = true → (Lit.int .i64 a4).wf = true → ∃ k, laws_FnExactCenterIssue.f k x0.f0 x0.f1 x0.f2 x0.f3 x0.f4 x0.f5 a1 a2 a3 a4 = some true
end Go.Proofs.YthliecjiafjokaaGreat.QFnExactCenterIssue
