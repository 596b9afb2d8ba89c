import Derived.RowKit
import Derived.KernelRfl
import Derived.Calls
import Derived.Orders
import Derived.Deep.AppendSrc
import Derived.Deep.MidRow
import Derived.Great.BuildSlice
import Derived.Laws.MakeOwn
import Derived.Conc.Own4
import Derived.Laws.Small
import Derived.Laws.StructEq
/- A reader of function bodies in plain values, part 1. -/
/- A reader of a function's body in plain values: what is told here is proved to hold of the machine in the texts behind. -/
namespace Go.Proofs.YtpdnnndedejlhaaGreatV
open Go
set_option linter.unusedVariables false
inductive VV (D : Nat → Type) : Type where
  | int (k : IntKind) (n : Int)
  | lit (b : Bool)
  | bv (b : Bool)
  | nb (b : Bool)
  | bp (p : Prop) (d : Decidable p)
  | np (p : Prop) (d : Decidable p)
  | nil
  | tree (k : Nat) (xs : List (D k))
  | ktree (k : Nat) (xs : List (D k))
  | ref (κ : Nat)
  | ptr (κ j : Nat)
  | pbox (t : Nat) (cs : List (VV D)) (j : Nat)
  | elt (k : Nat) (xs : List (D k)) (i : Int) (j : Nat)
  | oel (κ : Nat) (i : Int) (j : Nat)
  | nel (κ : Nat) (i : Int) (j : Nat)
  | agg (cs : List (VV D))
  | arr (n k : Nat) (xs : List (D k))
  | tup (cs : List (VV D))
  | fn (f : Nat) (cs : List (VV D))
  | junk
inductive Blk (D : Nat → Type) : Type where
  | box (t : Nat) (cs : List (VV D))
  | row (k : Nat) (xs : List (D k))
  | krow (k : Nat) (xs : List (D k))
  | hole (k : Nat) (xs : List (D k)) (i j : Nat)
  | brow (k : Nat) (xs : List (D k))
  | arr (t n k : Nat) (xs : List (D k))
abbrev Mem (D : Nat → Type) := List (Nat × Blk D)
abbrev Upd (D : Nat → Type) := List (Nat × Option (Blk D))
def mget {D : Nat → Type} : Mem D → Nat → Option (Blk D)
  | [], _ => none
  | (κ', b) :: r, κ => bif Nat.beq κ' κ then some b else mget r κ
def mput {D : Nat → Type} : Mem D → Nat → Blk D → Mem D
  | [], κ, b => [(κ, b)]
  | (κ', b') :: r, κ, b => bif Nat.beq κ' κ then (κ, b) :: r else (κ', b') :: mput r κ b
def mdel {D : Nat → Type} : Mem D → Nat → Mem D
  | [], _ => []
  | (κ', b') :: r, κ => bif Nat.beq κ' κ then mdel r κ else (κ', b') :: mdel r κ
def mupd {D : Nat → Type} : Mem D → Upd D → Mem D
  | m, [] => m
  | m, (κ, some b) :: r => mupd (mput m κ b) r
  | m, (κ, none) :: r => mupd (mdel m κ) r
inductive TD where
  | int (k : IntKind)
  | bool
  | str (fs : List (Nat × Nat))
  | sl (e : Nat)
  | ar (n e : Nat)
  | oth
inductive ZC where
  | i (k : IntKind)
  | b
  | n
structure TY where
  d : TD
  sz : Nat
  by_ : Nat
  z : List ZC
  eq : Bool
def ZC.v {D : Nat → Type} : ZC → VV D
  | .i k => .int k 0
  | .b => .lit false
  | .n => .nil
inductive Cg where
  | int (k : IntKind)
  | bool
  | tree (k : Nat)
  | own (k : Nat)
  | keep (k : Nat)
  | nest (k : Nat)
  | nul (k : Nat)
inductive Sg where
  | c (g : Cg)
  | arr (n k : Nat)
  | agg (gs : List Cg)
  | wag (gs : List Cg)
  | box (t : Nat) (gs : List Cg)
  | abox (t n k : Nat)
  | pbox (t : Nat) (gs : List Cg)
  | fn (f : Nat) (ps : List (Nat × List Cg))
inductive Lf where
  | i
  | b
  | l (k : Nat)
structure Uni where
  D : Nat → Type
  df : (k : Nat) → D k
  cells : (k : Nat) → D k → List (VV D)
  mkE : (k : Nat) → List (VV D) → Option (D k)
  ti : Nat → Option TY
  lim : Nat → Nat
  flat : Nat → Bool
  sz : Nat → Nat
def LfT (D : Nat → Type) : Lf → Type
  | .i => Int
  | .b => Bool
  | .l k => List (D k)
def TL (D : Nat → Type) : List Lf → Type
  | [] => Unit
  | [l] => LfT D l
  | l :: l2 :: ls => LfT D l × TL D (l2 :: ls)
def Cg.lf : Cg → Lf
  | .int _ => .i
  | .bool => .b
  | .tree k => .l k
  | .own k => .l k
  | .keep k => .l k
  | .nest k => .l k
  | .nul k => .l k
def lvsP : List (Nat × List Cg) → List Lf
  | [] => []
  | p :: ps => p.2.map Cg.lf ++ lvsP ps
def Sg.lvs : Sg → List Lf
  | .c g => [g.lf]
  | .arr _ k => [.l k]
  | .agg gs => gs.map Cg.lf
  | .wag gs => gs.map Cg.lf
  | .box _ gs => gs.map Cg.lf
  | .abox _ _ k => [.l k]
  | .pbox _ gs => gs.map Cg.lf
  | .fn _ ps => lvsP ps
def lvsL : List Sg → List Lf
  | [] => []
  | s :: ss => s.lvs ++ lvsL ss
def outsC : List Cg → List Lf
  | [] => []
  | .keep _ :: gs => outsC gs
  | g :: gs => g.lf :: outsC gs
def nestG : List Cg → List Cg
  | [] => []
  | .nest k :: gs => .nest k :: nestG gs
  | _ :: gs => nestG gs
def nestV {α : Type} (d : α) : List Cg → List α → List α
  | [], _ => []
  | .nest _ :: gs, vs => vs.headD d :: nestV d gs vs.tail
  | _ :: gs, vs => nestV d gs vs.tail
def Sg.outs : Sg → List Lf
  | .c (.own k) => [.l k]
  | .c (.nest k) => [.l k]
  | .wag gs => (nestG gs).map Cg.lf
  | .box _ gs => outsC gs
  | .abox _ _ k => [.l k]
  | _ => []
def outsL : List Sg → List Lf
  | [] => []
  | s :: ss => s.outs ++ outsL ss
section
variable {D : Nat → Type}
def ikeq : IntKind → IntKind → Bool
  | .i64, .i64 => true
  | .u8, .u8 => true
  | .i32, .i32 => true
  | .u64, .u64 => true
  | .u32, .u32 => true
  | .i8, .i8 => true
  | .i16, .i16 => true
  | .u16, .u16 => true
  | _, _ => false
def tyd1 : (l : Lf) → VV D → Option (LfT D l)
  | .i, .int _ n => some n
  | .b, .lit b => some b
  | .b, .bv b => some b
  | .b, .nb b => some (!b)
  | .b, .bp p d => some (@decide p d)
  | .b, .np p d => some (!@decide p d)
  | .l k, .nil => some ([] : List (D k))
  | .l k, .tree k' xs => match Nat.decEq k' k with
    | .isTrue h => some (h ▸ xs)
    | .isFalse _ => none
  | _, _ => none
def tydO {l : Lf} {ls : List Lf} : Option (LfT D l) → Option (TL D ls) → Option (LfT D l × TL D ls)
  | some a, some b => some (a, b)
  | _, _ => none
def tyd : (ls : List Lf) → List (VV D) → Option (TL D ls)
  | [], vs => match vs with
    | [] => some ()
    | _ :: _ => none
  | l :: [], vs => match vs with
    | [] => none
    | v :: vs => match vs with
      | [] => tyd1 l v
      | _ :: _ => none
  | l :: l2 :: ls, vs => match vs with
    | [] => none
    | v :: vs => tydO (tyd1 l v) (tyd (l2 :: ls) vs)
def unty1 : (l : Lf) → LfT D l → VV D
  | .i, n => .int .i64 n
  | .b, b => .bv b
  | .l k, xs => .tree k xs
def unty : (ls : List Lf) → TL D ls → List (VV D)
  | [], _ => []
  | [l], x => [unty1 l x]
  | l :: l2 :: ls, x => unty1 l x.1 :: unty (l2 :: ls) x.2
def asT (k : Nat) : VV D → Option (List (D k))
  | .nil => some []
  | .tree k' xs => match Nat.decEq k' k with
    | .isTrue h => some (h ▸ xs)
    | .isFalse _ => none
  | _ => none
def decC (bor : Bool) (m : Mem D) : Cg → VV D → Option (VV D)
  | .int k, .int k' n => bif ikeq k k' then some (.int k n) else none
  | .bool, .lit b => some (.lit b)
  | .bool, .bv b => some (.bv b)
  | .bool, .nb b => some (.bv (!b))
  | .bool, .bp p d => some (.bv (@decide p d))
  | .bool, .np p d => some (.bv (!@decide p d))
  | .tree _, .nil => some .nil
  | .tree _, .tree k xs => some (.tree k xs)
  | .tree _, .ktree k xs => some (.tree k xs)
  | .tree _, .ref κ => bif bor then (match mget m κ with
    | some (.row k xs) => some (.tree k xs)
    | some (.krow k xs) => some (.tree k xs)
    | some (.brow k xs) => some (.tree k xs)
    | _ => none) else none
  | .own _, .nil => some .nil
  | .own _, .ref κ => match mget m κ with
    | some (.row k xs) => some (.tree k xs)
    | _ => none
  | .keep _, .ktree k xs => some (.tree k xs)
  | .keep _, .tree k xs => bif bor then some (.tree k xs) else none
  | .nul _, .nil => some .nil
  | .nest _, .nil => some .nil
  | .nest _, .ref κ => match mget m κ with
    | some (.row k xs) => bif bor then some (.tree k xs) else none
    | some (.krow k xs) => some (.tree k xs)
    | _ => none
  | _, _ => none
def decCL (bor : Bool) (m : Mem D) : List Cg → List (VV D) → Option (List (VV D))
  | [], [] => some []
  | g :: gs, v :: vs => match decC bor m g v with
    | some a => match decCL bor m gs vs with
      | some b => some (a :: b)
      | none => none
    | none => none
  | _, _ => none
def leafG : List Cg → Bool
  | [] => true
  | .own _ :: _ => false
  | .keep _ :: _ => false
  | .nest _ :: _ => false
  | _ :: gs => leafG gs
def noKeep : List Cg → Bool
  | [] => true
  | .keep _ :: _ => false
  | _ :: gs => noKeep gs
def decP (bor : Bool) (m : Mem D) : List (Nat × List Cg) → List (VV D) → Option (List (VV D))
  | [], [] => some []
  | (t, gs) :: ps, .ptr κ 0 :: vs => bif bor && leafG gs then (match mget m κ with
    | some (.box t' cs) => bif Nat.beq t t' then (match decCL true m gs cs with
      | some a => match decP bor m ps vs with
        | some b => some (a ++ b)
        | none => none
      | none => none) else none
    | _ => none) else none
  | (t, gs) :: ps, .pbox t' cs 0 :: vs => bif leafG gs && Nat.beq t t' then (match decCL false m gs cs with
      | some a => match decP bor m ps vs with
        | some b => some (a ++ b)
        | none => none
      | none => none) else none
  | _, _ => none
def dec (bor : Bool) (m : Mem D) : Sg → VV D → Option (List (VV D))
  | .c (.keep _), _ => none
  | .c g, v => match decC bor m g v with
    | some a => some [a]
    | none => none
  | .agg gs, .agg cs => bif noKeep gs then decCL bor m gs cs else none
  | .wag gs, .agg cs => bif noKeep gs then decCL bor m gs cs else none
  | .box t gs, .ptr κ 0 => match mget m κ with
    | some (.box t' cs) => bif Nat.beq t t' then decCL bor m gs cs else none
    | _ => none
  | .pbox t gs, v => decP bor m [(t, gs)] [v]
  | .fn f ps, .fn f' cs => bif Nat.beq f f' then decP bor m ps cs else none
  | .arr _ k, v => match decC bor m (.own k) v with
    | some a => some [a]
    | none => none
  | _, _ => none
def decL (bor : Bool) (m : Mem D) : List Sg → List (VV D) → Option (List (VV D))
  | [], [] => some []
  | s :: ss, v :: vs => match dec bor m s v with
    | some a => match decL bor m ss vs with
      | some b => some (a ++ b)
      | none => none
    | none => none
  | _, _ => none
def encC (κ : Nat) : Cg → VV D → VV D × Mem D × Nat
  | .int k, .int _ n => (.int k n, [], κ)
  | .own _, .tree k xs => (.ref κ, [(κ, .row k xs)], κ + 1)
  | .own _, _ => (.ref κ, [], κ + 1)
  | .keep _, .tree k xs => (.ktree k xs, [], κ)
  | .nest _, .tree k xs => (.ref κ, [(κ, .krow k xs)], κ + 1)
  | .nest _, _ => (.ref κ, [], κ + 1)
  | .nul _, _ => (.nil, [], κ)
  | _, v => (v, [], κ)
def encCL : List Cg → Nat → List (VV D) → List (VV D) × Mem D × Nat × List (VV D)
  | [], κ, r => ([], [], κ, r)
  | g :: gs, κ, v :: r => match encC κ g v with
    | (c, m, κ') => match encCL gs κ' r with
      | (cs, m', κ'', r') => (c :: cs, m ++ m', κ'', r')
  | _, κ, [] => ([], [], κ, [])
def encP : List (Nat × List Cg) → Nat → List (VV D) → List (VV D) × List (VV D)
  | [], κ, r => ([], r)
  | (t, gs) :: ps, κ, r => match encCL gs κ r with
    | (cs, _, _, r') => match encP ps κ r' with
      | (vs, r'') => (.pbox t cs 0 :: vs, r'')
def enc : Sg → Nat → List (VV D) → VV D × Mem D × Nat × List (VV D)
  | .c g, κ, v :: r => match encC κ g v with
    | (c, m, κ') => (c, m, κ', r)
  | .arr _ k, κ, v :: r => match encC κ (.own k) v with
    | (c, m, κ') => (c, m, κ', r)
  | .agg gs, κ, r => match encCL gs κ r with
    | (cs, m, κ', r') => (.agg cs, m, κ', r')
  | .wag gs, κ, r => match encCL gs κ r with
    | (cs, m, κ', r') => (.agg cs, m, κ', r')
  | .box t gs, κ, r => match encCL gs (κ + 1) r with
    | (cs, m, κ', r') => (.ptr κ 0, (κ, .box t cs) :: m, κ', r')
  | .abox t n _, κ, .tree k xs :: r => (.ptr κ 0, [(κ, .arr t n k xs)], κ + 1, r)
  | .pbox t gs, κ, r => match encP [(t, gs)] κ r with
    | (v :: _, r') => (v, [], κ, r')
    | ([], r') => (.junk, [], κ, r')
  | .fn f ps, κ, r => match encP ps κ r with
    | (vs, r') => (.fn f vs, [], κ, r')
  | _, κ, r => (.junk, [], κ, r)
def encL : List Sg → Nat → List (VV D) → List (VV D) × Mem D × Nat × List (VV D)
  | [], κ, r => ([], [], κ, r)
  | s :: ss, κ, r => match enc s κ r with
    | (v, m, κ', r') => match encL ss κ' r' with
      | (vs, m', κ'', r'') => (v :: vs, m ++ m', κ'', r'')
end
structure Con (U : Uni) where
  A : List Sg
  R : List Sg
  f : TL U.D (lvsL A) → Option (TL U.D (lvsL R ++ outsL A))
structure St (D : Nat → Type) where
  t : List (VV D)
  m : Mem D
def St.put {D : Nat → Type} (s : St D) (d : Option Nat) (v : VV D) : St D :=
  match d with
  | some i => { s with t := s.t.set i v }
  | none => s
section
variable {U : Uni} {R : Type}
abbrev ofV : Value → VV U.D
  | .int k n => .int k n
  | .bool b => .lit b
  | .slice none 0 0 => .nil
  | _ => .junk
def lget (l : List (VV U.D)) (i : Nat) : VV U.D := l.getD i .junk
def ev (t : List (VV U.D)) : Operand → VV U.D
  | .tmp i => lget t i
  | .const (.agg cs) => .agg (cs.toList.map ofV)
  | .const v => ofV v
  | .func f => .fn f []
  | .global _ => .junk
def vcond : VV U.D → Option R → Option R → Option R
  | .lit b, x, y => bif b then x else y
  | .bv b, x, y => if b = true then x else y
  | .nb b, x, y => if b = true then y else x
  | .bp p d, x, y => @ite _ p d x y
  | .np p d, x, y => @ite _ p d y x
  | _, _, _ => none
def flt : VV U.D → List (VV U.D)
  | .agg cs => cs
  | v => [v]
def inb (i n : Int) (K : Option R) : Option R := if 0 ≤ i then (if i < n then K else none) else none
def setl (cs : List (VV U.D)) (j : Nat) : List (VV U.D) → List (VV U.D)
  | [] => cs
  | v :: vs => setl (cs.set j v) (j + 1) vs
def isAg (T : TY) : Bool := match T.d with | .str _ => true | _ => false
def cmpI (op : BinOp) (a b : Int) : Option (VV U.D) :=
  match op with
  | .eql => some (.bp (a = b) inferInstance)
  | .neq => some (.np (a = b) inferInstance)
  | .lss => some (.bp (a < b) inferInstance)
  | .leq => some (.bp (a ≤ b) inferInstance)
  | .gtr => some (.bp (a > b) inferInstance)
  | .geq => some (.bp (a ≥ b) inferInstance)
  | _ => none
def wrapK (k : IntKind) (n : Int) : Int := match k with | .i64 => RowKit.wrap64 n | k => k.wrap n
def ariI (op : BinOp) (k : IntKind) (a b : Int) (K : VV U.D → Option R) : Option R :=
  match op with
  | .add => K (.int k (wrapK k (a + b)))
  | .sub => K (.int k (wrapK k (a - b)))
  | .mul => K (.int k (wrapK k (a * b)))
  | .quo => if b = 0 then none else K (.int k (wrapK k (a.tdiv b)))
  | .rem => if b = 0 then none else K (.int k (a.tmod b))
  | .and => K (.int k (k.wrap (BitVec.ofInt k.bits a &&& BitVec.ofInt k.bits b).toNat))
  | .or => K (.int k (k.wrap (BitVec.ofInt k.bits a ||| BitVec.ofInt k.bits b).toNat))
  | .xor => K (.int k (k.wrap (BitVec.ofInt k.bits a ^^^ BitVec.ofInt k.bits b).toNat))
  | op => match cmpI (U := U) op a b with
    | some v => K v
    | none => none
def eqs : List (VV U.D) → List (VV U.D) → Option (VV U.D)
  | x :: as, bs => match bs with
    | [] => none
    | y :: bs => match x with
      | .int k a => match y with
        | .int k' b => bif ikeq k k' then (match as with
          | [] => match bs with
            | [] => some (.bp (a = b) inferInstance)
            | _ :: _ => none
          | _ :: _ => match eqs as bs with
            | some (.bp p d) => some (.bp (a = b ∧ p) (@instDecidableAnd _ _ _ d))
            | _ => none) else none
        | _ => none
      | _ => none
  | [], _ => none
def mvd (m : Mem U.D) : VV U.D → Option (VV U.D)
  | .ref κ => match mget m κ with
    | some (.row k xs) => some (.tree k xs)
    | _ => none
  | .int k n => some (.int k n)
  | .lit b => some (.lit b)
  | .bv b => some (.bv b)
  | .nb b => some (.bv (!b))
  | .bp p d => some (.bv (@decide p d))
  | .np p d => some (.bv (!@decide p d))
  | .nil => some .nil
  | _ => none
def mvdL (m : Mem U.D) : List (VV U.D) → Option (List (VV U.D))
  | [] => some []
  | v :: vs => match mvd m v with
    | some a => match mvdL m vs with
      | some b => some (a :: b)
      | none => none
    | none => none
def bmv (m : Mem U.D) : VV U.D → Option (VV U.D)
  | .tree k xs => some (.tree k xs)
  | v => mvd m v
def bmvL (m : Mem U.D) : List (VV U.D) → Option (List (VV U.D))
  | [] => some []
  | v :: vs => match bmv m v with
    | some a => match bmvL m vs with
      | some b => some (a :: b)
      | none => none
    | none => none
def gone : List (VV U.D) → Upd U.D
  | [] => []
  | .ref κ :: r => (κ, none) :: gone r
  | _ :: r => gone r
def keysOf : List (VV U.D) → List Nat
  | [] => []
  | .ref κ :: r => κ :: keysOf r
  | _ :: r => keysOf r
def zcs (T : TY) : List (VV U.D) := T.z.map ZC.v
def flO : VV U.D → Option (List (VV U.D))
  | .agg cs => some cs
  | .arr _ _ _ => none
  | .tup _ => none
  | .ktree _ _ => none
  | .junk => none
  | v => some [v]
def fillS (fs : List (Nat × Nat)) (cs : List (VV U.D)) : List (Nat × VV U.D) → Option (List (VV U.D))
  | [] => some cs
  | (i, v) :: r => match fs[i]? with
    | some (o, ft) => match U.ti ft, flO v with
      | some F, some vs => bif Nat.beq vs.length F.sz && Nat.ble (o + F.sz) cs.length then fillS fs (setl cs o vs) r else none
      | _, _ => none
    | none => none
def flAll (sz : Nat) : List (VV U.D) → Option (List (VV U.D))
  | [] => some []
  | v :: vs => match flO v with
    | some cs => bif Nat.beq cs.length sz then (match flAll sz vs with
      | some ds => some (cs ++ ds)
      | none => none) else none
    | none => none
def mkAll (U : Uni) (k sz : Nat) : Nat → List (VV U.D) → Option (List (U.D k))
  | 0, _ => some []
  | n + 1, ms => match U.mkE k (ms.take sz) with
    | some x => match mkAll U k sz n (ms.drop sz) with
      | some xs => some (x :: xs)
      | none => none
    | none => none
def idxOk : List Nat → (i n : Nat) → Bool
  | [], i, n => Nat.beq i n
  | j :: js, i, n => Nat.beq i j && idxOk js (i + 1) n
def hasK (κ : Nat) : List Nat → Bool
  | [] => false
  | q :: r => Nat.beq q κ || hasK κ r
def ndp : List Nat → Bool
  | [] => true
  | q :: r => !hasK q r && ndp r
def nw {R : Type} (m : Mem U.D) (κ : Nat) (K : Option R) : Option R := match mget m κ with
  | none => K
  | some _ => none
def apK {R : Type} (n m l : Nat) (K : Option R) : Option R := if n + m ≤ l then K else none
def mkS {R : Type} (n n' : Int) (b : Nat) (K : Option R) : Option R :=
  if n = n' then (if 0 ≤ n then (if n ≤ ((281474976710656 / b : Nat) : Int) then K else none) else none) else none
def rdE (U : Uni) (k : Nat) (xs : List (U.D k)) (i : Int) : U.D k := xs.getD i.toNat (U.df k)
def unk : VV U.D → VV U.D
  | .ktree k xs => .tree k xs
  | c => c
def cut (T : TY) (cs : List (VV U.D)) (j : Nat) : Option (VV U.D) :=
  bif Nat.ble (j + T.sz) cs.length then (match T.d with
  | .str _ => some (.agg (((cs.drop j).take T.sz).map unk))
  | .ar _ _ => some (.agg (((cs.drop j).take T.sz).map unk))
  | .oth => none
  | _ => some (unk (lget cs j))) else none
def ioS : List Sg → List Sg
  | [] => []
  | .c (.own k) :: ss => .c (.own k) :: ioS ss
  | .c (.nest k) :: ss => .c (.nest k) :: ioS ss
  | .wag gs :: ss => (nestG gs).map Sg.c ++ ioS ss
  | .box t gs :: ss => .box t gs :: ioS ss
  | .abox t n k :: ss => .abox t n k :: ioS ss
  | _ :: ss => ioS ss
def agC : VV U.D → List (VV U.D)
  | .agg cs => cs
  | _ => []
def ioV : List Sg → List (VV U.D) → List (VV U.D)
  | .c (.own _) :: ss, v :: vs => v :: ioV ss vs
  | .c (.nest _) :: ss, v :: vs => v :: ioV ss vs
  | .wag gs :: ss, v :: vs => nestV .junk gs (agC v) ++ ioV ss vs
  | .box _ _ :: ss, v :: vs => v :: ioV ss vs
  | .abox _ _ _ :: ss, v :: vs => v :: ioV ss vs
  | _ :: ss, _ :: vs => ioV ss vs
  | _, _ => []
def ioIx : Nat → List Sg → List Nat
  | _, [] => []
  | j, s :: ss => match s with
    | .c g => match g with
      | .own _ => j :: ioIx (j + 1) ss
      | .nest _ => j :: ioIx (j + 1) ss
      | .int _ => ioIx (j + 1) ss
      | .bool => ioIx (j + 1) ss
      | .tree _ => ioIx (j + 1) ss
      | .keep _ => ioIx (j + 1) ss
      | .nul _ => ioIx (j + 1) ss
    | .wag _ => j :: ioIx (j + 1) ss
    | .box _ _ => j :: ioIx (j + 1) ss
    | .abox _ _ _ => j :: ioIx (j + 1) ss
    | .arr _ _ => ioIx (j + 1) ss
    | .agg _ => ioIx (j + 1) ss
    | .pbox _ _ => ioIx (j + 1) ss
    | .fn _ _ => ioIx (j + 1) ss
def mergeC : List Cg → (old new : List (VV U.D)) → List (VV U.D) × List (VV U.D)
  | .keep _ :: gs, o :: os, r => match mergeC gs os r with
    | (a, r') => (o :: a, r')
  | _ :: gs, _ :: os, v :: r => match mergeC gs os r with
    | (a, r') => (v :: a, r')
  | _, _, r => ([], r)
def mergeL : List Sg → (old new : List (VV U.D)) → List (VV U.D)
  | [], _, _ => []
  | .c (.own _) :: ss, _ :: os, v :: r => v :: mergeL ss os r
  | .c (.nest _) :: ss, _ :: os, v :: r => v :: mergeL ss os r
  | .wag gs :: ss, os, r => r.take (nestG gs).length ++ mergeL ss (os.drop gs.length) (r.drop (nestG gs).length)
  | .abox _ _ _ :: ss, _ :: os, v :: r => v :: mergeL ss os r
  | .box _ gs :: ss, os, r => match mergeC gs (os.take gs.length) r with
    | (a, r') => a ++ mergeL ss (os.drop gs.length) r'
  | s :: ss, os, r => mergeL ss (os.drop s.lvs.length) r
def inM (m : Mem U.D) (q : Nat) : Bool := match mget m q with
  | some _ => true
  | none => false
def cln (n : Mem U.D) (lent : Bool) : VV U.D → VV U.D
  | .int k a => .int k a
  | .lit b => .lit b
  | .bv b => .bv b
  | .nb b => .nb b
  | .bp p d => .bp p d
  | .np p d => .np p d
  | .nil => .nil
  | .tree k xs => bif lent then .junk else .tree k xs
  | .ref q => bif inM n q then .ref q else .junk
  | _ => .junk
def clnV (n : Mem U.D) (lent : Bool) : VV U.D → VV U.D
  | .agg cs => .agg (cs.map (cln n lent))
  | .ptr q j => bif inM n q then .ptr q j else .junk
  | c => cln n lent c
def clnB (n : Mem U.D) (lent : Bool) : Blk U.D → Blk U.D
  | .box t cs => .box t (cs.map (cln n lent))
  | .krow k xs => .row k xs
  | b => b
def restC (n : Mem U.D) (lent : Bool) : List Cg → (old new : List (VV U.D)) → List (VV U.D)
  | .keep _ :: gs, o :: os, .ktree _ _ :: ns => o :: restC n lent gs os ns
  | _ :: gs, _ :: os, x :: ns => cln n lent x :: restC n lent gs os ns
  | _, _, ns => ns.map (cln n lent)
def topK : List (VV U.D) → List Nat
  | [] => []
  | .ptr κ _ :: r => κ :: topK r
  | .ref κ :: r => κ :: topK r
  | _ :: r => topK r
def back (lent : Bool) (m m' : Mem U.D) : List Sg → List (VV U.D) → List (VV U.D) → Upd U.D
  | .box _ gs :: ss, .ptr κ _ :: vs, .ptr κ' _ :: ns => match mget m κ, mget m' κ' with
    | some (.box t cs), some (.box t' ds) => bif Nat.beq t t' && !hasK κ' (topK ns) then (κ, some (.box t (restC m' lent gs cs ds))) :: (κ', none) :: back lent m m' ss vs ns else []
    | _, _ => []
  | .c _ :: ss, .ref κ :: vs, .ref κ' :: ns => match mget m κ, mget m' κ' with
    | some (.row k xs), some (.row k' ys) => bif Nat.beq k k' && !hasK κ' (topK ns) then (κ, some (.row k' ys)) :: (κ', none) :: back lent m m' ss vs ns else []
    | some (.row k xs), some (.krow k' ys) => bif Nat.beq k k' && !hasK κ' (topK ns) then (κ, some (.row k' ys)) :: (κ', none) :: back lent m m' ss vs ns else []
    | some (.krow k xs), some (.krow k' ys) => bif Nat.beq k k' && !hasK κ' (topK ns) then (κ, some (.krow k' ys)) :: (κ', none) :: back lent m m' ss vs ns else []
    | _, _ => []
  | .c _ :: ss, .nil :: vs, .ref κ' :: ns => bif !hasK κ' (topK ns) then back lent m m' ss vs ns else []
  | _, _, _ => []
def packR : List (VV U.D) → VV U.D
  | [v] => v
  | vs => .tup vs
def kysC : List Cg → List (VV U.D) → List (Option Nat)
  | .own _ :: gs, .ref κ :: vs => some κ :: kysC gs vs
  | .own _ :: gs, _ :: vs => none :: kysC gs vs
  | .nest _ :: gs, .ref κ :: vs => some κ :: kysC gs vs
  | .nest _ :: gs, _ :: vs => none :: kysC gs vs
  | _ :: gs, _ :: vs => kysC gs vs
  | _, _ => []
def kys (m : Mem U.D) : List Sg → List (VV U.D) → List (Option Nat)
  | .c g :: ss, v :: vs => kysC [g] [v] ++ kys m ss vs
  | .agg gs :: ss, .agg cs :: vs => kysC gs cs ++ kys m ss vs
  | .wag gs :: ss, .agg cs :: vs => kysC gs cs ++ kys m ss vs
  | .box _ gs :: ss, .ptr κ _ :: vs => (match mget m κ with
    | some (.box _ cs) => some κ :: kysC gs cs
    | _ => []) ++ kys m ss vs
  | .abox _ _ _ :: ss, .ptr κ _ :: vs => some κ :: kys m ss vs
  | .arr _ k :: ss, v :: vs => kysC [.own k] [v] ++ kys m ss vs
  | _ :: ss, _ :: vs => kys m ss vs
  | _, _ => []
def borC : List Cg → List (VV U.D) → List Nat
  | .tree _ :: gs, .ref κ :: vs => κ :: borC gs vs
  | _ :: gs, _ :: vs => borC gs vs
  | _, _ => []
def borP (m : Mem U.D) : List (Nat × List Cg) → List (VV U.D) → List Nat
  | (_, gs) :: ps, .ptr κ _ :: vs => (match mget m κ with
    | some (.box _ cs) => κ :: borC gs cs
    | _ => []) ++ borP m ps vs
  | _ :: ps, _ :: vs => borP m ps vs
  | _, _ => []
def bors (m : Mem U.D) : List Sg → List (VV U.D) → List Nat
  | .c g :: ss, v :: vs => borC [g] [v] ++ bors m ss vs
  | .agg gs :: ss, .agg cs :: vs => borC gs cs ++ bors m ss vs
  | .wag gs :: ss, .agg cs :: vs => borC gs cs ++ bors m ss vs
  | .box _ gs :: ss, .ptr κ _ :: vs => (match mget m κ with
    | some (.box _ cs) => borC gs cs
    | _ => []) ++ bors m ss vs
  | .pbox t gs :: ss, v :: vs => borP m [(t, gs)] [v] ++ bors m ss vs
  | .fn _ ps :: ss, .fn _ cs :: vs => borP m ps cs ++ bors m ss vs
  | _ :: ss, _ :: vs => bors m ss vs
  | _, _ => []
def somes : List (Option Nat) → List Nat
  | [] => []
  | some q :: r => q :: somes r
  | none :: r => somes r
def disj : List Nat → List Nat → Bool
  | [], _ => true
  | q :: r, l => !hasK q l && disj r l
def nKpC : List Cg → Nat
  | [] => 0
  | .keep _ :: gs => nKpC gs + 1
  | _ :: gs => nKpC gs
def nKp : List Sg → Nat
  | [] => 0
  | .box _ gs :: ss => nKpC gs + nKp ss
  | _ :: ss => nKp ss
def fair (m : Mem U.D) (c : Con U) (args : List (VV U.D)) : Bool :=
  ndp (somes (kys m c.A args)) && disj (somes (kys m c.A args)) (bors m c.A args) && Nat.ble (nKp c.A) 1
def isLent : List Nat → Bool
  | [] => false
  | _ => true
def absent (m : Mem U.D) : Nat → Nat → Bool
  | _, 0 => true
  | κ, n + 1 => (match mget m κ with
    | none => true
    | some _ => false) && absent m (κ + 1) n
def shp : Sg → VV U.D → Bool
  | .c (.int _), .int _ _ => true
  | .c .bool, .lit _ => true
  | .c .bool, .bv _ => true
  | .c .bool, .nb _ => true
  | .c .bool, .bp _ _ => true
  | .c .bool, .np _ _ => true
  | .c (.tree _), .nil => true
  | .c (.tree _), .tree _ _ => true
  | .c (.tree _), .ktree _ _ => true
  | .c (.tree _), .ref _ => true
  | .c (.own _), .nil => true
  | .c (.own _), .ref _ => true
  | .c (.nul _), .nil => true
  | .c (.nest _), .nil => true
  | .c (.nest _), .ref _ => true
  | .agg _, .agg _ => true
  | .wag _, .agg _ => true
  | .arr _ _, .nil => true
  | .arr _ _, .ref _ => true
  | .box _ _, .ptr _ _ => true
  | .pbox _ _, .ptr _ _ => true
  | .pbox _ _, .pbox _ _ _ => true
  | .fn f _, .fn g _ => Nat.beq f g
  | _, _ => false
def shpL : List Sg → List (VV U.D) → Bool
  | [], [] => true
  | s :: ss, c :: cs => shp s c && shpL ss cs
  | _, _ => false
def callC (m : Mem U.D) (d : Nat) (args : List (VV U.D)) (K : VV U.D → Upd U.D → Option R) : List (Con U) → Option R
  | [] => none
  | c :: cs => bif shpL c.A args then (match decL true m c.A args with
    | some lv => match tyd (lvsL c.A) lv with
      | some x => bif fair m c args && absent m (64 * d) 64 then (c.f x).bind fun y =>
        let lw := unty (lvsL c.R ++ outsL c.A) y
        let n := (lvsL c.R).length
        let lent := isLent (bors m c.A args)
        match encL (c.R ++ ioS c.A) (64 * d) (lw.take n ++ mergeL c.A (unty (lvsL c.A) x) (lw.drop n)) with
        | (vs, m', κ', _) => bif Nat.ble κ' (64 * d + 64) then K (packR ((vs.take c.R.length).map (clnV m' lent))) ((somes (kys m c.A args)).map (fun q => (q, none)) ++ (m'.reverse.map fun p => (p.1, some (clnB m' lent p.2))) ++ back lent m m' (ioS c.A) (ioV c.A args) (vs.drop c.R.length)) else none
        else none
      | none => callC m d args K cs
    | none => none) else callC m d args K cs
def slK (U : Uni) (t k : Nat) : Bool := match U.ti t with
  | some T => match T.d with
    | .sl e => bif Nat.beq e k then (match U.ti k with
      | some Te => Nat.beq Te.sz (U.sz k)
      | none => false) else false
    | _ => false
  | none => false
def slL (U : Uni) (ts : List Nat) (k : Nat) : Bool := match ts with
  | t :: _ => slK U t k
  | [] => false
def slA (U : Uni) (ts : List Nat) (k : Nat) : Bool := match ts with
  | [t, t'] => slK U t k && slK U t' k && (match U.ti k with
    | some T => Nat.ble (U.lim k * T.by_) 140737488355328 && Nat.ble 1 T.by_ && Nat.ble 1 T.sz
    | none => false)
  | _ => false
def arK (U : Uni) (t n k : Nat) : Bool := match U.ti t with
  | some T => match T.d with
    | .ar l e => bif Nat.beq e k then Nat.beq l n && (match U.ti k with
      | some Te => (match Te.d with
        | .int _ => true
        | .bool => true
        | _ => false) && Nat.beq (U.sz k) 1
      | none => false) else false
    | _ => false
  | none => false
def shal : VV U.D → VV U.D
  | .tree _ _ => .junk
  | .ktree _ _ => .junk
  | c => c
def isBl (U : Uni) (t : Nat) : Bool := match U.ti t with
  | some T => match T.d with
    | .bool => true
    | _ => false
  | none => false
def boolOf : VV U.D → Option Bool
  | .lit b => some b
  | .bv b => some b
  | .nb b => some (!b)
  | .bp p d => some (@decide p d)
  | .np p d => some (!@decide p d)
  | _ => none
def eqB {R : Type} (op : BinOp) (a b : Bool) (K : VV U.D → Option R) : Option R := match op with
  | .eql => K (.bv (a == b))
  | .neq => K (.bv (a != b))
  | _ => none
def eqA {R : Type} (U : Uni) (t : Nat) (op : BinOp) (cx cy : VV U.D) (K : VV U.D → Option R) : Option R := match U.ti t with
  | some T => bif T.eq then (match cx with
    | .agg as => match cy with
      | .agg bs => bif Nat.beq as.length T.sz && Nat.beq bs.length T.sz then (match eqs as bs with
        | some (.bp p d) => match op with
          | .eql => K (.bp p d)
          | .neq => K (.np p d)
          | _ => none
        | _ => none) else none
      | _ => none
    | _ => none) else none
  | none => none
def spl {R : Type} (n : Int) : (f j : Nat) → (Nat → Option R) → Option R
  | 0, _, _ => none
  | f + 1, j, K => if n = (j : Int) then K j else spl n f (j + 1) K
def arI {R : Type} (U : Uni) (t : Nat) (n : Int) (K : Nat → TY → Option R) : Option R := match U.ti t with
  | some T => match T.d with
    | .ar l e => match U.ti e with
      | some Te => spl n l 0 fun j => K j Te
      | none => none
    | _ => none
  | none => none
def arF (e s : Nat) : Nat → Nat → List (Nat × Nat)
  | 0, _ => []
  | n + 1, o => (o, e) :: arF e s n (o + s)
def arB {R : Type} (U : Uni) (T : TY) (ps : List (Nat × VV U.D)) (K : VV U.D → Option R) : Option R := match T.d with
  | .ar l e => match U.ti e with
    | some Te => match fillS (arF e Te.sz l 0) (zcs T) ps with
      | some cs => K (.agg cs)
      | none => none
    | none => none
  | _ => none
def scals : List (VV U.D) → Bool
  | [] => true
  | v :: vs => (match v with
    | .int _ _ => true
    | .lit _ => true
    | .bv _ => true
    | .nb _ => true
    | .bp _ _ => true
    | .np _ _ => true
    | _ => false) && scals vs
def isSl (T : TY) : Bool := match T.d with
  | .sl _ => true
  | _ => false
def isOne (T : TY) : Bool := match T.d with
  | .int _ => true
  | .bool => true
  | _ => false
def asN : VV U.D → Option Int
  | .int _ n => some n
  | _ => none
def Vop (U : Uni) (E : Nat → List (Con U)) (o : Op) (d : Nat) (ρ : Operand → VV U.D) (m : Mem U.D) (K : VV U.D → Upd U.D → Option R) : Option R :=
  match o with
  | .move x => K (ρ x) []
  | .assign x => K (ρ x) []
  | .pick c a b => vcond (ρ c) (K (ρ a) []) (K (ρ b) [])
  | .alloc e => match U.ti e with
    | some T => nw m (64 * d) (K (.ptr (64 * d) 0) [(64 * d, some (.box e (zcs T)))])
    | none => none
  | .box e x => match ρ x with
    | v => match flO v with
      | some cs => nw m (64 * d) (K (.ptr (64 * d) 0) [(64 * d, some (.box e cs))])
      | none => none
  | .build t ps => match U.ti t with
    | some T => match T.d with
      | .str fs => match fillS fs (zcs T) (ps.toList.map fun p => (p.1, ρ p.2)) with
        | some cs => K (.agg cs) []
        | none => none
      | _ => arB U T (ps.toList.map fun p => (p.1, ρ p.2)) fun v => K v []
    | none => none
  | .buildSlice t n ps => match U.ti t with
    | some T => match T.d with
      | .sl e => bif slK U t e && idxOk (ps.toList.map fun p => p.1) 0 n && Nat.ble (n * U.sz e + n) 16777216 then (match flAll (U.sz e) (ps.toList.map fun p => ρ p.2) with
        | some cs => bif ndp (keysOf cs) then (match mvdL m cs with
          | some ms => match mkAll U e (U.sz e) n ms with
            | some xs => nw m (64 * d) (K (.ref (64 * d)) ((64 * d, some (.row e xs)) :: gone cs))
            | none => none
          | none => match bmvL m cs with
            | some ms => match mkAll U e (U.sz e) n ms with
              | some xs => nw m (64 * d) (K (.ref (64 * d)) ((64 * d, some (.brow e xs)) :: gone cs))
              | none => none
            | none => none) else none
        | none => none) else none
      | _ => none
    | none => none
  | .load t a => match U.ti t with
    | some T => match ρ a with
      | .ptr κ j => match mget m κ with
        | some (.box _ cs) => match cut T cs j with
          | some v => K v []
          | none => none
        | _ => none
      | .pbox _ cs j => match cut T cs j with
        | some v => K v []
        | none => none
      | .elt k xs i j => match cut T (U.cells k (rdE U k xs i)) j with
        | some v => K v []
        | none => none
      | .oel κ i j => match mget m κ with
        | some (.row k xs) => match cut T ((U.cells k (rdE U k xs i)).map shal) j with
          | some v => K v []
          | none => none
        | some (.krow k xs) => bif isSl T then (match lget (U.cells k (rdE U k xs i)) j with
          | .tree _ _ => K (.nel κ i j) []
          | _ => none) else (match cut T ((U.cells k (rdE U k xs i)).map shal) j with
          | some v => K v []
          | none => none)
        | some (.arr _ _ k xs) => match cut T (U.cells k (rdE U k xs i)) j with
          | some v => K v []
          | none => none
        | _ => none
      | _ => none
    | none => none
  | .store t a x => match U.ti t, flO (ρ x) with
    | some T, some vs => bif Nat.beq vs.length T.sz then (match ρ a with
      | .ptr κ j => match mget m κ with
        | some (.box t cs) => bif Nat.ble (j + vs.length) cs.length then K .junk [(κ, some (.box t (setl cs j vs)))] else none
        | _ => none
      | .oel κ i j => match mget m κ with
        | some (.row k xs) => bif Nat.ble (j + vs.length) (U.sz k) && ndp (keysOf vs) && !hasK κ (keysOf vs) && Nat.ble 1 vs.length then (match mvdL m vs with
          | some ms => match U.mkE k (setl (U.cells k (rdE U k xs i)) j ms) with
            | some y => K .junk ((κ, some (.row k (xs.set i.toNat y))) :: gone vs)
            | none => none
          | none => none) else none
        | some (.krow k xs) => bif Nat.ble (j + vs.length) (U.sz k) && scals vs && Nat.ble 1 vs.length then (match mvdL m vs with
          | some ms => match U.mkE k (setl (U.cells k (rdE U k xs i)) j ms) with
            | some y => K .junk [(κ, some (.krow k (xs.set i.toNat y)))]
            | none => none
          | none => none) else none
        | _ => none
      | _ => none) else none
    | _, _ => none
  | .nilCheck x => match ρ x with
    | .ptr κ j => K (.ptr κ j) []
    | .pbox t cs j => K (.pbox t cs j) []
    | _ => none
  | .binOp op t x y _ => match ρ x, ρ y with
    | .int k a, .int k' b => match op with
      | .shr => if b < 0 then none else K (.int k (a.fdiv (2 ^ min b.toNat k.bits))) []
      | .shl => none
      | op => bif ikeq k k' then ariI op k a b (fun v => K v []) else none
    | cx, cy => match boolOf cx, boolOf cy with
      | some a, some b => bif isBl U t then eqB op a b fun v => K v [] else none
      | _, _ => eqA U t op cx cy fun v => K v []
  | .unOp op _ x => match op, ρ x with
    | .not, .lit b => K (.lit (!b)) []
    | .not, .bv b => K (.nb b) []
    | .not, .nb b => K (.bv b) []
    | .not, .bp p dp => K (.np p dp) []
    | .not, .np p dp => K (.bp p dp) []
    | .neg, .int k n => K (.int k (wrapK k (0 - n))) []
    | _, _ => none
  | .convert t0 t x => match U.ti t0, U.ti t with
    | some T0, some T => match T0.d, T.d with
      | .int _, .int k => match ρ x with
        | .int _ n => K (.int k (wrapK k n)) []
        | _ => none
      | _, _ => none
    | _, _ => none
  | .makeSlice t l c => match U.ti t with
    | some T => match T.d with
      | .sl e => bif slK U t e then (match U.ti e with
        | some Te => match asN (ρ l), asN (ρ c) with
          | some n, some n' => match U.mkE e (zcs Te) with
            | some z => mkS n n' Te.by_ (nw m (64 * d) (K (.ref (64 * d)) [(64 * d, some (.row e (List.replicate n.toNat z)))]))
            | none => none
          | _, _ => none
        | none => none) else none
      | _ => none
    | none => none
  | .slice t x lo hi mx => match ρ x with
    | .ref κ => match mget m κ with
      | some (.row k xs) => bif slK U t k then (match lo, hi, mx with
        | some l, none, none => match asN (ρ l) with
          | some n => if n ≤ (xs.length : Int) then (if 0 ≤ n then nw m (64 * d) (K (.ref (64 * d)) [(κ, none), (64 * d, some (.row k (xs.drop n.toNat)))]) else none) else none
          | none => none
        | _, _, _ => none) else none
      | _ => none
    | _ => none
  | .fieldAddr t x f => match U.ti t with
    | some T => match T.d with
      | .str fs => match fs[f]? with
        | some (o, _) => match ρ x with
          | .ptr κ j => K (.ptr κ (j + o)) []
          | .pbox t cs j => K (.pbox t cs (j + o)) []
          | .elt k xs i j => K (.elt k xs i (j + o)) []
          | .oel κ i j => K (.oel κ i (j + o)) []
          | _ => none
        | none => none
      | _ => none
    | none => none
  | .field t x f => match U.ti t with
    | some T => match T.d with
      | .str fs => match fs[f]? with
        | some (o, ft) => match U.ti ft with
          | some F => match ρ x with
            | .agg cs => match cut F cs o with
              | some v => K v []
              | none => none
            | _ => none
          | none => none
        | none => none
      | _ => none
    | none => none
  | .indexAddr t x i => match asN (ρ i) with
    | some n => match ρ x with
      | .tree k xs => bif slK U t k then inb n xs.length (K (.elt k xs n 0) []) else none
      | .ref κ => match mget m κ with
        | some (.row k xs) => bif slK U t k then inb n xs.length (K (.oel κ n 0) []) else none
        | some (.krow k xs) => bif slK U t k then inb n xs.length (K (.oel κ n 0) []) else none
        | _ => none
      | .ptr κ 0 => match mget m κ with
        | some (.arr _ l k _) => bif arK U t l k then inb n (l : Int) (K (.oel κ n 0) []) else none
        | some (.box _ _) => arI U t n fun j Te => K (.ptr κ (j * Te.sz)) []
        | _ => none
      | _ => none
    | none => none
  | .index t x i => match asN (ρ i) with
    | some n => match ρ x with
      | .arr l k xs => bif arK U t l k then inb n (l : Int) (K (lget (U.cells k (rdE U k xs n)) 0) []) else none
      | .agg cs => arI U t n fun j Te => bif isOne Te && Nat.blt j cs.length then K (unk (lget cs j)) [] else none
      | _ => none
    | none => none
  | .extract x i => match ρ x with
    | .tup vs => bif Nat.blt i vs.length then K (lget vs i) [] else none
    | _ => none
  | .makeFunc (.func f) _ cs => K (.fn f (cs.toList.map ρ)) []
  | .call c => match c.callee with
    | .value f => match ρ f with
      | .fn g cs => callC m d (c.args.toList.map ρ ++ cs) K (E g)
      | _ => none
    | .builtin b => match b, c.args.toList.map ρ with
      | .len, [.tree k xs] => bif slL U c.argTypes.toList k then K (.int .i64 xs.length) [] else none
      | .len, [.ref κ] => match mget m κ with
        | some (.row k xs) => bif slL U c.argTypes.toList k then K (.int .i64 xs.length) [] else none
        | some (.krow k xs) => bif slL U c.argTypes.toList k then K (.int .i64 xs.length) [] else none
        | _ => none
      | .min, [.int k a, .int k' b] => bif ikeq k k' then K (.int k (if b < a then b else a)) [] else none
      | .max, [.int k a, .int k' b] => bif ikeq k k' then K (.int k (if b > a then b else a)) [] else none
      | .append, [.ref κ, .ref κ'] => match mget m κ, mget m κ' with
        | some (.row k xs), some (.row k' ys) => match Nat.decEq k' k, slA U c.argTypes.toList k && !Nat.beq κ κ' with
          | .isTrue h, true => apK xs.length ys.length (U.lim k) (nw m (64 * d) (K (.ref (64 * d)) [(κ, none), (κ', none), (64 * d, some (.row k (xs ++ (h ▸ ys))))]))
          | _, _ => none
        | _, _ => none
      | .append, [.nil, .ref κ'] => match mget m κ' with
        | some (.row k' ys) => bif slA U c.argTypes.toList k' then apK 0 ys.length (U.lim k') (nw m (64 * d) (K (.ref (64 * d)) [(κ', none), (64 * d, some (.row k' ([] ++ ys)))])) else none
        | _ => none
      | .append, [.ref κ, .tree k' ys] => match mget m κ with
        | some (.row k xs) => match Nat.decEq k' k, slA U c.argTypes.toList k && U.flat k with
          | .isTrue h, true => apK xs.length ys.length (U.lim k) (nw m (64 * d) (K (.ref (64 * d)) [(κ, none), (64 * d, some (.row k (xs ++ (h ▸ ys))))]))
          | _, _ => none
        | _ => none
      | _, _ => none
    | _ => none
  | _ => none
mutual
def men : VV U.D → List Nat
  | .ref κ => [κ]
  | .ptr κ _ => [κ]
  | .oel κ _ _ => [κ]
  | .nel κ _ _ => [κ]
  | .agg cs => menL cs
  | .tup cs => menL cs
  | .fn _ cs => menL cs
  | _ => []
def menL : List (VV U.D) → List Nat
  | [] => []
  | c :: cs => men c ++ menL cs
end
def menB : Blk U.D → List Nat
  | .box _ cs => menL cs
  | _ => []
def menM : Mem U.D → List Nat
  | [] => []
  | (_, b) :: r => menB b ++ menM r
def newOk (s : St U.D) : Upd U.D → Bool
  | [] => true
  | (κ, some _) :: r => (match mget s.m κ with
    | some _ => true
    | none => !(hasK κ (menL s.t) || hasK κ (menM s.m))) && newOk s r
  | (_, none) :: r => newOk s r
def isUnd : VV U.D → Bool
  | .tup cs => match cs with
    | [] => true
    | _ :: _ => false
  | _ => false
def keysU : Upd U.D → List Nat
  | [] => []
  | (κ, _) :: r => κ :: keysU r
def nelIx : Nat → List (VV U.D) → Option (Nat × Nat × Int × Nat)
  | _, [] => none
  | p, .nel κ i j :: _ => some (p, κ, i, j)
  | p, _ :: vs => nelIx (p + 1) vs
def callN (U : Uni) (m : Mem U.D) (d : Nat) (args : List (VV U.D)) (K : VV U.D → Upd U.D → Option R) (cons : List (Con U)) (q : Nat × Nat × Int × Nat) : Option R :=
  match mget m q.2.1 with
  | some (.krow k xs) => match lget (U.cells k (rdE U k xs q.2.2.1)) q.2.2.2 with
    | .tree k' ys =>
      let z := 300000 + d
      bif Nat.blt q.2.2.2 (U.sz k) then nw m z (callC (mput (mput m q.2.1 (.hole k xs q.2.2.1.toNat q.2.2.2)) z (.row k' ys)) d (args.set q.1 (.ref z)) (fun v u =>
        bif hasK q.2.1 (keysU u) then none else (match mget (mupd (mput (mput m q.2.1 (.hole k xs q.2.2.1.toNat q.2.2.2)) z (.row k' ys)) u) z with
        | some (.row k2 ys') => match U.mkE k (setl (U.cells k (rdE U k xs q.2.2.1)) q.2.2.2 [.tree k2 ys']) with
          | some y => K v ((q.2.1, some (.hole k xs q.2.2.1.toNat q.2.2.2)) :: (z, some (.row k' ys)) :: u ++ [(q.2.1, some (.krow k (xs.set q.2.2.1.toNat y))), (z, none)])
          | none => none
        | _ => none)) cons) else none
    | _ => none
  | _ => none
def VopN (U : Uni) (E : Nat → List (Con U)) (o : Op) (d : Nat) (ρ : Operand → VV U.D) (m : Mem U.D) (K : VV U.D → Upd U.D → Option R) : Option R :=
  match o with
  | .call c => match c.callee with
    | .value f => match ρ f with
      | .fn g cs => match nelIx 0 (c.args.toList.map ρ ++ cs) with
        | some q => callN U m d (c.args.toList.map ρ ++ cs) K (E g) q
        | none => Vop U E o d ρ m K
      | _ => Vop U E o d ρ m K
    | _ => Vop U E o d ρ m K
  | _ => Vop U E o d ρ m K
def Vrg (U : Uni) (E : Nat → List (Con U)) (ops : Array Oper) (K : St U.D → Option R) : List Oper → St U.D → Option R
  | [], s => K s
  | o :: os, s =>
    let go (s : St U.D) : Option R := VopN U E o.op (o.dst.getD 1000) (ev s.t) s.m fun v u => bif newOk s u then Vrg U E ops K os ({ s with m := mupd s.m u }.put o.dst v) else none
    match o.guard with
    | none => go s
    | some (j, want) =>
      let d := (ops[j]?).bind (·.dst)
      let on (b : Bool) (s : St U.D) : Option R := if b == want then go s else Vrg U E ops K os (s.put o.dst (.tup []))
      match d with
      | some i => bif isUnd (lget s.t i) then Vrg U E ops K os (s.put o.dst (.tup [])) else vcond (lget s.t i) (on true (s.put d (.lit true))) (on false (s.put d (.lit false)))
      | none => none
structure DR where
  i : Nat
  d : Nat
  rd : List Nat
  wr : List Nat
  fr : List Nat
  mn : List Nat
def keysM : Mem U.D → List Nat
  | [] => []
  | (κ, _) :: r => κ :: keysM r
def outR (d : Nat) : List Nat → Bool
  | [] => true
  | κ :: r => (Nat.blt κ (64 * d) || Nat.ble (64 * d + 64) κ) && outR d r
def menK (m : Mem U.D) : List Nat → List Nat
  | [] => []
  | κ :: ks => (match mget m κ with
    | some b => menB b
    | none => []) ++ menK m ks
def clo (m : Mem U.D) (cs : List (VV U.D)) : List Nat := menL cs ++ menK m (menL cs)
def rdO (o : Op) (m : Mem U.D) (cs : List (VV U.D)) : List Nat := match o with
  | .call c => match c.callee with
    | .value _ => clo m cs
    | _ => menL cs
  | .move _ => []
  | .assign _ => []
  | .pick _ _ _ => []
  | .box _ _ => []
  | .build _ _ => []
  | .nilCheck _ => []
  | .fieldAddr _ _ _ => []
  | .field _ _ _ => []
  | .extract _ _ => []
  | .makeFunc _ _ _ => []
  | _ => menL cs
def restr (ks : List Nat) : Mem U.D → Mem U.D
  | [] => []
  | (κ, b) :: r => bif hasK κ ks then (κ, b) :: restr ks r else restr ks r
def menU : Upd U.D → List Nat
  | [] => []
  | (_, some b) :: r => menB b ++ menU r
  | (_, none) :: r => menU r
def frU (m : Mem U.D) : Upd U.D → List Nat
  | [] => []
  | (κ, some _) :: r => (match mget m κ with
    | some _ => frU m r
    | none => κ :: frU m r)
  | (_, none) :: r => frU m r
def anc (ops : Array Oper) : Nat → Nat → Nat → Bool
  | 0, _, _ => false
  | n + 1, j, i => match ops[j]? with
    | some o => o.after.toList.any fun e => Region.binds .any e && (Nat.beq e.on i || anc ops n e.on i)
    | none => false
def aparts (ops : Array Oper) (i j : Nat) : Bool := match ops[i]?, ops[j]? with
  | some x, some y => Oper.apart ops x y && Oper.apart ops y x
  | _, _ => false
def chk1 (ops : Array Oper) (n r : DR) : Bool := disj n.fr r.mn && (anc ops ops.size n.i r.i || (aparts ops r.i n.i && disj r.wr n.rd && disj r.wr n.wr && disj n.wr r.rd && disj r.fr n.mn && outR n.d r.wr && outR r.d n.wr))
def chkD (ops : Array Oper) (n : DR) : List DR → Bool
  | [] => true
  | r :: rs => chk1 ops n r && chkD ops n rs
def skD (j : Nat) (o : Oper) : DR := ⟨j, o.dst.getD 1000, [], [], [], []⟩
def Vdr (U : Uni) (E : Nat → List (Con U)) (ops : Array Oper) (K : St U.D → Option R) (M0 : List Nat) : List DR → Nat → List Oper → St U.D → Option R
  | _, _, [], s => K s
  | dn, j, o :: os, s =>
    let go (s : St U.D) : Option R := bif outR (o.dst.getD 1000) (keysM s.m) then
        Vop U E o.op (o.dst.getD 1000) (ev s.t) (restr (rdO o.op s.m (o.op.operands.toList.map (ev s.t))) s.m) fun v u =>
          bif disj (frU s.m u) M0 && chkD ops ⟨j, o.dst.getD 1000, rdO o.op s.m (o.op.operands.toList.map (ev s.t)), keysU u, frU s.m u, men v ++ menU u⟩ dn then Vdr U E ops K M0 (⟨j, o.dst.getD 1000, rdO o.op s.m (o.op.operands.toList.map (ev s.t)), keysU u, frU s.m u, men v ++ menU u⟩ :: dn) (j + 1) os ({ s with m := mupd s.m u }.put o.dst v) else none
      else none
    match o.guard with
    | none => go s
    | some (g, want) =>
      let d := (ops[g]?).bind (·.dst)
      let sk (s : St U.D) : Option R := bif chkD ops (skD j o) dn then Vdr U E ops K M0 (skD j o :: dn) (j + 1) os (s.put o.dst (.tup [])) else none
      let on (b : Bool) (s : St U.D) : Option R := if b == want then go s else sk s
      match d with
      | some i => bif anc ops ops.size j g then (bif isUnd (lget s.t i) then sk s else vcond (lget s.t i) (on true (s.put d (.lit true))) (on false (s.put d (.lit false)))) else none
      | none => none
def okD (ops : Array Oper) : Bool := go 0 ops.toList where
  go : Nat → List Oper → Bool
  | _, [] => true
  | j, o :: os => (o.after.toList.all fun e => !Region.binds .any e || Nat.blt e.on j) && go (j + 1) os
def rid : Code → Nat
  | .region i _ _ => i
  | .seq a _ => rid a
  | .block _ c => rid c
  | .loop c => rid c
  | _ => 100000
inductive Ex where
  | normal
  | exit (i : Nat)
  | ret
def Vc (U : Uni) (E : Nat → List (Con U)) (J : List Nat) (F : Nat → St U.D → Option R) : Code → (Ex → St U.D → Option R) → St U.D → Option R
  | .skip, K, s => K .normal s
  | .region _ ops dr, K, s => bif dr then Vdr U E ops (K .normal) (menL s.t ++ menM s.m) [] 0 ops.toList s else Vrg U E ops (K .normal) ops.toList s
  | .seq a b, K, s => Vc U E J F a (fun e s => match e with
    | .normal => if J.contains (rid b) then F (rid b) s else Vc U E J F b K s
    | e => K e s) s
  | .cond c a b, K, s => vcond (ev s.t c) (Vc U E J F a K s) (Vc U E J F b K s)
  | .block i c, K, s => Vc U E J F c (fun e s => match e with
    | .exit j => if j == i then K .normal s else K (.exit j) s
    | e => K e s) s
  | .loop c, K, s => F (rid c) s
  | .exit i, K, s => K (.exit i) s
  | .ret, K, s => K .ret s
  | .scope c, K, s => none
  | _, _, _ => none
def Vcuts (U : Uni) (E : Nat → List (Con U)) (J : List Nat) (F : Nat → St U.D → Option R) : Code → (Ex → St U.D → Option R) → List (Nat × (St U.D → Option R))
  | .seq a b, K => Vcuts U E J F a (fun e s => match e with
      | .normal => if J.contains (rid b) then F (rid b) s else Vc U E J F b K s
      | e => K e s) ++ (if J.contains (rid b) then [(rid b, Vc U E J F b K)] else []) ++ Vcuts U E J F b K
  | .cond _ a b, K => Vcuts U E J F a K ++ Vcuts U E J F b K
  | .block i c, K => Vcuts U E J F c (fun e s => match e with
    | .exit j => if j == i then K .normal s else K (.exit j) s
    | e => K e s)
  | .loop c, K => (rid c, Vc U E J F c (fun e s => match e with
    | .normal => F (rid c) s
    | e => K e s)) :: Vcuts U E J F c (fun e s => match e with
    | .normal => F (rid c) s
    | e => K e s)
  | _, _ => []
end
section
variable {U : Uni}
def resV (s : St U.D) : ResultVar → Option (VV U.D)
  | .tmp i => some (lget s.t i)
  | .cell a t => match lget s.t a, U.ti t with
    | .ptr κ 0, some T => match mget s.m κ with
      | some (.box _ cs) => cut T cs 0
      | _ => none
    | _, _ => none
def resL (s : St U.D) : List ResultVar → Option (List (VV U.D))
  | [] => some []
  | r :: rs => match resV s r with
    | some v => match resL s rs with
      | some vs => some (v :: vs)
      | none => none
    | none => none
def outD : List Cg → List (VV U.D) → List (VV U.D)
  | .keep _ :: gs, _ :: vs => outD gs vs
  | _ :: gs, v :: vs => v :: outD gs vs
  | _, _ => []
def outM : List Sg → List (VV U.D) → List (VV U.D)
  | [], _ => []
  | .box _ gs :: ss, vs => outD gs (vs.take gs.length) ++ outM ss (vs.drop gs.length)
  | s :: ss, vs => vs.take s.lvs.length ++ outM ss (vs.drop s.lvs.length)
def fin (rv : List ResultVar) (A R : List Sg) (s : St U.D) : Option (TL U.D (lvsL R ++ outsL A)) :=
  match resL s rv with
  | some vs => match decL false s.m R vs, decL false s.m (ioS A) (ioV A s.t) with
    | some lv, some ov => bif ndp (somes (kys s.m (R ++ ioS A) (vs ++ ioV A s.t))) then tyd (lvsL R ++ outsL A) (lv ++ outM (ioS A) ov) else none
    | _, _ => none
  | none => none
def K0 (rv : List ResultVar) (A R : List Sg) (e : Ex) (s : St U.D) : Option (TL U.D (lvsL R ++ outsL A)) :=
  match e with
  | .ret => fin rv A R s
  | .normal => fin rv A R s
  | .exit _ => none
def ini (n : Nat) (A : List Sg) (x : TL U.D (lvsL A)) : St U.D :=
  match encL A 100000 (unty (lvsL A) x) with
  | (vs, m, _, _) => { t := vs ++ List.replicate (n - vs.length) .junk, m }
structure Slot where
  ts : List Nat
  ss : List Sg
def tsL (t : List (VV U.D)) : List Nat → List (VV U.D)
  | [] => []
  | i :: is => lget t i :: tsL t is
def setT (t : List (VV U.D)) : List Nat → List (VV U.D) → List (VV U.D)
  | i :: is, v :: vs => setT (t.set i v) is vs
  | _, _ => t
def slot (n : Nat) (S : Slot) (x : TL U.D (lvsL S.ss)) : St U.D :=
  match encL S.ss 200000 (unty (lvsL S.ss) x) with
  | (vs, m, _, _) => { t := setT (List.replicate n .junk) S.ts vs, m }
def proj (S : Slot) (s : St U.D) : Option (TL U.D (lvsL S.ss)) :=
  match decL false s.m S.ss (tsL s.t S.ts) with
  | some lv => bif ndp (somes (kys s.m S.ss (tsL s.t S.ts))) then tyd (lvsL S.ss) lv else none
  | none => none
def Fcut {R : Type} (S : Slot) (f : TL U.D (lvsL S.ss) → Option R) (s : St U.D) : Option R :=
  match proj S s with
  | some x => f x
  | none => none
def bodyOf (fn : Func) : Code := match fn.body with | some c => c | none => .skip
def nthC {R : Type} : List (Nat × (St U.D → Option R)) → Nat → St U.D → Option R
  | [], _, _ => none
  | (_, f) :: _, 0, s => f s
  | _ :: r, i + 1, s => nthC r i s
def Vfn {R : Type} (E : Nat → List (Con U)) (J : List Nat) (F : Nat → St U.D → Option R) (fn : Func) (K : Ex → St U.D → Option R) (s : St U.D) : Option R := Vc U E J F (bodyOf fn) K s
end
end Go.Proofs.YtpdnnndedejlhaaGreatV
/- What a plain value says of the machine's values and memory. -/
namespace Go.Proofs.YtpdnnndedejlhaaGreatV
open Go
set_option linter.unusedVariables false
set_option linter.unusedSimpArgs false
variable {U : Uni}
inductive LE : VV U.D → VV U.D → Prop where
  | int (k : IntKind) (n : Int) : LE (.int k n) (.int k n)
  | bool {c : VV U.D} {b : Bool} (h : boolOf c = some b) : LE (.bv b) c
  | tree (k : Nat) (xs : List (U.D k)) : LE (.tree k xs) (.tree k xs)
  | nil (k : Nat) : LE (.tree k []) .nil
inductive RC (U : Uni) (F : Nat → Prop) (w : World) : VV U.D → Value → Prop where
  | int (k : IntKind) (n : Int) : RC U F w (.int k n) (.int k n)
  | bool {c : VV U.D} {b : Bool} (h : boolOf c = some b) : RC U F w c (.bool b)
  | nil : RC U F w .nil (.slice none 0 0)
  | tree0 (k : Nat) (A : Option Addr) (cap : Nat) : RC U F w (.tree k []) (.slice A 0 cap)
  | tree {k : Nat} {xs : List (U.D k)} {ad : Addr} {cap : Nat} (vf : Nat → Nat → Value) (hc : xs.length ≤ cap) (hF : F ad.block)
      (h : ∀ i x j c, xs[i]? = some x → (U.cells k x)[j]? = some c → w.cell? (ad.add (i * U.sz k + j)) = some (vf i j))
      (hr : ∀ i x j c, xs[i]? = some x → (U.cells k x)[j]? = some c → RC U F w c (vf i j)) : RC U F w (.tree k xs) (.slice (some ad) xs.length cap)
inductive RO (U : Uni) (w : World) : (Nat → Prop) → VV U.D → Value → Prop where
  | int {ok : Nat → Prop} (k : IntKind) (n : Int) : RO U w ok (.int k n) (.int k n)
  | bool {ok : Nat → Prop} {c : VV U.D} {b : Bool} (h : boolOf c = some b) : RO U w ok c (.bool b)
  | nil {ok : Nat → Prop} : RO U w ok .nil (.slice none 0 0)
  | tree0 {ok : Nat → Prop} (k : Nat) : RO U w ok (.tree k []) (.slice none 0 0)
  | tree {ok : Nat → Prop} {k : Nat} {xs : List (U.D k)} {g o cap : Nat} {cur : Array Value} (f : Nat → Nat) (hg : ok g) (hh : w.heap[g]? = some (.cells cur k (0, 0)))
      (hc : xs.length ≤ cap) (hk : cap ≤ 9223372036854775807) (hs : o + cap * U.sz k ≤ cur.size)
      (hr : ∀ i x j c, xs[i]? = some x → (U.cells k x)[j]? = some c → RO U w (fun b => ok b ∧ b ≠ g ∧ f b = i * U.sz k + j) c (cur.getD (o + (i * U.sz k + j)) (.bool false))) :
      RO U w ok (.tree k xs) (.slice (some ⟨g, o, none⟩) xs.length cap)
theorem RO.mono {w : World} {ok ok' : Nat → Prop} {c : VV U.D} {v : Value} (h : RO U w ok c v) (hok : ∀ b, ok b → ok' b) : RO U w ok' c v := by
  induction h generalizing ok' with
  | int => exact .int _ _
  | bool h => exact .bool h
  | nil => exact .nil
  | tree0 => exact .tree0 _
  | tree f hg hh hc hk hs hr ih => exact .tree f (hok _ hg) hh hc hk hs (fun i x j c hx hj => ih i x j c hx hj (fun b hb => ⟨hok _ hb.1, hb.2⟩))
theorem RO.stay {w w' : World} {ok : Nat → Prop} {c : VV U.D} {v : Value} (h : RO U w ok c v) (hw : ∀ b, ok b → w'.heap[b]? = w.heap[b]?) : RO U w' ok c v := by
  induction h with
  | int => exact .int _ _
  | bool h => exact .bool h
  | nil => exact .nil
  | tree0 => exact .tree0 _
  | tree f hg hh hc hk hs hr ih => exact .tree f hg ((hw _ hg).trans hh) hc hk hs (fun i x j c hx hj => ih i x j c hx hj (fun b hb => hw b hb.1))
theorem heap_lt {w : World} {g : Nat} {o : Obj} (h : w.heap[g]? = some o) : g < w.heap.size := by
  by_cases hg : g < w.heap.size
  · exact hg
  · rw [Array.getElem?_eq_none (by omega)] at h; cases h
theorem RO.lt {w : World} {ok : Nat → Prop} {c : VV U.D} {v : Value} (h : RO U w ok c v) : RO U w (fun b => ok b ∧ b < w.heap.size) c v := by
  induction h with
  | int => exact .int _ _
  | bool h => exact .bool h
  | nil => exact .nil
  | tree0 => exact .tree0 _
  | tree f hg hh hc hk hs hr ih => exact .tree f ⟨hg, heap_lt hh⟩ hh hc hk hs (fun i x j c hx hj => (ih i x j c hx hj).mono (fun b hb => ⟨⟨hb.1.1, hb.2⟩, hb.1.2⟩))
structure Ulaw (U : Uni) : Prop where
  len : ∀ k x, (U.cells k x).length = U.sz k
  shp : ∀ (k : Nat) (x y : U.D k) (j k' : Nat) (ys : List (U.D k')), (U.cells k x)[j]? = some (.tree k' ys) → ∃ zs : List (U.D k'), (U.cells k y)[j]? = some (.tree k' zs)
  mke : ∀ k cs x, U.mkE k cs = some x → (U.cells k x).length = cs.length ∧ ∀ (j : Nat) (c c' : VV U.D), (U.cells k x)[j]? = some c → cs[j]? = some c' → LE c c'
  fla : ∀ (k : Nat) (x : U.D k) (j : Nat) (c : VV U.D), U.flat k = true → (U.cells k x)[j]? = some c → match c with
    | .tree _ _ => False
    | .ktree _ _ => False
    | _ => True
theorem cell_lt (L : Ulaw U) {k : Nat} {x : U.D k} {j : Nat} {c : VV U.D} (h : (U.cells k x)[j]? = some c) : j < U.sz k := by
  have := (List.getElem?_eq_some_iff.1 h).1
  rw [L.len] at this
  exact this
theorem idx_lt {α : Type} {xs : List α} {i : Nat} {x : α} (h : xs[i]? = some x) : i < xs.length := (List.getElem?_eq_some_iff.1 h).1
theorem mul_fit {i n s j : Nat} (hi : i < n) (hj : j < s) : i * s + j < n * s := by
  have : (i + 1) * s ≤ n * s := Nat.mul_le_mul_right _ hi
  rw [Nat.add_mul, Nat.one_mul] at this
  omega
theorem cell_of {w : World} {g o : Nat} {cur : Array Value} {e : Nat} (hh : w.heap[g]? = some (.cells cur e (0, 0))) (ho : o < cur.size) : w.cell? ⟨g, o, none⟩ = some (cur.getD o (.bool false)) := by
  simp [World.cell?, hh, Array.getD, ho]
def Ag (F : Nat → Prop) (w w' : World) : Prop := ∀ b, F b → w'.heap[b]? = w.heap[b]?
theorem add_block (a : Addr) (n : Nat) : (a.add n).block = a.block := by unfold Addr.add; split <;> rfl
theorem cell_ag {F : Nat → Prop} {w w' : World} (h : Ag F w w') {a : Addr} (ha : F a.block) : w'.cell? a = w.cell? a := by
  unfold World.cell?
  rw [h _ ha]
theorem RC.stay {F : Nat → Prop} {w w' : World} {c : VV U.D} {v : Value} (h : RC U F w c v) (hw : Ag F w w') : RC U F w' c v := by
  induction h with
  | int => exact .int _ _
  | bool h => exact .bool h
  | nil => exact .nil
  | tree0 => exact .tree0 _ _ _
  | tree vf hc hF h hr ih => exact .tree vf hc hF (fun i x j c hx hj => by rw [cell_ag hw (by rw [add_block]; exact hF)]; exact h i x j c hx hj) ih
theorem RC.mono {F F' : Nat → Prop} {w : World} {c : VV U.D} {v : Value} (h : RC U F w c v) (hF : ∀ b, F b → F' b) : RC U F' w c v := by
  induction h with
  | int => exact .int _ _
  | bool h => exact .bool h
  | nil => exact .nil
  | tree0 => exact .tree0 _ _ _
  | tree vf hc h1 h hr ih => exact .tree vf hc (hF _ h1) h ih
theorem RO.rc (L : Ulaw U) {w : World} {ok : Nat → Prop} {c : VV U.D} {v : Value} (h : RO U w ok c v) : RC U ok w c v := by
  induction h with
  | int => exact .int _ _
  | bool h => exact .bool h
  | nil => exact .nil
  | tree0 => exact .tree0 _ _ _
  | @tree ok k xs g o cap cur f hg hh hc hk hs hr ih =>
    refine .tree (fun i j => cur.getD (o + (i * U.sz k + j)) (.bool false)) hc hg (fun i x j c hx hj => ?_) (fun i x j c hx hj => (ih i x j c hx hj).mono (fun b hb => hb.1))
    rw [Addr.add_mid]
    have h1 := mul_fit (idx_lt hx) (cell_lt L hj)
    have h2 : xs.length * U.sz k ≤ cap * U.sz k := Nat.mul_le_mul_right _ hc
    exact cell_of hh (by omega)
theorem RO.le {w : World} {ok : Nat → Prop} {c c' : VV U.D} {v : Value} (h : RO U w ok c' v) (hl : LE c c') : RO U w ok c v := by
  cases hl with
  | int => exact h
  | bool hb => cases h with
    | bool h2 => rw [hb] at h2; cases h2; exact .bool rfl
    | _ => simp [boolOf] at hb
  | tree => exact h
  | nil => cases h with
    | nil => exact .tree0 _
    | bool h2 => simp [boolOf] at h2
theorem RC.le {F : Nat → Prop} {w : World} {c c' : VV U.D} {v : Value} (h : RC U F w c' v) (hl : LE c c') : RC U F w c v := by
  cases hl with
  | int => exact h
  | bool hb => cases h with
    | bool h2 => rw [hb] at h2; cases h2; exact .bool rfl
    | _ => simp [boolOf] at hb
  | tree => exact h
  | nil => cases h with
    | nil => exact .tree0 _ _ _
    | bool h2 => simp [boolOf] at h2
theorem RC.one {F : Nat → Prop} {w : World} {c : VV U.D} {v : Value} (h : RC U F w c v) : v.oneCell' = true := by cases h <;> rfl
theorem RO.one {w : World} {ok : Nat → Prop} {c : VV U.D} {v : Value} (h : RO U w ok c v) : v.oneCell' = true := by cases h <;> rfl
structure Lc where
  bg : Nat → Nat
  bo : Nat → Nat
  bs : Nat → Nat
  bn : Nat → Nat
  rv : Nat → Value
  cl : Nat → Nat
  kv : Value
def Scal (c : VV U.D) (v : Value) : Prop := (∃ b, boolOf c = some b ∧ v = .bool b) ∨ (∃ k n, c = .int k n ∧ v = .int k n)
inductive RV (U : Uni) (F : Nat → Prop) (w0 : World) (L : Lc) : VV U.D → Value → Prop where
  | leaf {c : VV U.D} {v : Value} (h : RC U F w0 c v) : RV U F w0 L c v
  | ktree {k : Nat} {xs : List (U.D k)} (h : RC U F w0 (.tree k xs) L.kv) : RV U F w0 L (.ktree k xs) L.kv
  | ref (κ : Nat) : RV U F w0 L (.ref κ) (L.rv κ)
  | ptr (κ j : Nat) : RV U F w0 L (.ptr κ j) (.pointer (some ⟨L.bg κ, j, none⟩))
  | pbox {t : Nat} {cs : List (VV U.D)} {b j : Nat} {vs : Array Value} (hF : F b) (h : w0.heap[b]? = some (.cells vs t (0, 0))) (hn : cs.length = vs.size)
      (hl : ∀ (i : Nat) (c : VV U.D) (v : Value), cs[i]? = some c → vs[i]? = some v → RC U F w0 c v) : RV U F w0 L (.pbox t cs j) (.pointer (some ⟨b, j, none⟩))
  | elt {k : Nat} {xs : List (U.D k)} {ad : Addr} {cap : Nat} {i : Int} {j : Nat} (h : RC U F w0 (.tree k xs) (.slice (some ad) xs.length cap)) (h0 : 0 ≤ i) (h1 : i < xs.length) :
      RV U F w0 L (.elt k xs i j) (.pointer (some (ad.add (i.toNat * U.sz k + j))))
  | oel {κ : Nat} {i : Int} {j : Nat} (h0 : 0 ≤ i) (h1 : i < L.bn κ) : RV U F w0 L (.oel κ i j) (.pointer (some ⟨L.bg κ, L.bo κ + (i.toNat * L.bs κ + j), none⟩))
  | nel {κ : Nat} {i : Int} {j : Nat} {v : Value} (h0 : 0 ≤ i) (h1 : i < L.bn κ) (h : w0.cell? ⟨L.bg κ, L.bo κ + (i.toNat * L.bs κ + j), none⟩ = some v) (h2 : v.oneCell' = true) : RV U F w0 L (.nel κ i j) v
  | agg {cs : List (VV U.D)} {vs : Array Value} (hn : cs.length = vs.size) (h : ∀ (i : Nat) (c : VV U.D) (v : Value), cs[i]? = some c → vs[i]? = some v → RV U F w0 L c v)
      (h1 : ∀ (i : Nat) (v : Value), vs[i]? = some v → v.oneCell' = true) : RV U F w0 L (.agg cs) (.agg vs)
  | arr {n k : Nat} {xs : List (U.D k)} {vs : Array Value} (hl : xs.length = n) (hn : xs.length = vs.size) (h : ∀ (i : Nat) (x : U.D k) (v : Value), xs[i]? = some x → vs[i]? = some v → ∃ c, U.cells k x = [c] ∧ Scal c v) :
      RV U F w0 L (.arr n k xs) (.agg vs)
  | tup {cs : List (VV U.D)} {vs : Array Value} (hn : cs.length = vs.size) (h : ∀ (i : Nat) (c : VV U.D) (v : Value), cs[i]? = some c → vs[i]? = some v → RV U F w0 L c v) : RV U F w0 L (.tup cs) (.tuple vs)
  | fn {f : Nat} {cs : List (VV U.D)} {vs : Array Value} (hn : cs.length = vs.size) (h : ∀ (i : Nat) (c : VV U.D) (v : Value), cs[i]? = some c → vs[i]? = some v → RV U F w0 L c v) : RV U F w0 L (.fn f cs) (.func (.func f) #[] vs)
  | junk (v : Value) : RV U F w0 L .junk v
def Hd (U : Uni) (w0 w : World) (L : Lc) (κ k : Nat) (xs : List (U.D k)) : Prop :=
  ∀ (i : Nat) (x : U.D k) (j k' : Nat) (ys : List (U.D k')), xs[i]? = some x → (U.cells k x)[j]? = some (.tree k' ys) → w.cell? ⟨L.bg κ, L.bo κ + (i * L.bs κ + j), none⟩ = w0.cell? ⟨L.bg κ, L.bo κ + (i * L.bs κ + j), none⟩
def BR (U : Uni) (F : Nat → Prop) (w0 w : World) (L : Lc) (κ : Nat) : Blk U.D → Prop
  | .box t cs => L.cl (L.bg κ) = κ + 1 ∧ ∃ vs : Array Value, w.heap[L.bg κ]? = some (.cells vs t (0, 0)) ∧ cs.length = vs.size ∧ ∀ (i : Nat) (c : VV U.D) (v : Value), cs[i]? = some c → vs[i]? = some v → RV U F w0 L c v ∧ v.oneCell' = true
  | .row k xs => RO U w (fun b => L.cl b = κ + 1) (.tree k xs) (L.rv κ) ∧ L.bn κ = xs.length ∧ ∀ g o n c, L.rv κ = .slice (some ⟨g, o, none⟩) n c → L.bg κ = g ∧ L.bo κ = o ∧ L.bs κ = U.sz k
  | .krow k xs => (RO U w (fun b => L.cl b = κ + 1) (.tree k xs) (L.rv κ) ∧ L.bn κ = xs.length ∧ ∀ g o n c, L.rv κ = .slice (some ⟨g, o, none⟩) n c → L.bg κ = g ∧ L.bo κ = o ∧ L.bs κ = U.sz k) ∧ Hd U w0 w L κ k xs
  | .hole k xs i j => (∃ (cap : Nat) (cur : Array Value) (f : Nat → Nat), L.rv κ = .slice (some ⟨L.bg κ, L.bo κ, none⟩) xs.length cap ∧ L.bs κ = U.sz k ∧ L.bn κ = xs.length ∧ L.cl (L.bg κ) = κ + 1 ∧ w.heap[L.bg κ]? = some (.cells cur k (0, 0)) ∧ xs.length ≤ cap ∧ cap ≤ 9223372036854775807 ∧ L.bo κ + cap * U.sz k ≤ cur.size ∧
      ∀ i' x j' c, xs[i']? = some x → (U.cells k x)[j']? = some c → ¬ (i' = i ∧ j' = j) → RO U w (fun b => L.cl b = κ + 1 ∧ b ≠ L.bg κ ∧ f b = i' * U.sz k + j') c (cur.getD (L.bo κ + (i' * U.sz k + j')) (.bool false))) ∧ Hd U w0 w L κ k xs
  | .brow k xs => ∃ (cap : Nat) (cur : Array Value), L.rv κ = .slice (some ⟨L.bg κ, L.bo κ, none⟩) xs.length cap ∧ L.bs κ = U.sz k ∧ L.bn κ = xs.length ∧ L.cl (L.bg κ) = κ + 1 ∧ w.heap[L.bg κ]? = some (.cells cur k (0, 0)) ∧ xs.length ≤ cap ∧ L.bo κ + cap * U.sz k ≤ cur.size ∧
      ∀ i x j c, xs[i]? = some x → (U.cells k x)[j]? = some c → RC U F w0 c (cur.getD (L.bo κ + (i * U.sz k + j)) (.bool false)) ∨ RC U (fun b => L.cl b = κ + 1) w c (cur.getD (L.bo κ + (i * U.sz k + j)) (.bool false))
  | .arr t n k xs => L.cl (L.bg κ) = κ + 1 ∧ L.bo κ = 0 ∧ L.bs κ = 1 ∧ L.bn κ = n ∧ xs.length = n ∧ U.sz k = 1 ∧ ∃ vs : Array Value, w.heap[L.bg κ]? = some (.cells vs t (0, 0)) ∧ xs.length = vs.size ∧
      ∀ (i : Nat) (x : U.D k) (v : Value), xs[i]? = some x → vs[i]? = some v → ∃ c, U.cells k x = [c] ∧ Scal c v
structure Fr where
  F : Nat → Prop
  G : Nat → Prop
  w0 : World
  X : Nat → Option Value
structure MRel (U : Uni) (C : Fr) (L : Lc) (m : Mem U.D) (w : World) : Prop where
  me : ∀ κ b, mget m κ = some b → BR U C.F C.w0 w L κ b
  fg : ∀ b, C.F b → C.G b
  g0 : ∀ b, C.G b → b < C.w0.heap.size ∧ L.cl b = 0 ∧ w.heap[b]? = C.w0.heap[b]?
  hl : ∀ b, L.cl b ≠ 0 → b < w.heap.size
  rvo : ∀ κ, (L.rv κ).oneCell' = true
  hs : C.w0.heap.size ≤ w.heap.size
  os : w.os = C.w0.os
  tp : w.tape = C.w0.tape
  ou : w.output = C.w0.output
structure Rel (U : Uni) (C : Fr) (L : Lc) (s : St U.D) (a : Act) (w : World) : Prop extends MRel U C L s.m w where
  sz : a.tmps.size = s.t.length
  tm : ∀ (i : Nat) (c : VV U.D) (v : Value), s.t[i]? = some c → a.tmps[i]? = some v → RV U C.F C.w0 L c v
  df : a.defers = []
  fx : ∀ i v, C.X i = some v → a.tmps[i]? = some v
theorem Rel.get {C : Fr} {L : Lc} {s : St U.D} {a : Act} {w : World} (h : Rel U C L s a w) (i : Nat) : RV U C.F C.w0 L (lget s.t i) (a.tmps.getD i undef) := by
  unfold lget
  by_cases hi : i < s.t.length
  · have hi' : i < a.tmps.size := by rw [h.sz]; exact hi
    refine h.tm i _ _ ?_ ?_
    · rw [List.getD_eq_getElem?_getD, List.getElem?_eq_getElem hi]; rfl
    · rw [Array.getElem?_eq_getElem hi']; simp [Array.getD, hi']
  · rw [List.getD_eq_getElem?_getD, List.getElem?_eq_none (by omega)]
    exact .junk _
theorem RV.ofV {F : Nat → Prop} {w0 : World} {L : Lc} (v : Value) : RV U F w0 L (ofV v) v := by
  unfold YtpdnnndedejlhaaGreatV.ofV
  split
  · exact .leaf (.int _ _)
  · exact .leaf (.bool rfl)
  · exact .leaf .nil
  · exact .junk _
def opOk : Operand → Bool
  | .const (.agg cs) => cs.all (·.oneCell')
  | .const (.tuple _) => false
  | _ => true
theorem Rel.ev {C : Fr} {L : Lc} {s : St U.D} {a : Act} {w : World} (h : Rel U C L s a w) (x : Operand) (hx : opOk x = true) : RV U C.F C.w0 L (ev s.t x) (a.eval x) := by
  cases x with
  | tmp i => exact h.get i
  | global g => exact .junk _
  | func f => exact .fn rfl (fun i c v hc => by simp at hc)
  | const v =>
    cases v with
    | agg cs =>
      refine .agg (by simp) (fun i c v hc hv => ?_) (fun i v hv => ?_)
      · rw [List.getElem?_map, Array.getElem?_toList, hv] at hc
        cases hc
        exact .ofV v
      · simp only [opOk, Array.all_eq_true_iff_forall_mem] at hx
        exact hx v (Array.mem_of_getElem? hv)
    | bool b => exact RV.ofV (.bool b)
    | int k n => exact RV.ofV (.int k n)
    | slice b n c => exact RV.ofV (.slice b n c)
    | _ => exact .junk _
end Go.Proofs.YtpdnnndedejlhaaGreatV
/- The operations that read. -/
namespace Go.Proofs.YtpdnnndedejlhaaGreatV
open Go
set_option linter.unusedVariables false
set_option linter.unusedSimpArgs false
variable {U : Uni} {P : Program}
def zval : ZC → Value
  | .i k => .int k 0
  | .b => .bool false
  | .n => .slice none 0 0
def eqFs (P : Program) (go : Nat → Nat → Bool) (n : Nat) : List Field → Nat → Bool
  | [], off => Nat.beq off n
  | f :: fs, off => (f.name != "_") && Nat.beq f.offset off && (match P.underlying f.type with
    | some (.int _) => eqFs P go n fs (off + 1)
    | some (.struct _) => (match P.info? f.type with
      | some i => go f.type i.size && eqFs P go n fs (off + i.size)
      | none => false)
    | _ => false)
def eqF (P : Program) : Nat → Nat → Nat → Bool
  | 0, _, _ => false
  | d + 1, t, n => (match P.underlying t with
    | some (.struct fs) => !P.stoodInHeld t && eqFs P (eqF P d) n fs.toList 0
    | _ => false)
def eqOkB (P : Program) (t n : Nat) : Bool := !P.eqGuardType P.depth t && eqF P 8 t n
structure TYok (P : Program) (t : Nat) (T : TY) : Prop where
  inf : ∃ i z, P.info? t = some i ∧ i.size = T.sz ∧ i.bytes = T.by_ ∧ i.zero = some z ∧ z.cells = (T.z.map zval).toArray
  zl : T.z.length = T.sz
  on : match T.d with
    | .int _ => T.sz = 1
    | .bool => T.sz = 1
    | .sl _ => T.sz = 1
    | _ => True
  d : match T.d with
    | .int k => P.underlying t = some (.int k)
    | .bool => P.underlying t = some .bool
    | .str fs => ∃ fields, P.underlying t = some (.struct fields) ∧ fields.toList.map (fun f => (f.offset, f.type)) = fs ∧ ∀ f ∈ fields.toList, ∃ i, P.info? f.type = some i ∧ i.size ≠ 0
    | .sl e => P.underlying t = some (.slice e)
    | .ar n e => P.underlying t = some (.array n e)
    | .oth => True
  eq : T.eq = true → eqOkB P t T.sz = true
structure Plaw (P : Program) (U : Uni) : Prop extends Ulaw U where
  ty : ∀ t T, U.ti t = some T → TYok P t T
section
variable {F : Nat → Prop} {w0 w : World} {L : Lc}
theorem RV.int_inv {k : IntKind} {n : Int} {v : Value} (h : RV U F w0 L (.int k n) v) : v = .int k n := by
  cases h with
  | leaf h => cases h with
    | int => rfl
    | bool hb => simp [boolOf] at hb
theorem RV.bool_inv {c : VV U.D} {b : Bool} {v : Value} (hb : boolOf c = some b) (h : RV U F w0 L c v) : v = .bool b := by
  cases h with
  | leaf h => cases h with
    | bool h2 => rw [hb] at h2; cases h2; rfl
    | _ => simp [boolOf] at hb
  | _ => simp [boolOf] at hb
theorem RV.nil_inv {v : Value} (h : RV U F w0 L .nil v) : v = .slice none 0 0 := by
  cases h with
  | leaf h => cases h with
    | nil => rfl
    | bool hb => simp [boolOf] at hb
theorem RV.tree_inv {k : Nat} {xs : List (U.D k)} {v : Value} (h : RV U F w0 L (.tree k xs) v) : RC U F w0 (.tree k xs) v := by
  cases h with
  | leaf h => exact h
theorem RC.slice {k : Nat} {xs : List (U.D k)} {v : Value} (h : RC U F w (.tree k xs) v) : ∃ A c, v = .slice A xs.length c ∧ xs.length ≤ c := by
  cases h with
  | bool hb => simp [boolOf] at hb
  | tree0 => exact ⟨_, _, rfl, Nat.zero_le _⟩
  | tree vf hc => exact ⟨_, _, rfl, hc⟩
theorem RO.slice {ok : Nat → Prop} {k : Nat} {xs : List (U.D k)} {v : Value} (h : RO U w ok (.tree k xs) v) : ∃ A c, v = .slice A xs.length c ∧ xs.length ≤ c := by
  cases h with
  | bool hb => simp [boolOf] at hb
  | tree0 => exact ⟨_, _, rfl, Nat.zero_le _⟩
  | tree vf hg hh hc => exact ⟨_, _, rfl, hc⟩
def CA (U : Uni) (F : Nat → Prop) (w0 : World) (L : Lc) (w : World) (a : Addr) (cs : List (VV U.D)) : Prop :=
  ∀ (i : Nat) (c : VV U.D), cs[i]? = some c → ∃ v, w.cell? (a.add i) = some v ∧ RV U F w0 L c v ∧ v.oneCell' = true
theorem add_add (a : Addr) (n m : Nat) : (a.add n).add m = a.add (n + m) := by
  unfold Addr.add
  by_cases hn : n = 0
  · subst hn; simp
  · by_cases hm : m = 0
    · subst hm; simp [hn]
    · have : n + m ≠ 0 := by omega
      simp [hn, hm, Nat.add_assoc]
theorem CA.of_arr {g t : Nat} {vs : Array Value} {cs : List (VV U.D)} (hh : w.heap[g]? = some (.cells vs t (0, 0))) (hn : cs.length = vs.size)
    (h : ∀ (i : Nat) (c : VV U.D) (v : Value), cs[i]? = some c → vs[i]? = some v → RV U F w0 L c v ∧ v.oneCell' = true) : CA U F w0 L w ⟨g, 0, none⟩ cs := by
  intro i c hc
  have hi : i < vs.size := by rw [← hn]; exact idx_lt hc
  obtain ⟨h1, h2⟩ := h i c _ hc (Array.getElem?_eq_getElem hi)
  refine ⟨_, ?_, h1, h2⟩
  rw [Addr.add_mid, Nat.zero_add]
  simp [World.cell?, hh, hi]
theorem CA.of_tree (Lw : Ulaw U) {k : Nat} {xs : List (U.D k)} {ad : Addr} {n cap : Nat} (h : RC U F w0 (.tree k xs) (.slice (some ad) n cap)) (hw : Ag F w0 w) {i : Int} (h0 : 0 ≤ i) (h1 : i < xs.length) :
    CA U F w0 L w (ad.add (i.toNat * U.sz k)) (U.cells k (rdE U k xs i)) := by
  intro j c hc
  have hi : i.toNat < xs.length := by omega
  have hx : xs[i.toNat]? = some (rdE U k xs i) := by
    unfold rdE
    rw [List.getD_eq_getElem?_getD, List.getElem?_eq_getElem hi]; rfl
  cases h with
  | tree0 => simp at hi
  | tree vf hcap hF hcell hr =>
    refine ⟨vf i.toNat j, ?_, .leaf (hr _ _ _ _ hx hc), (hr _ _ _ _ hx hc).one⟩
    rw [add_add, cell_ag hw (by rw [add_block]; exact hF)]
    exact hcell _ _ _ _ hx hc
theorem RV.unk {c : VV U.D} {v : Value} (h : RV U F w0 L c v) : RV U F w0 L (YtpdnnndedejlhaaGreatV.unk c) v := by
  cases h with
  | ktree h => exact .leaf h
  | leaf h => cases c <;> first | exact .leaf h | (cases h; rename_i hb; simp [boolOf] at hb)
  | ref κ => exact .ref κ
  | ptr κ j => exact .ptr κ j
  | pbox h1 h2 h3 h4 => exact .pbox h1 h2 h3 h4
  | elt h1 h2 h3 => exact .elt h1 h2 h3
  | oel h1 h2 => exact .oel h1 h2
  | nel h1 h2 h3 h4 => exact .nel h1 h2 h3 h4
  | agg h1 h2 h3 => exact .agg h1 h2 h3
  | arr h1 h2 h3 => exact .arr h1 h2 h3
  | tup h1 h2 => exact .tup h1 h2
  | fn h1 h2 => exact .fn h1 h2
  | junk v => exact .junk v
theorem load_run {t : Nat} {T : TY} (ht : TYok P t T) {a : Addr} {cs : List (VV U.D)} {j : Nat} {c : VV U.D} (h : CA U F w0 L w a cs) (hc : cut T cs j = some c) :
    ∃ v, (Instr.loadAt t (.pointer (some (a.add j)))).run P w = .ok v w ∧ RV U F w0 L c v := by
  obtain ⟨i, z, hi, hs, -, -, -⟩ := ht.inf
  have hd := ht.d
  unfold cut at hc
  cases hb : Nat.ble (j + T.sz) cs.length with
  | false => simp [hb] at hc
  | true =>
    have hle : j + T.sz ≤ cs.length := Nat.le_of_ble_eq_true hb
    simp only [hb, cond_true] at hc
    have agg : ∀ d, P.underlying t = some d → (match d with | .struct _ | .array _ _ => true | _ => false) = true → c = .agg (((cs.drop j).take T.sz).map YtpdnnndedejlhaaGreatV.unk) →
        ∃ v, (Instr.loadAt t (.pointer (some (a.add j)))).run P w = .ok v w ∧ RV U F w0 L c v := by
      intro d hu hag hcc
      subst hcc
      have hcells : ∀ q, q < T.sz → ∃ v, w.cell? ((a.add j).add q) = some v ∧ RV U F w0 L (lget cs (j + q)) v ∧ v.oneCell' = true := by
        intro q hq
        have hlt : j + q < cs.length := by omega
        obtain ⟨v, h1, h2, h3⟩ := h (j + q) cs[j + q] (List.getElem?_eq_getElem hlt)
        refine ⟨v, by rw [add_add]; exact h1, ?_, h3⟩
        unfold lget
        rw [List.getD_eq_getElem?_getD, List.getElem?_eq_getElem hlt]
        exact h2
      have hrun := run_loadCells (P := P) w (a.add j) T.sz (fun q => (w.cell? ((a.add j).add q)).getD undef) (fun q hq => by
        obtain ⟨v, h1, _⟩ := hcells q hq
        rw [h1]; rfl)
      refine ⟨.agg ((List.range T.sz).map fun q => (w.cell? ((a.add j).add q)).getD undef).toArray, ?_, ?_⟩
      · cases d <;> simp at hag <;> simp [Instr.loadAt, Instr.sureAddr, loadVar, isAgg, run_underlying hu, sizeOf, typeInfo, hi, hs, hrun]
      · refine .agg (by simp; omega) (fun q c v hc hv => ?_) (fun q v hv => ?_)
        · have hq : q < T.sz := by
            have := idx_lt hc
            simp at this; omega
          obtain ⟨v', h1, h2, h3⟩ := hcells q hq
          have hv' : v = v' := by simpa [hq, h1] using hv.symm
          have hc' : c = YtpdnnndedejlhaaGreatV.unk (lget cs (j + q)) := by
            unfold lget
            rw [List.getElem?_map, List.getElem?_take, if_pos hq, List.getElem?_drop] at hc
            obtain ⟨c0, hc0, rfl⟩ := Option.map_eq_some_iff.1 hc
            rw [List.getD_eq_getElem?_getD, hc0]; rfl
          rw [hv', hc']; exact h2.unk
        · have hq : q < T.sz := by
            have := (Array.getElem?_eq_some_iff.1 hv).1
            simpa using this
          obtain ⟨v', h1, h2, h3⟩ := hcells q hq
          have hv' : v = v' := by simpa [hq, h1] using hv.symm
          rw [hv']; exact h3
    have one : ∀ d, P.underlying t = some d → (match d with | .struct _ | .array _ _ => true | _ => false) = false → c = YtpdnnndedejlhaaGreatV.unk (lget cs j) → j < cs.length →
        ∃ v, (Instr.loadAt t (.pointer (some (a.add j)))).run P w = .ok v w ∧ RV U F w0 L c v := by
      intro d hu hag hcc hlt
      obtain ⟨v, h1, h2, h3⟩ := h j cs[j] (List.getElem?_eq_getElem hlt)
      refine ⟨v, ?_, ?_⟩
      · cases d <;> simp at hag <;> simp [Instr.loadAt, Instr.sureAddr, loadVar, isAgg, run_underlying hu, load, Sem.run, h1]
      · rw [hcc]; unfold lget
        rw [List.getD_eq_getElem?_getD, List.getElem?_eq_getElem hlt]; exact RV.unk h2
    have hz := ht.on
    cases hT : T.d with
    | str fs =>
      rw [hT] at hc hd
      obtain ⟨fields, hu, -⟩ := hd
      exact agg _ hu rfl (by simpa using hc.symm)
    | ar n e => rw [hT] at hc hd; exact agg _ hd rfl (by simpa using hc.symm)
    | oth => rw [hT] at hc; simp at hc
    | int k => rw [hT] at hc hd hz; exact one _ hd rfl (by simpa using hc.symm) (by simp at hz; omega)
    | bool => rw [hT] at hc hd hz; exact one _ hd rfl (by simpa using hc.symm) (by simp at hz; omega)
    | sl e => rw [hT] at hc hd hz; exact one _ hd rfl (by simpa using hc.symm) (by simp at hz; omega)
end
end Go.Proofs.YtpdnnndedejlhaaGreatV
/- The operations that write nothing. -/
namespace Go.Proofs.YtpdnnndedejlhaaGreatV
open Go
set_option linter.unusedVariables false
set_option linter.unusedSimpArgs false
variable {U : Uni} {P : Program} {R : Type}
theorem ikeq_eq {a b : IntKind} (h : ikeq a b = true) : a = b := by cases a <;> cases b <;> simp [ikeq] at h <;> rfl
theorem vcond_inv {c : VV U.D} {x y : Option R} {r : R} (h : vcond c x y = some r) : ∃ b, boolOf c = some b ∧ (if b then x else y) = some r := by
  cases c <;> simp only [vcond] at h
  case lit b => cases b <;> exact ⟨_, rfl, by simpa using h⟩
  case bv b => exact ⟨b, rfl, h⟩
  case nb b => refine ⟨!b, rfl, ?_⟩; cases b <;> simpa using h
  case bp p d =>
    refine ⟨@decide p d, rfl, ?_⟩
    by_cases hp : p
    · simpa [hp] using h
    · simpa [hp] using h
  case np p d =>
    refine ⟨!@decide p d, rfl, ?_⟩
    by_cases hp : p
    · simpa [hp] using h
    · simpa [hp] using h
  all_goals cases h
theorem cutOf {T : TY} {cs : List (VV U.D)} {j : Nat} {K : VV U.D → Option R} {r : R} (h : (match cut T cs j with | some v => K v | none => none) = some r) : ∃ c, cut T cs j = some c ∧ K c = some r := by
  cases hc : cut T cs j with
  | none => rw [hc] at h; cases h
  | some c => rw [hc] at h; exact ⟨c, rfl, h⟩
section
variable {C : Fr} {L : Lc} {s : St U.D} {a : Act} {w : World} {E : Nat → List (Con U)} {d : Nat} {K : VV U.D → Upd U.D → Option R} {r : R} {o : Oper}
def Gives (P : Program) (U : Uni) (C : Fr) (L : Lc) (o : Oper) (a : Act) (w : World) (c : VV U.D) : Prop := ∃ v, (execOp a.eval o).run P w = .ok (.value v) w ∧ RV U C.F C.w0 L c v
theorem MRel.ag {m : Mem U.D} (h : MRel U C L m w) : Ag C.F C.w0 w := fun b hb => (h.g0 b (h.fg b hb)).2.2
theorem p_move (hR : Rel U C L s a w) {x : Operand} (ho : o.op = .move x ∨ o.op = .assign x) (hk : opOk x = true) : Gives P U C L o a w (ev s.t x) := by
  refine ⟨a.eval x, ?_, hR.ev x hk⟩
  rcases ho with ho | ho <;> simp [execOp, ho, Sem.run]
theorem p_pick (hR : Rel U C L s a w) {x y z : Operand} (ho : o.op = .pick x y z) (hx : opOk x = true) (hy : opOk y = true) (hz : opOk z = true)
    (h : Vop U E (.pick x y z) d (ev s.t) s.m K = some r) : ∃ c, K c [] = some r ∧ Gives P U C L o a w c := by
  simp only [Vop] at h
  obtain ⟨b, hb, h⟩ := vcond_inv h
  have hv := RV.bool_inv hb (hR.ev x hx)
  cases b with
  | true => exact ⟨_, by simpa using h, a.eval y, by simp [execOp, ho, Sem.run, hv, asBool], hR.ev y hy⟩
  | false => exact ⟨_, by simpa using h, a.eval z, by simp [execOp, ho, Sem.run, hv, asBool], hR.ev z hz⟩
theorem RV.ptr_inv {F : Nat → Prop} {w0 : World} {κ j : Nat} {v : Value} (h : RV U F w0 L (.ptr κ j) v) : v = .pointer (some ⟨L.bg κ, j, none⟩) := by
  cases h with
  | leaf h => cases h with
    | bool hb => simp [boolOf] at hb
  | ptr => rfl
theorem RV.ref_inv {F : Nat → Prop} {w0 : World} {κ : Nat} {v : Value} (h : RV U F w0 L (.ref κ) v) : v = L.rv κ := by
  cases h with
  | leaf h => cases h with
    | bool hb => simp [boolOf] at hb
  | ref => rfl
theorem RV.oel_inv {F : Nat → Prop} {w0 : World} {κ j : Nat} {i : Int} {v : Value} (h : RV U F w0 L (.oel κ i j) v) : v = .pointer (some ⟨L.bg κ, L.bo κ + (i.toNat * L.bs κ + j), none⟩) ∧ 0 ≤ i ∧ i < L.bn κ := by
  cases h with
  | leaf h => cases h with
    | bool hb => simp [boolOf] at hb
  | oel h0 h1 => exact ⟨rfl, h0, h1⟩
theorem RV.elt_inv {F : Nat → Prop} {w0 : World} {k j : Nat} {xs : List (U.D k)} {i : Int} {v : Value} (h : RV U F w0 L (.elt k xs i j) v) :
    ∃ ad cap, v = .pointer (some (ad.add (i.toNat * U.sz k + j))) ∧ RC U F w0 (.tree k xs) (.slice (some ad) xs.length cap) ∧ 0 ≤ i ∧ i < xs.length := by
  cases h with
  | leaf h => cases h with
    | bool hb => simp [boolOf] at hb
  | elt h h0 h1 => exact ⟨_, _, rfl, h, h0, h1⟩
theorem RV.pbox_inv {F : Nat → Prop} {w0 : World} {t j : Nat} {cs : List (VV U.D)} {v : Value} (h : RV U F w0 L (.pbox t cs j) v) :
    ∃ b vs, v = .pointer (some ⟨b, j, none⟩) ∧ F b ∧ w0.heap[b]? = some (.cells vs t (0, 0)) ∧ cs.length = vs.size ∧ ∀ (i : Nat) (c : VV U.D) (v : Value), cs[i]? = some c → vs[i]? = some v → RC U F w0 c v := by
  cases h with
  | leaf h => cases h with
    | bool hb => simp [boolOf] at hb
  | pbox hF h hn hl => exact ⟨_, _, rfl, hF, h, hn, hl⟩
theorem RV.agg_inv {F : Nat → Prop} {w0 : World} {cs : List (VV U.D)} {v : Value} (h : RV U F w0 L (.agg cs) v) :
    ∃ vs, v = .agg vs ∧ cs.length = vs.size ∧ (∀ (i : Nat) (c : VV U.D) (v : Value), cs[i]? = some c → vs[i]? = some v → RV U F w0 L c v) ∧ ∀ (i : Nat) (v : Value), vs[i]? = some v → v.oneCell' = true := by
  cases h with
  | leaf h => cases h with
    | bool hb => simp [boolOf] at hb
  | agg hn h h1 => exact ⟨_, rfl, hn, h, h1⟩
theorem RV.arr_inv {F : Nat → Prop} {w0 : World} {n k : Nat} {xs : List (U.D k)} {v : Value} (h : RV U F w0 L (.arr n k xs) v) :
    ∃ vs, v = .agg vs ∧ xs.length = n ∧ xs.length = vs.size ∧ ∀ (i : Nat) (x : U.D k) (v : Value), xs[i]? = some x → vs[i]? = some v → ∃ c, U.cells k x = [c] ∧ Scal c v := by
  cases h with
  | leaf h => cases h with
    | bool hb => simp [boolOf] at hb
  | arr hl hn h => exact ⟨_, rfl, hl, hn, h⟩
theorem RV.tup_inv {F : Nat → Prop} {w0 : World} {cs : List (VV U.D)} {v : Value} (h : RV U F w0 L (.tup cs) v) :
    ∃ vs, v = .tuple vs ∧ cs.length = vs.size ∧ ∀ (i : Nat) (c : VV U.D) (v : Value), cs[i]? = some c → vs[i]? = some v → RV U F w0 L c v := by
  cases h with
  | leaf h => cases h with
    | bool hb => simp [boolOf] at hb
  | tup hn h => exact ⟨_, rfl, hn, h⟩
theorem RV.fn_inv {F : Nat → Prop} {w0 : World} {f : Nat} {cs : List (VV U.D)} {v : Value} (h : RV U F w0 L (.fn f cs) v) :
    ∃ vs, v = .func (.func f) #[] vs ∧ cs.length = vs.size ∧ ∀ (i : Nat) (c : VV U.D) (v : Value), cs[i]? = some c → vs[i]? = some v → RV U F w0 L c v := by
  cases h with
  | leaf h => cases h with
    | bool hb => simp [boolOf] at hb
  | fn hn h => exact ⟨_, rfl, hn, h⟩
theorem add0 (g j : Nat) : (⟨g, j, none⟩ : Addr) = (⟨g, 0, none⟩ : Addr).add j := by rw [Addr.add_mid, Nat.zero_add]
theorem ptrCells (hR : MRel U C L s.m w) {v : Value} {κ j t : Nat} {cs : List (VV U.D)} (hv : RV U C.F C.w0 L (.ptr κ j) v) (hm : mget s.m κ = some (.box t cs)) :
    v = .pointer (some ((⟨L.bg κ, 0, none⟩ : Addr).add j)) ∧ CA U C.F C.w0 L w ⟨L.bg κ, 0, none⟩ cs := by
  obtain ⟨-, vs, hh, hn, hl⟩ := hR.me κ _ hm
  exact ⟨by rw [hv.ptr_inv, add0], CA.of_arr hh hn hl⟩
theorem pboxCells (hR : MRel U C L s.m w) {v : Value} {t j : Nat} {cs : List (VV U.D)} (hv : RV U C.F C.w0 L (.pbox t cs j) v) :
    ∃ b, v = .pointer (some ((⟨b, 0, none⟩ : Addr).add j)) ∧ CA U C.F C.w0 L w ⟨b, 0, none⟩ cs := by
  obtain ⟨b, vs, rfl, hF, h, hn, hl⟩ := hv.pbox_inv
  exact ⟨b, by rw [add0], CA.of_arr ((hR.ag b hF).trans h) hn (fun i c v hc hv => ⟨.leaf (hl i c v hc hv), (hl i c v hc hv).one⟩)⟩
theorem eltCells (PL : Plaw P U) (hR : MRel U C L s.m w) {v : Value} {k j : Nat} {xs : List (U.D k)} {i : Int} (hv : RV U C.F C.w0 L (.elt k xs i j) v) :
    ∃ ad : Addr, v = .pointer (some (ad.add j)) ∧ CA U C.F C.w0 L w ad (U.cells k (rdE U k xs i)) := by
  obtain ⟨ad, cap, rfl, h, h0, h1⟩ := hv.elt_inv
  exact ⟨ad.add (i.toNat * U.sz k), by rw [add_add], CA.of_tree PL.toUlaw h hR.ag h0 h1⟩
theorem rd_some {k : Nat} {xs : List (U.D k)} {i : Int} (h0 : 0 ≤ i) (h1 : i < xs.length) : xs[i.toNat]? = some (rdE U k xs i) := by
  unfold rdE
  rw [List.getD_eq_getElem?_getD, List.getElem?_eq_getElem (show i.toNat < xs.length by omega)]; rfl
theorem Scal.rv {F : Nat → Prop} {w0 : World} {c : VV U.D} {v : Value} (h : Scal c v) : RV U F w0 L c v ∧ v.oneCell' = true := by
  rcases h with ⟨b, hb, rfl⟩ | ⟨k, n, rfl, rfl⟩
  · exact ⟨.leaf (.bool hb), rfl⟩
  · exact ⟨.leaf (.int _ _), rfl⟩
theorem RO.rv (PL : Ulaw U) {c : VV U.D} {ok : Nat → Prop} {v : Value} (h : RO U w ok c v) (hc : match c with | .tree _ _ => False | .ktree _ _ => False | _ => True) {F : Nat → Prop} {w0 : World} : RV U F w0 L c v := by
  cases h with
  | int => exact .leaf (.int _ _)
  | bool hb => exact .leaf (.bool hb)
  | nil => exact .leaf .nil
  | tree0 => exact hc.elim
  | tree => exact hc.elim
theorem oelRow' (PL : Plaw P U) {v : Value} {κ j k : Nat} {xs : List (U.D k)} {i : Int} (hv : RV U C.F C.w0 L (.oel κ i j) v) (hm : BR U C.F C.w0 w L κ (.row k xs)) :
    ∃ ad : Addr, v = .pointer (some (ad.add j)) ∧ CA U C.F C.w0 L w ad ((U.cells k (rdE U k xs i)).map shal) := by
  obtain ⟨rfl, h0, h1⟩ := hv.oel_inv
  obtain ⟨hro, hbn, hpos⟩ := hm
  rw [hbn] at h1
  have hbs : L.bs κ = U.sz k := by
    generalize hrv : L.rv κ = rv at hro hpos
    cases hro with
    | bool hb => simp [boolOf] at hb
    | tree0 => simp at h1; omega
    | tree => exact (hpos _ _ _ _ rfl).2.2
  refine ⟨⟨L.bg κ, L.bo κ + i.toNat * U.sz k, none⟩, by rw [Addr.add_mid, hbs, Nat.add_assoc], ?_⟩
  intro q c hc
  rw [List.getElem?_map] at hc
  obtain ⟨c', hc', rfl⟩ := Option.map_eq_some_iff.1 hc
  have hx := rd_some h0 h1
  generalize hrv : L.rv κ = rv at hro hpos
  cases hro with
  | bool hb => simp [boolOf] at hb
  | tree0 => simp at h1; omega
  | @tree _ _ _ g o cap cur f hg hh hcap hkk hsz hr =>
    obtain ⟨e1, e2, -⟩ := hpos _ _ _ _ rfl
    have hq := cell_lt PL.toUlaw hc'
    have h3 := mul_fit (idx_lt hx) hq
    have h4 : xs.length * U.sz k ≤ cap * U.sz k := Nat.mul_le_mul_right _ hcap
    have h5 := hr _ _ _ _ hx hc'
    refine ⟨cur.getD (o + (i.toNat * U.sz k + q)) (.bool false), ?_, ?_, h5.one⟩
    · rw [Addr.add_mid, e1, e2, Nat.add_assoc]
      exact cell_of hh (by omega)
    · cases c' with
      | tree k' ys => exact .junk _
      | ktree k' ys => exact .junk _
      | _ => exact h5.rv PL.toUlaw trivial
theorem oelRow (PL : Plaw P U) (hR : MRel U C L s.m w) {v : Value} {κ j k : Nat} {xs : List (U.D k)} {i : Int} (hv : RV U C.F C.w0 L (.oel κ i j) v) (hm : mget s.m κ = some (.row k xs)) :
    ∃ ad : Addr, v = .pointer (some (ad.add j)) ∧ CA U C.F C.w0 L w ad ((U.cells k (rdE U k xs i)).map shal) := oelRow' PL hv (hR.me κ _ hm)
theorem oelNest (PL : Plaw P U) {v : Value} {κ j k k' : Nat} {xs : List (U.D k)} {ys : List (U.D k')} {i : Int} (hv : RV U C.F C.w0 L (.oel κ i j) v) (hm : BR U C.F C.w0 w L κ (.krow k xs)) (hj : (U.cells k (rdE U k xs i))[j]? = some (.tree k' ys)) :
    ∃ ad u, v = .pointer (some ad) ∧ w.cell? ad = some u ∧ RV U C.F C.w0 L (.nel κ i j) u := by
  obtain ⟨rfl, h0, h1⟩ := hv.oel_inv
  obtain ⟨⟨hro, hbn, hpos⟩, hhd⟩ := hm
  have h1' := h1
  rw [hbn] at h1
  have hx := rd_some h0 h1
  have hbs : L.bs κ = U.sz k := by
    generalize hrv : L.rv κ = rv at hro hpos
    cases hro with
    | bool hb => simp [boolOf] at hb
    | tree0 => simp at h1; omega
    | tree => exact (hpos _ _ _ _ rfl).2.2
  have hh := hhd i.toNat _ j k' ys hx hj
  generalize hrv : L.rv κ = rv at hro hpos
  cases hro with
  | bool hb => simp [boolOf] at hb
  | tree0 => simp at h1; omega
  | @tree _ _ _ g o cap cur f hg hhe hcap hkk hsz hr =>
    obtain ⟨e1, e2, -⟩ := hpos _ _ _ _ rfl
    have hq := cell_lt PL.toUlaw hj
    have h3 := mul_fit (idx_lt hx) hq
    have h4 : xs.length * U.sz k ≤ cap * U.sz k := Nat.mul_le_mul_right _ hcap
    have h5 := hr _ _ _ _ hx hj
    have hc : w.cell? ⟨L.bg κ, L.bo κ + (i.toNat * L.bs κ + j), none⟩ = some (cur.getD (o + (i.toNat * U.sz k + j)) (.bool false)) := by
      rw [e1, e2, hbs]; exact cell_of hhe (by omega)
    exact ⟨_, _, rfl, hc, .nel h0 h1' (by rw [← hh]; exact hc) h5.one⟩
theorem oelArr (PL : Plaw P U) (hR : MRel U C L s.m w) {v : Value} {κ j t n k : Nat} {xs : List (U.D k)} {i : Int} (hv : RV U C.F C.w0 L (.oel κ i j) v) (hm : mget s.m κ = some (.arr t n k xs)) :
    ∃ ad : Addr, v = .pointer (some (ad.add j)) ∧ CA U C.F C.w0 L w ad (U.cells k (rdE U k xs i)) := by
  obtain ⟨rfl, h0, h1⟩ := hv.oel_inv
  obtain ⟨-, hbo, hbs, hbn, hl, hsz, vs, hh, hn, hs⟩ := hR.me κ _ hm
  rw [hbn, ← hl] at h1
  refine ⟨⟨L.bg κ, L.bo κ + i.toNat, none⟩, by rw [Addr.add_mid, hbs, Nat.mul_one, Nat.add_assoc], ?_⟩
  intro q c hc
  have hx := rd_some h0 h1
  have hi : i.toNat < vs.size := by have := idx_lt hx; omega
  obtain ⟨c0, e0, hsc⟩ := hs _ _ _ hx (Array.getElem?_eq_getElem hi)
  rw [e0] at hc
  cases q with
  | succ q => simp at hc
  | zero =>
    have : c0 = c := by simpa using hc
    subst this
    obtain ⟨h1, h2⟩ := hsc.rv (L := L) (F := C.F) (w0 := C.w0)
    refine ⟨_, ?_, h1, h2⟩
    rw [Addr.add_mid, hbo, Nat.zero_add, Nat.add_zero]
    simp [World.cell?, hh, hi]
end
end Go.Proofs.YtpdnnndedejlhaaGreatV
/- The operations that write nothing, one by one. -/
namespace Go.Proofs.YtpdnnndedejlhaaGreatV
open Go
set_option linter.unusedVariables false
set_option linter.unusedSimpArgs false
variable {U : Uni} {P : Program} {R : Type}
section
variable {C : Fr} {L : Lc} {s : St U.D} {a : Act} {w : World} {E : Nat → List (Con U)} {d : Nat} {K : VV U.D → Upd U.D → Option R} {r : R} {o : Oper}
theorem p_load (PL : Plaw P U) (hR : Rel U C L s a w) {t : Nat} {x : Operand} (ho : o.op = .load t x) (hx : opOk x = true)
    (h : Vop U E (.load t x) d (ev s.t) s.m K = some r) : ∃ c, K c [] = some r ∧ Gives P U C L o a w c := by
  have hv := hR.ev x hx
  simp only [Vop] at h
  cases hT : U.ti t with
  | none => rw [hT] at h; cases h
  | some T =>
    have ht := PL.ty t T hT
    rw [hT] at h
    have fin : ∀ {ad : Addr} {cs : List (VV U.D)} {j : Nat}, a.eval x = .pointer (some (ad.add j)) → CA U C.F C.w0 L w ad cs → (match cut T cs j with | some v => K v [] | none => none) = some r →
        ∃ c, K c [] = some r ∧ Gives P U C L o a w c := by
      intro ad cs j he hca hh
      obtain ⟨c, hc, hK⟩ := cutOf (K := fun v => K v []) hh
      obtain ⟨v, h1, h2⟩ := load_run ht hca hc
      exact ⟨c, hK, v, by simp [execOp, ho, Sem.run, he, h1], h2⟩
    generalize hc : YtpdnnndedejlhaaGreatV.ev s.t x = c at h hv
    cases c <;> try (cases h)
    case ptr κ j =>
      simp only at h
      cases hm : mget s.m κ with
      | none => rw [hm] at h; cases h
      | some b =>
        rw [hm] at h
        cases b with
        | box t' cs => obtain ⟨h1, h2⟩ := ptrCells hR.toMRel hv hm; exact fin h1 h2 h
        | row => cases h
        | krow => cases h
        | hole => cases h
        | brow => cases h
        | arr => cases h
    case pbox t' cs j => obtain ⟨b, h1, h2⟩ := pboxCells hR.toMRel hv; exact fin h1 h2 h
    case elt k xs i j => obtain ⟨ad, h1, h2⟩ := eltCells PL hR.toMRel hv; exact fin h1 h2 h
    case oel κ i j =>
      simp only at h
      cases hm : mget s.m κ with
      | none => rw [hm] at h; cases h
      | some b =>
        rw [hm] at h
        cases b with
        | box => cases h
        | row k xs => obtain ⟨ad, h1, h2⟩ := oelRow PL hR.toMRel hv hm; exact fin h1 h2 h
        | hole => cases h
        | brow => cases h
        | krow k xs =>
          simp only at h
          cases hsl : isSl T with
          | false =>
            rw [hsl] at h
            obtain ⟨ad, h1, h2⟩ := oelRow' PL hv (hR.me κ _ hm).1
            exact fin h1 h2 h
          | true =>
            rw [hsl] at h
            simp only [cond_true] at h
            generalize hlg : lget (U.cells k (rdE U k xs i)) j = cc at h
            cases cc <;> try (cases h)
            case tree k' ys =>
              have hj : (U.cells k (rdE U k xs i))[j]? = some (.tree k' ys) := by
                unfold lget at hlg
                rw [List.getD_eq_getElem?_getD] at hlg
                cases hq : (U.cells k (rdE U k xs i))[j]? with
                | none => rw [hq] at hlg; cases hlg
                | some y => rw [hq] at hlg; simp only [Option.getD_some] at hlg; rw [hlg]
              obtain ⟨ad, u, e, hc, hu⟩ := oelNest PL hv (hR.me κ _ hm) hj
              have hd := ht.d
              unfold isSl at hsl
              cases hTd : T.d <;> rw [hTd] at hsl <;> try (cases hsl; done)
              case sl e' =>
                rw [hTd] at hd
                simp only at hd
                exact ⟨_, h, u, by simp [execOp, ho, Sem.run, e, Instr.loadAt, Instr.sureAddr, loadVar, isAgg, run_underlying hd, load, hc], hu⟩
        | arr t' n k xs => obtain ⟨ad, h1, h2⟩ := oelArr PL hR.toMRel hv hm; exact fin h1 h2 h
theorem p_nilCheck (hR : Rel U C L s a w) {x : Operand} (ho : o.op = .nilCheck x) (hx : opOk x = true) (h : Vop U E (.nilCheck x) d (ev s.t) s.m K = some r) :
    ∃ c, K c [] = some r ∧ Gives P U C L o a w c := by
  have hv := hR.ev x hx
  simp only [Vop] at h
  generalize hc : YtpdnnndedejlhaaGreatV.ev s.t x = c at h hv
  cases c <;> try (cases h)
  case ptr κ j => exact ⟨_, h, a.eval x, by simp [execOp, ho, Sem.run, hv.ptr_inv], hv⟩
  case pbox t cs j =>
    obtain ⟨b, vs, e, -⟩ := hv.pbox_inv
    exact ⟨_, h, a.eval x, by simp [execOp, ho, Sem.run, e], hv⟩
theorem cmpI_run {op : BinOp} {x y : Int} {c : VV U.D} (h : cmpI op x y = some c) : ∃ b, boolOf c = some b ∧ (Op.intCmp op x y).run P w = .ok (.bool b) w := by
  cases op <;> simp only [cmpI] at h <;> cases h <;> exact ⟨_, rfl, rfl⟩
theorem wrapK_eq (k : IntKind) (n : Int) : wrapK k n = k.wrap n := by
  cases k <;> try rfl
  show RowKit.wrap64 n = _
  rw [IntKind.wrap_i64]; rfl
theorem ariI_run {op : BinOp} {t : Nat} {k : IntKind} {x y : Int} {K : VV U.D → Option R} (h : ariI op k x y K = some r) (h1 : op ≠ .shl) (h2 : op ≠ .shr) :
    ∃ c v, K c = some r ∧ (binOp op t (.int k x) (.int k y)).run P w = .ok v w ∧ ∀ F w0 L, RV U F w0 L c v := by
  have cmp : ∀ c, cmpI op x y = some c → K c = some r → binOp op t (.int k x) (.int k y) = Op.intCmp op x y → ∃ c v, K c = some r ∧ (binOp op t (.int k x) (.int k y)).run P w = .ok v w ∧ ∀ F w0 L, RV U F w0 L c v := by
    intro c hc hK he
    obtain ⟨b, hb, hr⟩ := cmpI_run (P := P) (w := w) hc
    exact ⟨c, _, hK, by rw [he]; exact hr, fun F w0 L => .leaf (.bool hb)⟩
  cases op <;> simp only [ariI] at h
  case add => exact ⟨_, .int k (k.wrap (x + y)), h, by simp [binOp, Op.intArith, Sem.run], fun F w0 L => by rw [wrapK_eq]; exact .leaf (.int _ _)⟩
  case sub => exact ⟨_, .int k (k.wrap (x - y)), h, by simp [binOp, Op.intArith, Sem.run], fun F w0 L => by rw [wrapK_eq]; exact .leaf (.int _ _)⟩
  case mul => exact ⟨_, .int k (k.wrap (x * y)), h, by simp [binOp, Op.intArith, Sem.run], fun F w0 L => by rw [wrapK_eq]; exact .leaf (.int _ _)⟩
  case quo =>
    split at h
    · cases h
    · rename_i hy; exact ⟨_, .int k (k.wrap (x.tdiv y)), h, by simp [binOp, Op.intDiv, Sem.run, hy], fun F w0 L => by rw [wrapK_eq]; exact .leaf (.int _ _)⟩
  case rem =>
    split at h
    · cases h
    · rename_i hy; exact ⟨_, _, h, by simp [binOp, Op.intDiv, Sem.run, hy], fun F w0 L => .leaf (.int _ _)⟩
  case and => exact ⟨_, _, h, by simp [binOp, Op.intBits, Sem.run], fun F w0 L => .leaf (.int _ _)⟩
  case or => exact ⟨_, _, h, by simp [binOp, Op.intBits, Sem.run], fun F w0 L => .leaf (.int _ _)⟩
  case xor => exact ⟨_, _, h, by simp [binOp, Op.intBits, Sem.run], fun F w0 L => .leaf (.int _ _)⟩
  case shl => exact absurd rfl h1
  case shr => exact absurd rfl h2
  all_goals first
    | (simp only [cmpI] at h; cases h)
    | exact cmp _ rfl h (by simp [binOp])
theorem ikeq_eq' {k k' : IntKind} (h : ikeq k k' = true) : k = k' := by cases k <;> cases k' <;> first | rfl | cases h
theorem eqs_int {F : Nat → Prop} {w0 : World} : ∀ (as bs : List (VV U.D)) (c : VV U.D), eqs as bs = some c → ∀ (xs ys : List Value), as.length = xs.length → bs.length = ys.length → (∀ (i : Nat) (c : VV U.D) (v : Value), as[i]? = some c → xs[i]? = some v → RV U F w0 L c v) → (∀ (i : Nat) (c : VV U.D) (v : Value), bs[i]? = some c → ys[i]? = some v → RV U F w0 L c v) →
    ∃ (l : List (IntKind × Int × Int)), l ≠ [] ∧ xs = l.map (fun p => .int p.1 p.2.1) ∧ ys = l.map (fun p => .int p.1 p.2.2) ∧ boolOf c = some (l.all fun p => p.2.1 == p.2.2)
  | [], bs, c, h => by unfold eqs at h; cases h
  | a :: as, [], c, h => by unfold eqs at h; cases h
  | a :: as, b :: bs, c, h => by
    intro xs ys h1 h2 h3 h4
    cases xs with
    | nil => simp at h1
    | cons x xs =>
      cases ys with
      | nil => simp at h2
      | cons y ys =>
        unfold eqs at h
        have e1 := h3 0 a x rfl rfl
        have e2 := h4 0 b y rfl rfl
        cases a <;> try (cases h)
        case int k n =>
          simp only at h
          cases b <;> try (cases h)
          case int k' n' =>
            simp only at h
            cases hk : ikeq k k' with
            | false => rw [hk] at h; cases h
            | true =>
              have := ikeq_eq' hk
              subst this
              rw [hk] at h
              simp only [cond_true] at h
              have e1 := e1.int_inv
              have e2 := e2.int_inv
              subst e1 e2
              cases as with
              | nil =>
                cases bs with
                | cons _ _ => cases h
                | nil =>
                  simp only at h
                  cases h
                  have : xs = [] := List.eq_nil_of_length_eq_zero (by simpa using h1.symm)
                  subst this
                  have : ys = [] := List.eq_nil_of_length_eq_zero (by simpa using h2.symm)
                  subst this
                  refine ⟨[(k, n, n')], by simp, rfl, rfl, ?_⟩
                  simp only [boolOf, List.all_cons, List.all_nil, Bool.and_true]
                  congr 1
              | cons a2 as =>
                simp only at h
                cases hr : eqs (a2 :: as) bs with
                | none => rw [hr] at h; cases h
                | some c' =>
                  rw [hr] at h
                  cases c' <;> try (cases h; done)
                  case bp p dp =>
                    obtain ⟨l, g0, g1, g2, g3⟩ := eqs_int (a2 :: as) bs _ hr xs ys (by simpa using h1) (by simpa using h2) (fun i c v hc hv => h3 (i + 1) c v (by simpa using hc) (by simpa using hv)) (fun i c v hc hv => h4 (i + 1) c v (by simpa using hc) (by simpa using hv))
                    cases h
                    simp only [boolOf, Option.some.injEq] at g3
                    refine ⟨(k, n, n') :: l, by simp, by rw [g1]; rfl, by rw [g2]; rfl, ?_⟩
                    simp only [boolOf, List.all_cons, ← g3]
                    congr 1
                    by_cases q1 : n = n' <;> simp [q1]
theorem ext_map {α : Type} (g : α → Value) (l : List α) (i n : Nat) : (l.map g).toArray.extract i (i + n) = (((l.drop i).take n).map g).toArray := by
  apply Array.ext'
  rw [Array.toList_extract]
  simp [List.extract, List.map_drop, List.map_take]
theorem eqFields_run {D : Nat} {go : Nat → Nat → Bool} {A : List (IntKind × Int × Int)} (hgo : ∀ (t n : Nat) (l : List (IntKind × Int × Int)) (w : World), go t n = true → l.length = n → (Op.equalIn (D + 1) t (.agg (l.map (fun p => Value.int p.1 p.2.1)).toArray) (.agg (l.map (fun p => Value.int p.1 p.2.2)).toArray)).run P w = .ok (l.all fun p => p.2.1 == p.2.2) w) :
    ∀ (fs : List Field) (j : Nat) (w : World), eqFs P go A.length fs j = true → (Op.eqFields (D + 1) (A.map (fun p => Value.int p.1 p.2.1)).toArray (A.map (fun p => Value.int p.1 p.2.2)).toArray fs).run P w = .ok ((A.drop j).all fun p => p.2.1 == p.2.2) w
  | [], j, w, h => by
    simp only [eqFs] at h
    have := Nat.eq_of_beq_eq_true h
    subst this
    simp [Op.eqFields]
  | f :: fs, j, w, h => by
    simp only [eqFs, Bool.and_eq_true] at h
    obtain ⟨⟨hn, ho⟩, h⟩ := h
    have ho := Nat.eq_of_beq_eq_true ho
    have hn' : f.name ≠ "_" := by simpa using hn
    cases hu : P.underlying f.type with
    | none => rw [hu] at h; cases h
    | some dd =>
      rw [hu] at h
      cases dd <;> try (cases h; done)
      case int k =>
        simp only at h
        have ih := eqFields_run hgo fs (j + 1) w h
        have hj : j < A.length := by
          have key : ∀ (fs : List Field) (j : Nat), eqFs P go A.length fs j = true → j ≤ A.length := by
            intro fs
            induction fs with
            | nil => intro j h; have := Nat.eq_of_beq_eq_true (show Nat.beq j A.length = true from h); omega
            | cons f fs ih =>
              intro j h
              simp only [eqFs, Bool.and_eq_true] at h
              cases hu : P.underlying f.type with
              | none => rw [hu] at h; exact absurd h.2 (by simp)
              | some dd =>
                rw [hu] at h
                have h2 := h.2
                cases dd <;> try (cases h2; done)
                case int k => have := ih _ h2; omega
                case struct ff =>
                  simp only at h2
                  cases hi : P.info? f.type with
                  | none => rw [hi] at h2; cases h2
                  | some i => rw [hi] at h2; simp only [Bool.and_eq_true] at h2; have := ih _ h2.2; omega
          have := key _ _ h
          omega
        have hx : A[j]? = some A[j] := List.getElem?_eq_getElem hj
        generalize A[j] = p at hx
        have px : (part f.type (A.map (fun p => Value.int p.1 p.2.1)).toArray f.offset).run P w = .ok (.int p.1 p.2.1) w := by
          rw [ho]; simp [part, isAgg, run_underlying hu, hx]
        have py : (part f.type (A.map (fun p => Value.int p.1 p.2.2)).toArray f.offset).run P w = .ok (.int p.1 p.2.2) w := by
          rw [ho]; simp [part, isAgg, run_underlying hu, hx]
        have hd : A.drop j = p :: A.drop (j + 1) := by
          rw [List.drop_eq_getElem_cons hj]
          rw [List.getElem?_eq_getElem hj] at hx
          rw [Option.some.inj hx]
        rw [Op.eqFields, hd]
        simp only [if_pos hn', Sem.run_bind, px, py, run_equalIn_int w D f.type p.1 k p.2.1 p.2.2 hu, Result.andThen_ok, ih, List.all_cons]
        cases hq : (p.2.1 == p.2.2)
        · simp
        · simpa using ih
      case struct ff =>
        simp only at h
        cases hi : P.info? f.type with
        | none => rw [hi] at h; cases h
        | some i =>
          rw [hi] at h
          simp only [Bool.and_eq_true] at h
          have ih := eqFields_run hgo fs (j + i.size) w h.2
          have hle : j + i.size ≤ A.length := by
            have key : ∀ (fs : List Field) (j : Nat), eqFs P go A.length fs j = true → j ≤ A.length := by
              intro fs
              induction fs with
              | nil => intro j h; have := Nat.eq_of_beq_eq_true (show Nat.beq j A.length = true from h); omega
              | cons f fs ih =>
                intro j h
                simp only [eqFs, Bool.and_eq_true] at h
                cases hu : P.underlying f.type with
                | none => rw [hu] at h; exact absurd h.2 (by simp)
                | some dd =>
                  rw [hu] at h
                  have h2 := h.2
                  cases dd <;> try (cases h2; done)
                  case int k => have := ih _ h2; omega
                  case struct ff =>
                    simp only at h2
                    cases hi : P.info? f.type with
                    | none => rw [hi] at h2; cases h2
                    | some i => rw [hi] at h2; simp only [Bool.and_eq_true] at h2; have := ih _ h2.2; omega
            exact key _ _ h.2
          have px : (part f.type (A.map (fun p => Value.int p.1 p.2.1)).toArray f.offset).run P w = .ok (.agg (((A.drop j).take i.size).map (fun p => Value.int p.1 p.2.1)).toArray) w := by
            rw [ho, ← ext_map]; simp [part, isAgg, run_underlying hu, sizeOf, typeInfo, hi, Sem.run]
          have py : (part f.type (A.map (fun p => Value.int p.1 p.2.2)).toArray f.offset).run P w = .ok (.agg (((A.drop j).take i.size).map (fun p => Value.int p.1 p.2.2)).toArray) w := by
            rw [ho, ← ext_map]; simp [part, isAgg, run_underlying hu, sizeOf, typeInfo, hi, Sem.run]
          have e := hgo f.type i.size ((A.drop j).take i.size) w h.1 (by rw [List.length_take, List.length_drop]; omega)
          have hd : (A.drop j).all (fun p => p.2.1 == p.2.2) = (((A.drop j).take i.size).all (fun p => p.2.1 == p.2.2) && (A.drop (j + i.size)).all (fun p => p.2.1 == p.2.2)) := by
            rw [← List.all_append]
            congr 1
            rw [← List.drop_drop, List.take_append_drop]
          rw [Op.eqFields, hd]
          simp only [if_pos hn', Sem.run_bind, px, py, e, Result.andThen_ok]
          cases hq : ((A.drop j).take i.size).all (fun p => p.2.1 == p.2.2)
          · simp
          · simpa using ih
theorem eqF_run : ∀ (d t n D : Nat) (l : List (IntKind × Int × Int)) (w : World), d ≤ D → eqF P d t n = true → l.length = n → (Op.equalIn (D + 1) t (.agg (l.map (fun p => Value.int p.1 p.2.1)).toArray) (.agg (l.map (fun p => Value.int p.1 p.2.2)).toArray)).run P w = .ok (l.all fun p => p.2.1 == p.2.2) w
  | 0, t, n, D, l, w, _, h, _ => by cases h
  | d + 1, t, n, D, l, w, hD, h, hl => by
    simp only [eqF] at h
    cases hu : P.underlying t with
    | none => rw [hu] at h; cases h
    | some dd =>
      rw [hu] at h
      cases dd <;> try (cases h; done)
      case struct fs =>
        simp only [Bool.and_eq_true, Bool.not_eq_true'] at h
        have hfo : P.fieldsOf t = fs := by simp [Program.fieldsOf, hu]
        obtain ⟨D, rfl⟩ : ∃ q, D = q + 1 := ⟨D - 1, by omega⟩
        rw [run_equalIn_struct (P := P) w (D + 1) t _ _ (by rw [hfo]; exact hu) h.1, hfo]
        subst hl
        have := eqFields_run (P := P) (D := D) (go := eqF P d) (A := l) (fun t n l w h hl => eqF_run d t n D l w (by omega) h hl) fs.toList 0 w h.2
        simpa using this
theorem eqA_run (PL : Plaw P U) {F : Nat → Prop} {w0 : World} {t : Nat} {op : BinOp} {cx cy : VV U.D} {K : VV U.D → Option R} {r : R} {vx vy : Value} {x y : Operand} (h : eqA U t op cx cy K = some r) (hx : RV U F w0 L cx vx) (hy : RV U F w0 L cy vy) :
    ∃ c b, K c = some r ∧ boolOf c = some b ∧ (eqGuard op t x y vx vy).run P w = .ok () w ∧ (binOp op t vx vy).run P w = .ok (.bool b) w := by
  unfold eqA at h
  cases hT : U.ti t with
  | none => rw [hT] at h; cases h
  | some T =>
    rw [hT] at h
    simp only at h
    cases he : T.eq with
    | false => rw [he] at h; cases h
    | true =>
      rw [he] at h
      simp only [cond_true] at h
      cases cx <;> try (cases h)
      case agg as =>
        cases cy <;> try (cases h)
        case agg bs =>
          simp only at h
          cases hl : (Nat.beq as.length T.sz && Nat.beq bs.length T.sz) with
          | false => rw [hl] at h; cases h
          | true =>
            rw [hl] at h
            simp only [Bool.and_eq_true] at hl
            have l1 := Nat.eq_of_beq_eq_true hl.1
            have l2 := Nat.eq_of_beq_eq_true hl.2
            simp only [cond_true] at h
            cases hq : eqs as bs with
            | none => rw [hq] at h; cases h
            | some c =>
              rw [hq] at h
              cases c <;> try (cases h)
              case bp p dp =>
                simp only at h
                obtain ⟨A, rfl, n1, g1, -⟩ := hx.agg_inv
                obtain ⟨B, rfl, n2, g2, -⟩ := hy.agg_inv
                obtain ⟨l, -, ea, eb, hbo⟩ := eqs_int (F := F) (w0 := w0) (L := L) as bs _ hq A.toList B.toList (by simpa using n1) (by simpa using n2) (fun i c v hc hv => g1 i c v hc (by simpa using hv)) (fun i c v hc hv => g2 i c v hc (by simpa using hv))
                have hok := (PL.ty t T hT).eq he
                simp only [eqOkB, Bool.and_eq_true, Bool.not_eq_true'] at hok
                obtain ⟨hg, hf⟩ := hok
                have hll : l.length = T.sz := by
                  have := congrArg List.length ea
                  simp at this; omega
                have eA : A = (l.map (fun p => Value.int p.1 p.2.1)).toArray := Array.ext' (by simpa using ea)
                have eB : B = (l.map (fun p => Value.int p.1 p.2.2)).toArray := Array.ext' (by simpa using eb)
                have heq : (Op.equalIn 10000 t (.agg A) (.agg B)).run P w = .ok (l.all fun p => p.2.1 == p.2.2) w := by
                  rw [eA, eB]
                  exact eqF_run 8 t T.sz 9999 l w (by omega) hf hll
                have hgd := run_eqGuard_agg (P := P) w op t x y A B hg
                cases op <;> simp only at h <;> try (cases h)
                · exact ⟨_, _, h, hbo, hgd, by rw [run_eql_struct, heq]; rfl⟩
                · refine ⟨_, !(l.all fun p => p.2.1 == p.2.2), h, ?_, hgd, by rw [run_neq_struct, heq]; rfl⟩
                  simp only [boolOf, Option.some.injEq] at hbo ⊢
                  rw [hbo]
theorem p_binOp (PL : Plaw P U) (hR : Rel U C L s a w) {op : BinOp} {t t' : Nat} {x y : Operand} (ho : o.op = .binOp op t x y t') (hx : opOk x = true) (hy : opOk y = true)
    (h : Vop U E (.binOp op t x y t') d (ev s.t) s.m K = some r) : ∃ c, K c [] = some r ∧ Gives P U C L o a w c := by
  have hvx := hR.ev x hx
  have hvy := hR.ev y hy
  simp only [Vop] at h
  generalize YtpdnnndedejlhaaGreatV.ev s.t x = cx at h hvx
  generalize YtpdnnndedejlhaaGreatV.ev s.t y = cy at h hvy
  have bools : (match boolOf cx, boolOf cy with
      | some a, some b => bif isBl U t then eqB op a b (fun v => K v []) else none
      | _, _ => eqA U t op cx cy fun v => K v []) = some r → ∃ c, K c [] = some r ∧ Gives P U C L o a w c := by
    intro h
    have ag : eqA U t op cx cy (fun v => K v []) = some r → ∃ c, K c [] = some r ∧ Gives P U C L o a w c := by
      intro h
      obtain ⟨c, b, hK, hb, hg, hr⟩ := eqA_run (P := P) (w := w) (x := x) (y := y) PL h hvx hvy
      exact ⟨c, hK, _, by simp [execOp, ho, Sem.run, hg, hr], .leaf (.bool hb)⟩
    cases h1 : boolOf cx with
    | none => rw [h1] at h; exact ag h
    | some b =>
      cases h2 : boolOf cy with
      | none => rw [h1, h2] at h; exact ag h
      | some b' =>
        have ex := RV.bool_inv h1 hvx
        have ey := RV.bool_inv h2 hvy
        simp only [h1, h2] at h
        cases hb : isBl U t with
        | false => rw [hb] at h; cases h
        | true =>
          simp only [hb, cond_true] at h
          have hu : P.underlying t = some .bool := by
            unfold isBl at hb
            cases hT : U.ti t with
            | none => rw [hT] at hb; cases hb
            | some T =>
              rw [hT] at hb
              have hd := (PL.ty t T hT).d
              cases hTd : T.d <;> simp [hTd] at hb hd
              exact hd
          have hq := run_equal_bool w (P := P) t b b' hu
          cases op <;> simp only [eqB] at h <;> try (cases h)
          · exact ⟨_, h, _, by simp [execOp, ho, Sem.run, ex, ey, eqGuard, binOp, hq], .leaf (.bool rfl)⟩
          · exact ⟨_, h, _, by simp [execOp, ho, Sem.run, ex, ey, eqGuard, binOp, hq, bne], .leaf (.bool rfl)⟩
  cases cx
  case int k n =>
    cases cy
    case int k' m =>
      have ex := hvx.int_inv
      have ey := hvy.int_inv
      by_cases h1 : op = .shr
      · subst h1
        simp only at h
        split at h
        · cases h
        · rename_i hm
          exact ⟨_, h, _, by simp [execOp, ho, Sem.run, ex, ey, eqGuard, binOp, Op.shift, hm], .leaf (.int _ _)⟩
      · by_cases h2 : op = .shl
        · subst h2; cases h
        · have h' : (bif ikeq k k' then ariI op k n m (fun v => K v []) else none) = some r := by
            cases op <;> first | exact h | exact absurd rfl h1 | exact absurd rfl h2
          cases hk : ikeq k k' with
          | false => rw [hk] at h'; cases h'
          | true =>
            simp only [hk, cond_true] at h'
            have := ikeq_eq hk
            subst this
            obtain ⟨c, v, hK, hr, hv⟩ := ariI_run (P := P) (w := w) (t := t) h' h2 h1
            refine ⟨c, hK, v, ?_, hv _ _ _⟩
            simp [execOp, ho, Sem.run, ex, ey, eqGuard, hr]
    all_goals exact bools h
  all_goals exact bools h
end
end Go.Proofs.YtpdnnndedejlhaaGreatV
/- More operations that write nothing. -/
namespace Go.Proofs.YtpdnnndedejlhaaGreatV
open Go
set_option linter.unusedVariables false
set_option linter.unusedSimpArgs false
variable {U : Uni} {P : Program} {R : Type}
section
variable {C : Fr} {L : Lc} {s : St U.D} {a : Act} {w : World} {E : Nat → List (Con U)} {d : Nat} {K : VV U.D → Upd U.D → Option R} {r : R} {o : Oper}
theorem p_unOp (hR : Rel U C L s a w) {op : UnOp} {t : Nat} {x : Operand} (ho : o.op = .unOp op t x) (hx : opOk x = true) (h : Vop U E (.unOp op t x) d (ev s.t) s.m K = some r) :
    ∃ c, K c [] = some r ∧ Gives P U C L o a w c := by
  have hv := hR.ev x hx
  simp only [Vop] at h
  generalize YtpdnnndedejlhaaGreatV.ev s.t x = c at h hv
  have nt : ∀ b, boolOf c = some b → op = .not → ∀ c', boolOf c' = some (!b) → K c' [] = some r → ∃ c, K c [] = some r ∧ Gives P U C L o a w c := by
    intro b hb ho' c' hc' hK
    subst ho'
    exact ⟨c', hK, .bool (!b), by simp [execOp, ho, Sem.run, RV.bool_inv hb hv, Op.unary], .leaf (.bool hc')⟩
  cases op <;> cases c <;> simp only at h <;> try (cases h)
  all_goals first
    | exact nt _ rfl rfl _ (by simp [boolOf]) h
    | (rename_i k n; exact ⟨_, h, .int k (k.wrap (0 - n)), by simp [execOp, ho, Sem.run, hv.int_inv, Op.unary, Op.intArith], by rw [wrapK_eq]; exact .leaf (.int _ _)⟩)
theorem p_convert (PL : Plaw P U) (hR : Rel U C L s a w) {t t' : Nat} {x : Operand} (ho : o.op = .convert t' t x) (hx : opOk x = true) (h : Vop U E (.convert t' t x) d (ev s.t) s.m K = some r) :
    ∃ c, K c [] = some r ∧ Gives P U C L o a w c := by
  have hv := hR.ev x hx
  simp only [Vop] at h
  cases hT0 : U.ti t' with
  | none => rw [hT0] at h; cases h
  | some T0 =>
    cases hT : U.ti t with
    | none => rw [hT0, hT] at h; cases h
    | some T =>
      have hd0 := (PL.ty t' T0 hT0).d
      have hd := (PL.ty t T hT).d
      rw [hT0, hT] at h
      simp only at h
      cases hTd0 : T0.d <;> cases hTd : T.d <;> rw [hTd0] at h hd0 <;> rw [hTd] at h hd <;> try (cases h)
      case int.int k0 k =>
        simp only at h hd hd0
        generalize YtpdnnndedejlhaaGreatV.ev s.t x = c at h hv
        cases c <;> try (cases h)
        case int k1 n =>
          exact ⟨_, h, .int k (k.wrap n), by simp [execOp, ho, Sem.run, hv.int_inv, convert, run_underlying hd0, run_underlying hd, Conv.intToInt], by rw [wrapK_eq]; exact .leaf (.int _ _)⟩
theorem p_fieldAddr (PL : Plaw P U) (hR : Rel U C L s a w) {t f : Nat} {x : Operand} (ho : o.op = .fieldAddr t x f) (hx : opOk x = true) (h : Vop U E (.fieldAddr t x f) d (ev s.t) s.m K = some r) :
    ∃ c, K c [] = some r ∧ Gives P U C L o a w c := by
  have hv := hR.ev x hx
  simp only [Vop] at h
  cases hT : U.ti t with
  | none => rw [hT] at h; cases h
  | some T =>
    have hd := (PL.ty t T hT).d
    rw [hT] at h
    simp only at h
    cases hTd : T.d <;> rw [hTd] at h hd <;> try (cases h)
    case str fs =>
      simp only at h
      obtain ⟨fields, hu, hmap, hsz⟩ := hd
      cases hf : fs[f]? with
      | none => rw [hf] at h; cases h
      | some of =>
        obtain ⟨off, ft⟩ := of
        rw [hf] at h
        simp only at h
        rw [← hmap, List.getElem?_map] at hf
        obtain ⟨fd, hfd, he⟩ := Option.map_eq_some_iff.1 hf
        obtain ⟨i, hi, hne⟩ := hsz fd (List.mem_of_getElem? hfd)
        have hfd' : fields[f]? = some fd := by rw [← Array.getElem?_toList]; exact hfd
        simp only [Prod.mk.injEq] at he
        have run : ∀ ad : Addr, a.eval x = .pointer (some ad) → (execOp a.eval o).run P w = .ok (.value (.pointer (some (ad.add off)))) w := by
          intro ad hx'
          simp [execOp, ho, Sem.run, hx', Instr.fieldAt, run_underlying hu, hfd', Instr.sureAddr, fieldPlace, sizeOf, typeInfo, hi, hne, he.1]
        generalize YtpdnnndedejlhaaGreatV.ev s.t x = c at h hv
        cases c <;> try (cases h)
        case ptr κ j => exact ⟨_, h, _, run _ hv.ptr_inv, by rw [Addr.add_mid]; exact .ptr _ _⟩
        case pbox t' cs j =>
          obtain ⟨b, vs, e, hF, hh, hn, hl⟩ := hv.pbox_inv
          exact ⟨_, h, _, run _ e, by rw [Addr.add_mid]; exact .pbox hF hh hn hl⟩
        case elt k xs i j =>
          obtain ⟨ad, cap, e, h1, h2, h3⟩ := hv.elt_inv
          exact ⟨_, h, _, run _ e, by rw [add_add, Nat.add_assoc]; exact .elt h1 h2 h3⟩
        case oel κ i j =>
          obtain ⟨e, h1, h2⟩ := hv.oel_inv
          exact ⟨_, h, _, run _ e, by rw [Addr.add_mid, Nat.add_assoc, Nat.add_assoc]; exact .oel h1 h2⟩
theorem slK_inv (PL : Plaw P U) {t k : Nat} (h : slK U t k = true) : P.underlying t = some (.slice k) ∧ ∃ T i z, U.ti k = some T ∧ T.sz = U.sz k ∧ TYok P k T ∧ P.info? k = some i ∧ i.size = U.sz k ∧ i.bytes = T.by_ ∧ i.zero = some z ∧ z.cells = (T.z.map zval).toArray := by
  unfold slK at h
  cases hT : U.ti t with
  | none => rw [hT] at h; cases h
  | some T =>
    have hd := (PL.ty t T hT).d
    rw [hT] at h
    simp only at h
    cases hTd : T.d <;> rw [hTd] at h hd <;> try (cases h)
    case sl e =>
      simp only at h hd
      cases hb : Nat.beq e k with
      | false => rw [hb] at h; cases h
      | true =>
        have he : e = k := Nat.eq_of_beq_eq_true hb
        subst he
        simp only [hb, cond_true] at h
        refine ⟨hd, ?_⟩
        cases hTe : U.ti e with
        | none => rw [hTe] at h; cases h
        | some Te =>
          rw [hTe] at h
          have hsz : Te.sz = U.sz e := Nat.eq_of_beq_eq_true h
          have hok := PL.ty e Te hTe
          obtain ⟨i, z, h1, h2, h3, h4, h5⟩ := hok.inf
          exact ⟨Te, i, z, rfl, hsz, hok, h1, by rw [h2, hsz], h3, h4, h5⟩
theorem inb_inv {i n : Int} {K : Option R} (h : inb i n K = some r) : 0 ≤ i ∧ i < n ∧ K = some r := by
  unfold inb at h
  split at h
  · split at h
    · exact ⟨by assumption, by assumption, h⟩
    · cases h
  · cases h
theorem asN_inv {F : Nat → Prop} {w0 : World} {c : VV U.D} {n : Int} {v : Value} (h : asN c = some n) (hv : RV U F w0 L c v) : ∃ k, v = .int k n := by
  cases c <;> simp [asN] at h
  subst h
  exact ⟨_, hv.int_inv⟩
theorem arK_inv (PL : Plaw P U) {t n k : Nat} (h : arK U t n k = true) : P.underlying t = some (.array n k) ∧ U.sz k = 1 ∧ ∃ T i, U.ti k = some T ∧ P.info? k = some i ∧ i.size = 1 ∧ (match T.d with | .int _ => true | .bool => true | _ => false) = true ∧ TYok P k T := by
  unfold arK at h
  cases hT : U.ti t with
  | none => rw [hT] at h; cases h
  | some T =>
    have hd := (PL.ty t T hT).d
    rw [hT] at h
    simp only at h
    cases hTd : T.d <;> rw [hTd] at h hd <;> try (cases h)
    case ar l e =>
      simp only at h hd
      cases hb : Nat.beq e k with
      | false => rw [hb] at h; cases h
      | true =>
        have he : e = k := Nat.eq_of_beq_eq_true hb
        subst he
        simp only [hb, cond_true, Bool.and_eq_true] at h
        obtain ⟨hl, h⟩ := h
        have hl' : l = n := Nat.eq_of_beq_eq_true hl
        subst hl'
        cases hTe : U.ti e with
        | none => rw [hTe] at h; cases h
        | some Te =>
          rw [hTe] at h
          simp only [Bool.and_eq_true] at h
          have hok := PL.ty e Te hTe
          obtain ⟨i, z, h1, h2, h3, h4, h5⟩ := hok.inf
          have hon := hok.on
          refine ⟨hd, Nat.eq_of_beq_eq_true h.2, Te, i, rfl, h1, ?_, h.1, hok⟩
          rw [h2]
          cases hq : Te.d <;> simp [hq] at h hon <;> exact hon
theorem spl_inv {n : Int} {K : Nat → Option R} {r : R} : ∀ (f j : Nat), spl n f j K = some r → ∃ i, j ≤ i ∧ i < j + f ∧ n = (i : Int) ∧ K i = some r
  | 0, j, h => by cases h
  | f + 1, j, h => by
    unfold spl at h
    split at h
    · exact ⟨j, Nat.le_refl _, by omega, by assumption, h⟩
    · obtain ⟨i, h1, h2, h3⟩ := spl_inv f (j + 1) h
      exact ⟨i, by omega, by omega, h3⟩
theorem arI_inv (PL : Plaw P U) {t : Nat} {n : Int} {K : Nat → TY → Option R} {r : R} (h : arI U t n K = some r) : ∃ l e i ie Te, P.underlying t = some (.array l e) ∧ U.ti e = some Te ∧ P.info? e = some ie ∧ ie.size = Te.sz ∧ i < l ∧ n = (i : Int) ∧ K i Te = some r := by
  unfold arI at h
  cases hT : U.ti t with
  | none => rw [hT] at h; cases h
  | some T =>
    have hd := (PL.ty t T hT).d
    rw [hT] at h
    simp only at h
    cases hTd : T.d <;> rw [hTd] at h hd <;> try (cases h)
    case ar l e =>
      simp only at h hd
      cases hTe : U.ti e with
      | none => rw [hTe] at h; cases h
      | some Te =>
        rw [hTe] at h
        obtain ⟨i, h1, h2, h3, h4⟩ := spl_inv _ _ h
        obtain ⟨ie, z, h5, h6, -⟩ := (PL.ty e Te hTe).inf
        exact ⟨l, e, i, ie, Te, hd, hTe, h5, h6, by omega, h3, h4⟩
theorem p_indexAddr (PL : Plaw P U) (hR : Rel U C L s a w) {t : Nat} {x y : Operand} (ho : o.op = .indexAddr t x y) (hx : opOk x = true) (hy : opOk y = true) (h : Vop U E (.indexAddr t x y) d (ev s.t) s.m K = some r) :
    ∃ c, K c [] = some r ∧ Gives P U C L o a w c := by
  have hv := hR.ev x hx
  have hvy := hR.ev y hy
  simp only [Vop] at h
  generalize YtpdnnndedejlhaaGreatV.ev s.t y = cy at h hvy
  cases hn : asN cy with
  | none => rw [hn] at h; cases h
  | some n =>
    obtain ⟨kk, ey⟩ := asN_inv hn hvy
    rw [hn] at h
    simp only at h
    generalize YtpdnnndedejlhaaGreatV.ev s.t x = c at h hv
    cases c <;> try (cases h)
    case tree k xs =>
      simp only at h
      cases hb : slK U t k with
      | false => rw [hb] at h; cases h
      | true =>
        simp only [hb, cond_true] at h
        obtain ⟨hu, T, i, z, h1, h2, h3, h4, h5, -⟩ := slK_inv PL hb
        obtain ⟨h0, hlt, hK⟩ := inb_inv h
        have hrc := hv.tree_inv
        generalize hax : a.eval x = vx at hrc hv
        cases hrc with
        | bool hb => simp [boolOf] at hb
        | tree0 => simp at hlt; omega
        | @tree _ _ ad cap vf hc hF hh hr =>
          refine ⟨_, hK, .pointer (some (ad.add (n.toNat * U.sz k))), by simp [execOp, ho, Sem.run, hax, ey, Instr.indexAt, run_underlying hu, asIntOf, sizeOf, typeInfo, h4, h5, h0, hlt], ?_⟩
          rw [← Nat.add_zero (n.toNat * U.sz k)]
          exact .elt (.tree vf hc hF hh hr) h0 hlt
    case ref κ =>
      simp only at h
      cases hm : mget s.m κ with
      | none => rw [hm] at h; cases h
      | some b =>
        rw [hm] at h
        cases b <;> try (cases h)
        case row k xs =>
          simp only at h
          cases hb : slK U t k with
          | false => rw [hb] at h; cases h
          | true =>
            simp only [hb, cond_true] at h
            obtain ⟨hu, T, i, z, h1, h2, h3, h4, h5, -⟩ := slK_inv PL hb
            obtain ⟨h0, hlt, hK⟩ := inb_inv h
            have hax := hv.ref_inv
            obtain ⟨hro, hbn, hpos⟩ := hR.me κ _ hm
            generalize hrv : L.rv κ = rv at hro hpos hax
            cases hro with
            | bool hb => simp [boolOf] at hb
            | tree0 => simp at hlt; omega
            | @tree _ _ _ g off cap cur f hg hh hcap hkk hsz hr =>
              obtain ⟨e1, e2, hbs⟩ := hpos _ _ _ _ rfl
              refine ⟨_, hK, .pointer (some ⟨g, off + n.toNat * U.sz k, none⟩), by simp [execOp, ho, Sem.run, hax, ey, Instr.indexAt, run_underlying hu, asIntOf, sizeOf, typeInfo, h4, h5, h0, hlt, Addr.add_mid], ?_⟩
              have hh2 : RV U C.F C.w0 L (.oel κ n 0) (.pointer (some ⟨L.bg κ, L.bo κ + (n.toNat * L.bs κ + 0), none⟩)) := .oel h0 (by rw [hbn]; exact hlt)
              rw [e1, e2, hbs, Nat.add_zero] at hh2
              exact hh2
        case krow k xs =>
          simp only at h
          cases hb : slK U t k with
          | false => rw [hb] at h; cases h
          | true =>
            simp only [hb, cond_true] at h
            obtain ⟨hu, T, i, z, h1, h2, h3, h4, h5, -⟩ := slK_inv PL hb
            obtain ⟨h0, hlt, hK⟩ := inb_inv h
            have hax := hv.ref_inv
            obtain ⟨⟨hro, hbn, hpos⟩, -⟩ := hR.me κ _ hm
            generalize hrv : L.rv κ = rv at hro hpos hax
            cases hro with
            | bool hb => simp [boolOf] at hb
            | tree0 => simp at hlt; omega
            | @tree _ _ _ g off cap cur f hg hh hcap hkk hsz hr =>
              obtain ⟨e1, e2, hbs⟩ := hpos _ _ _ _ rfl
              refine ⟨_, hK, .pointer (some ⟨g, off + n.toNat * U.sz k, none⟩), by simp [execOp, ho, Sem.run, hax, ey, Instr.indexAt, run_underlying hu, asIntOf, sizeOf, typeInfo, h4, h5, h0, hlt, Addr.add_mid], ?_⟩
              have hh2 : RV U C.F C.w0 L (.oel κ n 0) (.pointer (some ⟨L.bg κ, L.bo κ + (n.toNat * L.bs κ + 0), none⟩)) := .oel h0 (by rw [hbn]; exact hlt)
              rw [e1, e2, hbs, Nat.add_zero] at hh2
              exact hh2
    case ptr κ j =>
      cases j with
      | succ j => cases h
      | zero =>
        simp only at h
        cases hm : mget s.m κ with
        | none => rw [hm] at h; cases h
        | some b =>
          rw [hm] at h
          cases b <;> try (cases h)
          case box t' cs =>
            simp only at h
            obtain ⟨l, e, i, ie, Te, hu, -, h1, h2, hlt, en, hK⟩ := arI_inv PL h
            subst en
            have hax := hv.ptr_inv
            refine ⟨_, hK, .pointer (some ⟨L.bg κ, i * Te.sz, none⟩), by simp [execOp, ho, Sem.run, hax, ey, Instr.indexAt, Instr.sureAddr, run_underlying hu, asIntOf, sizeOf, typeInfo, h1, h2, hlt, Addr.add_mid], .ptr _ _⟩
          case arr t' l k xs =>
            simp only at h
            cases hb : arK U t l k with
            | false => rw [hb] at h; cases h
            | true =>
              simp only [hb, cond_true] at h
              obtain ⟨hu, hs1, T, i, h1, h2, h3, -, -⟩ := arK_inv PL hb
              obtain ⟨h0, hlt, hK⟩ := inb_inv h
              have hax := hv.ptr_inv
              obtain ⟨-, hbo, hbs, hbn, -⟩ := hR.me κ _ hm
              refine ⟨_, hK, .pointer (some ⟨L.bg κ, n.toNat, none⟩), by simp [execOp, ho, Sem.run, hax, ey, Instr.indexAt, Instr.sureAddr, run_underlying hu, asIntOf, sizeOf, typeInfo, h2, h3, h0, hlt, Addr.add_mid], ?_⟩
              have hh2 : RV U C.F C.w0 L (.oel κ n 0) (.pointer (some ⟨L.bg κ, L.bo κ + (n.toNat * L.bs κ + 0), none⟩)) := .oel h0 (by rw [hbn]; exact hlt)
              rw [hbo, hbs, Nat.add_zero, Nat.zero_add, Nat.mul_one] at hh2
              exact hh2
theorem p_index (PL : Plaw P U) (hR : Rel U C L s a w) {t : Nat} {x y : Operand} (ho : o.op = .index t x y) (hx : opOk x = true) (hy : opOk y = true) (h : Vop U E (.index t x y) d (ev s.t) s.m K = some r) :
    ∃ c, K c [] = some r ∧ Gives P U C L o a w c := by
  have hv := hR.ev x hx
  have hvy := hR.ev y hy
  simp only [Vop] at h
  generalize YtpdnnndedejlhaaGreatV.ev s.t y = cy at h hvy
  cases hn : asN cy with
  | none => rw [hn] at h; cases h
  | some n =>
    obtain ⟨kk, ey⟩ := asN_inv hn hvy
    rw [hn] at h
    simp only at h
    generalize YtpdnnndedejlhaaGreatV.ev s.t x = c at h hv
    cases c <;> try (cases h)
    case agg cs =>
      simp only at h
      obtain ⟨l, e, i, ie, Te, hu, hTe, h1, h2, hlt, en, hK⟩ := arI_inv PL h
      subst en
      cases hb : (isOne Te && Nat.blt i cs.length) with
      | false => rw [hb] at hK; cases hK
      | true =>
        rw [hb] at hK
        simp only [Bool.and_eq_true] at hb
        obtain ⟨hb, hbl⟩ := hb
        have hil : i < cs.length := Nat.le_of_ble_eq_true hbl
        obtain ⟨vs, ex, hsz, hel, -⟩ := hv.agg_inv
        have hi : i < vs.size := by omega
        have hok := PL.ty e Te hTe
        have hag : (match P.underlying e with | some (.struct _) | some (.array _ _) => true | _ => false) = false ∧ (∃ dd, P.underlying e = some dd) ∧ Te.sz = 1 := by
          have hd := hok.d
          have hon := hok.on
          unfold isOne at hb
          cases hq : Te.d <;> simp [hq] at hb hd hon <;> rw [hd] <;> exact ⟨rfl, ⟨_, rfl⟩, hon⟩
        obtain ⟨hag, ⟨dd, hdd⟩, hs1⟩ := hag
        refine ⟨_, hK, vs[i], ?_, ?_⟩
        · rw [hdd] at hag
          cases dd <;> simp at hag <;> simp [execOp, ho, Sem.run, ex, ey, Instr.index, run_underlying hu, asIntOf, sizeOf, typeInfo, h1, h2, hs1, hlt, part, isAgg, run_underlying hdd, hi]
        · unfold lget
          rw [List.getD_eq_getElem?_getD, List.getElem?_eq_getElem hil]
          exact RV.unk (hel i _ _ (List.getElem?_eq_getElem hil) (Array.getElem?_eq_getElem hi))
    case arr l k xs =>
      simp only at h
      cases hb : arK U t l k with
      | false => rw [hb] at h; cases h
      | true =>
        simp only [hb, cond_true] at h
        obtain ⟨hu, hs1, T, i, h1, h2, h3, hTd, hok⟩ := arK_inv PL hb
        obtain ⟨h0, hlt, hK⟩ := inb_inv h
        obtain ⟨vs, e, hl, hsz, hel⟩ := hv.arr_inv
        have hi : n.toNat < vs.size := by omega
        obtain ⟨c0, e0, hsc⟩ := hel _ _ _ (rd_some h0 (by omega)) (Array.getElem?_eq_getElem hi)
        have hag : (match P.underlying k with | some (.struct _) | some (.array _ _) => true | _ => false) = false ∧ ∃ dd, P.underlying k = some dd := by
          have hd := hok.d
          cases hq : T.d <;> simp [hq] at hTd hd <;> rw [hd] <;> exact ⟨rfl, _, rfl⟩
        obtain ⟨hag, dd, hdd⟩ := hag
        refine ⟨_, hK, vs[n.toNat], ?_, ?_⟩
        · rw [hdd] at hag
          cases dd <;> simp at hag <;> simp [execOp, ho, Sem.run, e, ey, Instr.index, run_underlying hu, asIntOf, sizeOf, typeInfo, h2, h3, h0, hlt, part, isAgg, run_underlying hdd, hi]
        · unfold lget
          rw [e0]
          exact hsc.rv.1
theorem p_extract (hR : Rel U C L s a w) {i : Nat} {x : Operand} (ho : o.op = .extract x i) (hx : opOk x = true) (h : Vop U E (.extract x i) d (ev s.t) s.m K = some r) :
    ∃ c, K c [] = some r ∧ Gives P U C L o a w c := by
  have hv := hR.ev x hx
  simp only [Vop] at h
  generalize YtpdnnndedejlhaaGreatV.ev s.t x = c at h hv
  cases c <;> try (cases h)
  case tup cs =>
    obtain ⟨vs, e, hn, hl⟩ := hv.tup_inv
    simp only at h
    cases hi : Nat.blt i cs.length with
    | false => rw [hi] at h; cases h
    | true =>
      simp only [hi, cond_true] at h
      have hlt : i < cs.length := by have := hi; simp [Nat.blt] at this; omega
      have hlt' : i < vs.size := by omega
      refine ⟨_, h, vs[i], by simp [execOp, ho, Sem.run, e, Instr.extract, hlt'], ?_⟩
      unfold lget
      rw [List.getD_eq_getElem?_getD, List.getElem?_eq_getElem hlt]
      exact hl i _ _ (List.getElem?_eq_getElem hlt) (Array.getElem?_eq_getElem hlt')
theorem p_makeFunc (hR : Rel U C L s a w) {f : Nat} {fs cs : Array Operand} (ho : o.op = .makeFunc (.func f) fs cs) (hf : fs = #[]) (hx : ∀ x ∈ cs, opOk x = true) (h : Vop U E (.makeFunc (.func f) fs cs) d (ev s.t) s.m K = some r) :
    ∃ c, K c [] = some r ∧ Gives P U C L o a w c := by
  subst hf
  simp only [Vop] at h
  refine ⟨_, h, .func (.func f) #[] (cs.map a.eval), by simp [execOp, ho, Sem.run, Instr.makeFunc], .fn (by simp) (fun i c v hc hv => ?_)⟩
  rw [List.getElem?_map, Array.getElem?_toList] at hc
  rw [Array.getElem?_map] at hv
  cases hi : cs[i]? with
  | none => rw [hi] at hc; cases hc
  | some x =>
    rw [hi] at hc hv
    cases hc; cases hv
    exact hR.ev x (hx x (Array.mem_of_getElem? hi))
end
end Go.Proofs.YtpdnnndedejlhaaGreatV
