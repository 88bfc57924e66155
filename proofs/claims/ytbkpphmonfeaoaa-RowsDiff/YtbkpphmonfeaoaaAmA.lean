/- An abstract machine for the compiled code, and the proof that what it computes the code computes: part 1. -/
import GoSem.Dispatch
import GoSem.Machine.Frame
import Derived.Calls
import Derived.Laws.Sem
import Derived.Laws.World
import Derived.Below
import Derived.MapKept
import Derived.Laws.Entries
import Derived.Laws.Slices
import Derived.Laws.Cells
import Derived.Laws.Tables
import Derived.Laws.StructEq
import Derived.Lib.ConvBytes
import Derived.Laws.BytesString
namespace Go.Am


inductive AV where
  | int (k : IntKind) (n : Int)
  | bl (b : Bool)
  | st (s : ByteArray)
  | np | nm | nf | ni | ns | ez | ud
  | ag (cs : List AV)
  | tp (vs : List AV)
  | ls (sz : Nat) (es : List (List AV))
  | sl (sz b lo len : Nat)
  | re (sz b i off : Nat)
  | ri (sz : Nat) (es : List (List AV)) (i off : Nat)
  | fn (f : FuncId) (caps : List AV)
  | mp (b : Nat)
  | ow (sz : Nat) (es : List (List AV))
  deriving Inhabited

inductive Opd where
  | t (n : Nat)
  | c (v : AV)
  deriving Inhabited

inductive COp where
  | mv (x : Opd)
  | pk (c a b : Opd)
  | al (z : List AV) (t : TypeId)
  | bx (t : TypeId) (x : Opd)
  | bd (z : List AV) (ps : List (Nat × Nat × Opd))
  | bs (sz len : Nat) (z : List AV) (t : TypeId) (ps : List (Nat × Opd))
  | ld (n : Option Nat) (a : Opd)
  | sr (n : Nat) (a x : Opd)
  | nc (x : Opd)
  | bn (op : BinOp) (x y : Opd)
  | ea (neg : Bool) (ks : List Nat) (x y : Opd)
  | eb (neg : Bool) (x y : Opd)
  | nq (neg : Bool) (k : Nat) (x : Opd)
  | un (op : UnOp) (x : Opd)
  | ci (k : IntKind) (x : Opd)
  | cs (t : TypeId) (x : Opd)
  | cv1 (x : Opd)
  | cb (x : Opd)
  | fa (off : Nat) (x : Opd)
  | fd (off : Nat) (n : Option Nat) (x : Opd)
  | ia (arr : Option Nat) (sz : Nat) (x i : Opd)
  | ix (len sz : Nat) (n : Option Nat) (x i : Opd)
  | si (x i : Opd)
  | ss (x : Opd) (lo hi : Option Opd)
  | sc (sz : Nat) (x : Opd) (lo hi mx : Option Opd)
  | mk (sz bytes : Nat) (z : List AV) (t : TypeId) (l c : Opd)
  | mf (f : FuncId) (caps : List Opd)
  | ex (x : Opd) (i : Nat)
  | cf (f : FuncId) (args : List Opd)
  | cv (x : Opd) (args : List Opd)
  | le (k : Nat) (x : Opd)
  | ap (sz bytes : Nat) (t : TypeId) (x y : Opd)
  | cp (sz : Nat) (x y : Opd)
  | mx (xs : List Opd)
  | mn (xs : List Opd)
  | mm (t : TypeId)
  | lk (s : Bool) (z : AV) (ok : Bool) (x i : Opd)
  | mu (s : Bool) (x k v : Opd)
  | de (s : Bool) (x k : Opd)
  | bad
  deriving Inhabited

structure CI where
  dst : Option Nat
  op : COp
  guard : Option (Nat × Bool)
  deriving Inhabited

inductive CC where
  | sk
  | rg (ops : List CI)
  | rd (ops : List (CI × List Nat))
  | sq (a b : CC)
  | cd (c : Opd) (a b : CC)
  | bk (id : Nat) (b : CC)
  | lp (live : List Nat) (b : CC)
  | xt (id : Nat)
  | rt
  | no
  deriving Inhabited

inductive CR where
  | tm (t : Nat)
  | cl (t : Nat) (n : Option Nat)
  deriving Inhabited

structure CF where
  np : Nat
  code : CC
  res : List CR
  deriving Inhabited

inductive BK where
  | rw (v : Bool) (sz : Nat) (es : List (List AV)) (t : TypeId)
  | mp (es : List (AV × AV))
  | dd
  deriving Inhabited

structure St where
  tm : List (Nat × AV)
  h : List (Nat × BK)
  nx : Nat
  bs : Nat
  deriving Inhabited

inductive EX where
  | nm | xt (id : Nat) | rt
  deriving Inhabited

def fnB : Nat := 1048576
def fnN (f : FuncId) : FuncId := if f < fnB then f else f - fnB
def fnU (f : FuncId) (xs : List Opd) : Bool := decide (f < fnB) || xs.isEmpty

def look {α : Type} (d : α) : List (Nat × α) → Nat → α
  | [], _ => d
  | (k, v) :: l, n => if k = n then v else look d l n

def rd (tm : List (Nat × AV)) : Opd → AV
  | .t n => look .ud tm n
  | .c v => v

def blk (h : List (Nat × BK)) (b : Nat) : BK := look .dd h b

def put {α : Type} : List (Nat × α) → Nat → α → List (Nat × α)
  | [], n, v => [(n, v)]
  | (k, w) :: l, n, v => if k = n then (n, v) :: l else (k, w) :: put l n v

def ins {α : Type} (l : List (Nat × α)) (n : Nat) (v : α) : List (Nat × α) := (n, v) :: l

def sclr : AV → Bool
  | .ag _ | .tp _ | .ud | .ow .. => false
  | _ => true

def cellsOf : AV → Option (List AV)
  | .ag cs => some cs
  | .tp _ | .ud | .ow .. => none
  | v => some [v]

def plain : AV → Bool
  | .int .. | .bl _ | .st _ | .np | .nm | .nf | .ni | .ns | .ez | .ls .. | .ri .. => true
  | .fn _ caps => caps.all fun | .ri .. => true | _ => false
  | _ => false

def snapC (h : List (Nat × BK)) : AV → Option AV
  | .sl sz b lo len => match blk h b with
    | .rw false sz' es _ => if sz = sz' ∧ lo + len ≤ es.length then some (.ls sz ((es.drop lo).take len)) else none
    | _ => none
  | .re .. | .mp _ | .ag _ | .tp _ | .ud | .ow .. | .fn .. => none
  | v => some v

def snapL (f : AV → Option AV) : List AV → Option (List AV)
  | [] => some []
  | c :: cs => match f c, snapL f cs with
    | some a, some l => some (a :: l)
    | _, _ => none

def snapP (h : List (Nat × BK)) : AV → Option AV
  | .re sz b i off => match blk h b with
    | .rw true sz' [cs] _ => if sz = sz' then (snapL (snapC h) cs).map fun cs => .ri sz [cs] i off else none
    | .rw false sz' es _ => if sz = sz' then some (.ri sz es i off) else none
    | _ => none
  | .ri sz es i off => some (.ri sz es i off)
  | _ => none

def snap (h : List (Nat × BK)) : AV → Option AV
  | .re sz b i off => snapP h (.re sz b i off)
  | .fn f caps => (snapL (snapP h) caps).map (.fn f)
  | v => snapC h v

def snapV (h : List (Nat × BK)) : AV → Option AV
  | .ag cs => (snapL (snap h) cs).map .ag
  | v => snap h v

def refs : AV → List Nat
  | .sl _ b _ _ | .re _ b _ _ | .mp b => [b]
  | .fn _ caps => caps.flatMap fun | .re _ b _ _ => [b] | _ => []
  | _ => []
def refsV : AV → List Nat
  | .ag cs => cs.flatMap refs
  | .tp vs => vs.flatMap fun | .ag cs => cs.flatMap refs | v => refs v
  | v => refs v

def isRow (h : List (Nat × BK)) (b : Nat) : Bool := match blk h b with
  | .rw false _ _ _ => true
  | _ => false
def kill (h : List (Nat × BK)) : List Nat → List (Nat × BK)
  | [] => h
  | b :: bs => put (kill h bs) b .dd

def splice (cs new : List AV) (off : Nat) : List AV := cs.take off ++ new ++ cs.drop (off + new.length)

def moveP (h : List (Nat × BK)) (k : Nat) : AV → Option AV
  | .re sz b i off => match blk h b with
    | .dd => none
    | _ => some (.re sz b i (off + k))
  | .ri sz es i off => some (.ri sz es i (off + k))
  | _ => none

def cellsOfEl (es : List (List AV)) (i off n : Nat) : Option (List AV) :=
  match es[i]? with
  | some e => if off + n ≤ e.length then some ((e.drop off).take n) else none
  | none => none

def cellsAt (h : List (Nat × BK)) (n : Nat) : AV → Option (List AV)
  | .re sz b i off => match blk h b with
    | .rw _ sz' es _ => if sz = sz' then cellsOfEl es i off n else none
    | _ => none
  | .ri _ es i off => cellsOfEl es i off n
  | _ => none

def loadA (h : List (Nat × BK)) (n : Option Nat) (a : AV) : Option AV :=
  match n with
  | none => match cellsAt h 1 a with
    | some [v] => some v
    | _ => none
  | some n => (cellsAt h n a).map .ag

def elems (h : List (Nat × BK)) (sz : Nat) : AV → Option (List (List AV))
  | .ns | .ez => some []
  | .ls sz' es => if sz = sz' then some es else none
  | .sl sz' b lo len => match blk h b with
    | .rw false sz'' es _ => if sz = sz' ∧ sz = sz'' ∧ lo + len ≤ es.length then some ((es.drop lo).take len) else none
    | _ => none
  | .st s => if sz = 1 then some (s.data.toList.map fun c => [.int .u8 c.toNat]) else none
  | _ => none

def alive (h : List (Nat × BK)) (b : Nat) : Bool :=
  match blk h b with
  | .dd => false
  | _ => true

def lenA (h : List (Nat × BK)) : Nat → AV → Option Nat
  | 0, .st s => some s.size
  | 1, .ns | 1, .ez => some 0
  | 1, .ls _ es => some es.length
  | 1, .sl _ b _ len => if alive h b then some len else none
  | 2, .nm => some 0
  | 2, .mp b => match blk h b with
    | .mp es => some es.length
    | _ => none
  | _, _ => none

def binA : BinOp → AV → AV → Option AV
  | .shl, .int k a, .int _ b => if b < 0 then none else some (.int k (k.wrap (a * 2 ^ (min b.toNat k.bits))))
  | .shr, .int k a, .int _ b => if b < 0 then none else some (.int k (a.fdiv (2 ^ (min b.toNat k.bits))))
  | op, .int k a, .int k' b =>
    if k ≠ k' then none else
    match op with
    | .add => some (.int k (k.wrap (a + b)))
    | .sub => some (.int k (k.wrap (a - b)))
    | .mul => some (.int k (k.wrap (a * b)))
    | .quo => if b = 0 then none else some (.int k (k.wrap (a.tdiv b)))
    | .rem => if b = 0 then none else some (.int k (a.tmod b))
    | .and => some (.int k (k.wrap (BitVec.ofInt k.bits a &&& BitVec.ofInt k.bits b).toNat))
    | .or => some (.int k (k.wrap (BitVec.ofInt k.bits a ||| BitVec.ofInt k.bits b).toNat))
    | .xor => some (.int k (k.wrap (BitVec.ofInt k.bits a ^^^ BitVec.ofInt k.bits b).toNat))
    | .andNot => some (.int k (k.wrap (BitVec.ofInt k.bits a &&& ~~~ BitVec.ofInt k.bits b).toNat))
    | .eql => some (.bl (a == b))
    | .neq => some (.bl (a != b))
    | .lss => some (.bl (decide (a < b)))
    | .leq => some (.bl (decide (a ≤ b)))
    | .gtr => some (.bl (decide (a > b)))
    | .geq => some (.bl (decide (a ≥ b)))
    | _ => none
  | op, .st a, .st b => match op with
    | .add => if ((a.size + b.size : Nat) : Int) > IntKind.i64.max then none else some (.st (a ++ b))
    | .eql => some (.bl (a.toList == b.toList))
    | .neq => some (.bl (!(a.toList == b.toList)))
    | .lss => some (.bl (Op.bytesLess a.toList b.toList))
    | .leq => some (.bl (Op.bytesLess a.toList b.toList || a.toList == b.toList))
    | .gtr => some (.bl (!(Op.bytesLess a.toList b.toList || a.toList == b.toList)))
    | .geq => some (.bl (!Op.bytesLess a.toList b.toList))
    | _ => none
  | _, _, _ => none

def nilA (h : List (Nat × BK)) : Nat → AV → Option Bool
  | 0, .np | 1, .ns | 2, .ni | 3, .nf | 4, .nm => some true
  | 0, .re _ b _ _ | 4, .mp b => if alive h b then some false else none
  | 1, .sl _ b _ _ => if alive h b then some false else none
  | 0, .ri .. | 1, .ls .. | 3, .fn .. => some false
  | _, _ => none

def eqC : Nat → AV → AV → Option Bool
  | 1, .int k a, .int k' b => if k = k' then some (a == b) else none
  | 0, .bl a, .bl b => some (a == b)
  | 2, .st a, .st b => some (a.toList == b.toList)
  | _, _, _ => none
def eqCs : List Nat → List AV → List AV → Option Bool
  | [], [], [] => some true
  | k :: ks, x :: xs, y :: ys => match eqC k x y with
    | some true => eqCs ks xs ys
    | some false => some false
    | none => none
  | _, _, _ => none

def bound (lo hi : Int) (x : AV) : Option Nat :=
  match x with
  | .int _ n => if lo ≤ n ∧ n ≤ hi then some n.toNat else none
  | _ => none

def putParts (z : List AV) (tm : List (Nat × AV)) : List (Nat × Nat × Opd) → Option (List AV)
  | [] => some z
  | (off, n, x) :: ps => match cellsOf (rd tm x) with
    | some cs => if cs.length = n ∧ off + n ≤ z.length then putParts (splice z cs off) tm ps else none
    | none => none

def putElems (h : List (Nat × BK)) (es : List (List AV)) (sz : Nat) (tm : List (Nat × AV)) : List (Nat × Opd) → Option (List (List AV))
  | [] => some es
  | (i, x) :: ps => match cellsOf (rd tm x) with
    | some cs => match snapL (snapC h) cs with
      | some cs => if cs.length = sz then putElems h (es.set i cs) sz tm ps else none
      | none => none
    | none => none

def keyEq : AV → AV → Option Bool
  | .int k a, .int k' b => if k = k' then some (a == b) else none
  | .st a, .st b => some (a == b)
  | _, _ => none
def isKey : Bool → AV → Bool
  | true, .st _ => true
  | false, .int .. => true
  | _, _ => false
def findK (k : AV) : List (AV × AV) → Nat → Option (Option (Nat × AV))
  | [], _ => some none
  | (a, v) :: es, i => match keyEq k a with
    | some true => some (some (i, v))
    | some false => findK k es (i + 1)
    | none => none
def okP0 : AV → Bool
  | .int .. | .bl _ | .st _ | .np | .nm | .nf | .ni | .ns | .ez | .ls .. | .ri .. => true
  | _ => false
def ok0 : AV → Bool
  | .sl .. | .re .. | .mp _ | .ag _ | .tp _ | .ow .. => false
  | .fn _ caps => caps.all okP0
  | _ => true
def ok0V : AV → Bool
  | .ag cs => cs.all ok0
  | v => ok0 v

def valOf (cs : List AV) (n : Option Nat) : Option AV :=
  match n with
  | some _ => some (.ag cs)
  | none => match cs with
    | [v] => some v
    | _ => none

def isUd : AV → Bool
  | .ud => true
  | _ => false

structure Ef where
  v : AV
  h : List (Nat × BK)
  nx : Nat

def one (h : List (Nat × BK)) (nx : Nat) (v : AV) : Option Ef := some ⟨v, h, nx⟩

def maxRoom : Nat := 2 ^ 46

def optInt (d : Nat) (tm : List (Nat × AV)) (lo hi : Nat) : Option Opd → Option Nat
  | none => some d
  | some x => bound lo hi (rd tm x)

def byteA : List AV → Option UInt8
  | [.int .u8 n] => some (UInt8.ofNat n.toNat)
  | _ => none
def maxI (m : Int) : AV → Option Int
  | .int _ b => some (if b > m then b else m)
  | _ => none
def minI (m : Int) : AV → Option Int
  | .int _ b => some (if b < m then b else m)
  | _ => none
def maxS (m : ByteArray) : AV → Option ByteArray
  | .st b => some (if !Op.bytesLess m.toList b.toList then m else b)
  | _ => none
def minS (m : ByteArray) : AV → Option ByteArray
  | .st b => some (if (Op.bytesLess m.toList b.toList || m.toList == b.toList) then m else b)
  | _ => none

def opA (tm : List (Nat × AV)) (h : List (Nat × BK)) (nx : Nat) : COp → Option Ef
  | .mv x => one h nx (rd tm x)
  | .pk c a b => match rd tm c with
    | .bl t => one h nx (if t then rd tm a else rd tm b)
    | _ => none
  | .al z t => some ⟨.re z.length nx 0 0, ins h nx (.rw true z.length [z] t), nx + 1⟩
  | .bx t x => match cellsOf (rd tm x) with
    | some cs => some ⟨.re cs.length nx 0 0, ins h nx (.rw true cs.length [cs] t), nx + 1⟩
    | none => none
  | .bd z ps => (putParts z tm ps).bind fun cs => one h nx (.ag cs)
  | .bs sz len z t ps => (putElems h (List.replicate len z) sz tm ps).bind fun es =>
      some ⟨.sl sz nx 0 len, ins (kill h (ps.flatMap fun p => refsV (rd tm p.2))) nx (.rw false sz es t), nx + 1⟩
  | .ld n a => (loadA h n (rd tm a)).bind (one h nx)
  | .sr n a x => match cellsOf (rd tm x) with
    | some new => if new.length ≠ n ∨ new.any isUd = true then none else match rd tm a with
      | .re sz b i off => match blk h b with
        | .rw v sz' es t => if sz ≠ sz' then none else match es[i]? with
          | some e => if off + n ≤ e.length then
              if v then some ⟨.ud, put h b (.rw v sz (es.set i (splice e new off)) t), nx⟩
              else if (new.flatMap refs).contains b then none else match snapL (snapC h) new with
                | some new' => some ⟨.ud, put (kill h (new.flatMap refs)) b (.rw v sz (es.set i (splice e new' off)) t), nx⟩
                | none => none
            else none
          | none => none
        | _ => none
      | _ => none
    | none => none
  | .nc x => match rd tm x with
    | .re sz b i off => if alive h b then one h nx (.re sz b i off) else none
    | .ri sz es i off => one h nx (.ri sz es i off)
    | .fn f caps => one h nx (.fn f caps)
    | _ => none
  | .bn op x y => (binA op (rd tm x) (rd tm y)).bind (one h nx)
  | .ea neg ks x y => match rd tm x, rd tm y with
    | .ag a, .ag b => if a.length = ks.length ∧ b.length = ks.length then (eqCs ks a b).bind fun r => one h nx (.bl (if neg then !r else r)) else none
    | _, _ => none
  | .eb neg x y => match rd tm x, rd tm y with
    | .bl a, .bl b => one h nx (.bl (if neg then !(a == b) else a == b))
    | _, _ => none
  | .nq neg k x => (nilA h k (rd tm x)).bind fun r => one h nx (.bl (if neg then !r else r))
  | .un op x => match op, rd tm x with
    | .neg, .int k n => one h nx (.int k (k.wrap (0 - n)))
    | .not, .bl b => one h nx (.bl !b)
    | _, _ => none
  | .ci k x => match rd tm x with
    | .int _ n => one h nx (.int k (k.wrap n))
    | _ => none
  | .cv1 x => match rd tm x with
    | .st s => one h nx (.st s)
    | _ => none
  | .cs t x => match rd tm x with
    | .st s => some ⟨.sl 1 nx 0 s.size, ins h nx (.rw false 1 (s.data.toList.map fun c => [.int .u8 c.toNat]) t), nx + 1⟩
    | _ => none
  | .cb x => match rd tm x with
    | .st _ => none
    | _ => (elems h 1 (rd tm x)).bind fun es => (es.mapM byteA).bind fun l => one h nx (.st ⟨l.toArray⟩)
  | .fa off x => (moveP h off (rd tm x)).bind (one h nx)
  | .fd off n x => match rd tm x with
    | .ag cs => (valOf ((cs.drop off).take (n.getD 1)) n).bind (one h nx)
    | _ => none
  | .ia arr sz x i => match arr with
    | some len => (bound 0 (len - 1) (rd tm i)).bind fun j => (moveP h (j * sz) (rd tm x)).bind (one h nx)
    | none => match rd tm x with
      | .ls sz' es => if sz' ≠ sz then none else (bound 0 (es.length - 1 : Int) (rd tm i)).bind fun j => one h nx (.ri sz es j 0)
      | .sl sz' b lo len => if sz' ≠ sz || !alive h b then none else (bound 0 (len - 1 : Int) (rd tm i)).bind fun j => one h nx (.re sz b (lo + j) 0)
      | _ => none
  | .ix len sz n x i => match rd tm x with
    | .ag cs => (bound 0 (len - 1 : Int) (rd tm i)).bind fun j => (valOf ((cs.drop (j * sz)).take sz) n).bind (one h nx)
    | _ => none
  | .si x i => match rd tm x, rd tm i with
    | .st s, .int _ n => if 0 ≤ n then match s.data.toList[n.toNat]? with
      | some c => one h nx (.int .u8 c.toNat)
      | none => none else none
    | _, _ => none
  | .ss x lo hi => match rd tm x with
    | .st s => (optInt s.size tm 0 s.size hi).bind fun b => (optInt 0 tm 0 b lo).bind fun a => one h nx (.st (s.extract a b))
    | _ => none
  | .sc sz x lo hi mx => match rd tm x with
    | .ns => (optInt 0 tm 0 0 mx).bind fun _ => (optInt 0 tm 0 0 hi).bind fun _ => (optInt 0 tm 0 0 lo).bind fun _ => one h nx .ns
    | .ls sz' es => if sz' ≠ sz then none else if mx.isSome then
        (optInt 0 tm 0 es.length mx).bind fun m => (optInt 0 tm 0 m hi).bind fun b => (optInt 0 tm 0 b lo).bind fun a =>
          if a = m then one h nx .ez else none
      else (optInt es.length tm 0 es.length hi).bind fun b => (optInt 0 tm 0 b lo).bind fun a => one h nx (.ls sz ((es.drop a).take (b - a)))
    | .ez => (optInt 0 tm 0 0 mx).bind fun _ => (optInt 0 tm 0 0 hi).bind fun _ => (optInt 0 tm 0 0 lo).bind fun _ => one h nx .ez
    | .sl sz' r lo0 len => if sz' ≠ sz || !alive h r then none else if mx.isSome then
        (optInt 0 tm 0 len mx).bind fun m => (optInt 0 tm 0 m hi).bind fun b => (optInt 0 tm 0 b lo).bind fun a =>
          if a = m then one h nx .ez else none
      else
        (optInt len tm 0 len hi).bind fun b => (optInt 0 tm 0 b lo).bind fun a => one h nx (.sl sz r (lo0 + a) (b - a))
    | _ => none
  | .mk sz bytes z t l c => match rd tm l, rd tm c with
    | .int _ a, .int _ b => if 0 ≤ a ∧ a ≤ b ∧ b ≤ maxRoom ∧ bytes * b ≤ maxRoom then some ⟨.sl sz nx 0 a.toNat, ins h nx (.rw false sz (List.replicate a.toNat z) t), nx + 1⟩ else none
    | _, _ => none
  | .mf f caps => if (caps.map (rd tm)).all sclr then one h nx (.fn f (caps.map (rd tm))) else none
  | .ex x i => match rd tm x with
    | .tp vs => match vs[i]? with
      | some v => one h nx v
      | none => none
    | _ => none
  | .le k x => (lenA h k (rd tm x)).bind fun n => one h nx (.int .i64 n)
  | .ap sz bytes t x y => (elems h sz (rd tm x)).bind fun a => (elems h sz (rd tm y)).bind fun b =>
      if (a.length + b.length) * bytes ≤ maxRoom ∧ a.length + b.length ≤ maxRoom ∧ b.flatten.any isUd = false then
        match rd tm x with
        | .ns => if b.length = 0 then one h nx .ns else some ⟨.sl sz nx 0 b.length, ins h nx (.rw false sz b t), nx + 1⟩
        | .ez => if b.length = 0 then one h nx .ez else some ⟨.sl sz nx 0 b.length, ins h nx (.rw false sz b t), nx + 1⟩
        | .sl _ r lo len => match blk h r with
          | .rw false sz' es _ => if sz = sz' ∧ lo + len = es.length then some ⟨.sl sz nx 0 (a.length + b.length), ins (put h r .dd) nx (.rw false sz (a ++ b) t), nx + 1⟩ else none
          | _ => none
        | _ => none
      else none
  | .cp sz x y => match rd tm x with
    | .sl sz0 r lo len => (elems h sz (rd tm y)).bind fun b => match blk h r with
      | .rw false sz' es t => if sz = sz' ∧ sz = sz0 ∧ lo + len ≤ es.length then
          let n := min len b.length
          some ⟨.int .i64 n, put h r (.rw false sz (es.take lo ++ b.take n ++ es.drop (lo + n)) t), nx⟩ else none
      | _ => none
    | .ns => (elems h sz (rd tm y)).bind fun _ => one h nx (.int .i64 0)
    | _ => none
  | .mx xs => match xs.map (rd tm) with
    | .int k a :: l => (l.foldlM maxI a).bind fun m => one h nx (.int k m)
    | .st a :: l => (l.foldlM maxS a).bind fun m => one h nx (.st m)
    | _ => none
  | .mn xs => match xs.map (rd tm) with
    | .int k a :: l => (l.foldlM minI a).bind fun m => one h nx (.int k m)
    | .st a :: l => (l.foldlM minS a).bind fun m => one h nx (.st m)
    | _ => none
  | .mm _ => some ⟨.mp nx, ins h nx (.mp []), nx + 1⟩
  | .lk s z ok x i => if isKey s (rd tm i) then match rd tm x with
      | .nm => one h nx (if ok then .tp [z, .bl false] else z)
      | .mp b => match blk h b with
        | .mp es => match findK (rd tm i) es 0 with
          | some (some (_, v)) => one h nx (if ok then .tp [v, .bl true] else v)
          | some none => one h nx (if ok then .tp [z, .bl false] else z)
          | none => none
        | _ => none
      | _ => none
    else none
  | .mu s x k v => if isKey s (rd tm k) && ok0V (rd tm v) then match rd tm x with
      | .mp b => match blk h b with
        | .mp es => match findK (rd tm k) es 0 with
          | some (some (i, _)) => some ⟨.ud, put h b (.mp (es.set i (rd tm k, rd tm v))), nx⟩
          | some none => some ⟨.ud, put h b (.mp (es ++ [(rd tm k, rd tm v)])), nx⟩
          | none => none
        | _ => none
      | _ => none
    else none
  | .de s x k => if isKey s (rd tm k) then match rd tm x with
      | .mp b => match blk h b with
        | .mp es => match findK (rd tm k) es 0 with
          | some (some (i, _)) => some ⟨.tp [], put h b (.mp (es.eraseIdx i)), nx⟩
          | some none => one h nx (.tp [])
          | none => none
        | _ => none
      | _ => none
    else none
  | .cf .. | .cv .. | .bad => none

def flatC : AV → Bool
  | .int .. | .bl _ | .st _ | .np | .nm | .nf | .ni | .ns | .ez => true
  | .ow _ es => es.all fun e => e.all fun | .int .. | .bl _ | .st _ => true | _ => false
  | _ => false
def flatV : AV → Bool
  | .ag cs => cs.all flatC
  | .tp vs => vs.all fun | .ag cs => cs.all flatC | v => flatC v
  | v => flatC v

def outC (h hk : List (Nat × BK)) (own : Bool) : AV → Option AV
  | .sl sz b lo len => if own then match snapC h (.sl sz b lo len) with
      | some (.ls sz es) => some (.ow sz es)
      | _ => none else snap hk (.sl sz b lo len)
  | v => snap hk v
def outCs (h hk : List (Nat × BK)) (own : List Nat) : Nat → List AV → Option (List AV)
  | _, [] => some []
  | i, v :: vs => match outC h hk (own.contains i) v, outCs h hk own (i + 1) vs with
    | some a, some l => some (a :: l)
    | _, _ => none
def outV (h hk : List (Nat × BK)) (own : List Nat) (i : Nat) : AV → Option AV
  | .ag cs => (outCs h hk own i cs).map .ag
  | v => outC h hk (own.contains i) v
def widthV : AV → Nat
  | .ag cs => cs.length
  | _ => 1
def outVs (h hk : List (Nat × BK)) (own : List Nat) : Nat → List AV → Option (List AV)
  | _, [] => some []
  | i, v :: vs => match outV h hk own i v, outVs h hk own (i + widthV v) vs with
    | some a, some l => some (a :: l)
    | _, _ => none
def handC (own : Bool) : AV → List Nat
  | .sl _ b _ _ => if own then [b] else []
  | _ => []
def handCs (own : List Nat) : Nat → List AV → List Nat
  | _, [] => []
  | i, v :: vs => handC (own.contains i) v ++ handCs own (i + 1) vs
def handV (own : List Nat) (i : Nat) : AV → List Nat
  | .ag cs => handCs own i cs
  | v => handC (own.contains i) v
def handVs (own : List Nat) : Nat → List AV → List Nat
  | _, [] => []
  | i, v :: vs => handV own i v ++ handVs own (i + widthV v) vs
def nodupB : List Nat → Bool
  | [] => true
  | a :: l => !l.contains a && nodupB l

def inC (nx : Nat) : AV → AV × List (Nat × BK) × Nat
  | .ow sz es => (.sl sz nx 0 es.length, [(nx, .rw false sz es 0)], nx + 1)
  | v => (v, [], nx)
def inCs (nx : Nat) : List AV → List AV × List (Nat × BK) × Nat
  | [] => ([], [], nx)
  | v :: vs => let x := inC nx v
    let y := inCs x.2.2 vs
    (x.1 :: y.1, x.2.1 ++ y.2.1, y.2.2)
def inV (nx : Nat) : AV → AV × List (Nat × BK) × Nat
  | .ag cs => let x := inCs nx cs
    (.ag x.1, x.2)
  | v => inC nx v
def inVs (nx : Nat) : List AV → List AV × List (Nat × BK) × Nat
  | [] => ([], [], nx)
  | v :: vs => let x := inV nx v
    let y := inVs x.2.2 vs
    (x.1 :: y.1, x.2.1 ++ y.2.1, y.2.2)
def inR (nx : Nat) : AV → AV × List (Nat × BK) × Nat
  | .tp vs => let x := inVs nx vs
    (.tp x.1, x.2)
  | v => inV nx v

structure Cfg where
  code : FuncId → Option CF
  own : FuncId → List Nat
  inl : FuncId → Bool
  ext : FuncId → List AV → Option AV
  kl : FuncId → Bool := fun _ => false
  wr : FuncId → List AV → List (Nat × BK) → Nat → Option Ef := fun _ _ _ _ => none

def results (S : St) : List CR → Option (List AV)
  | [] => some []
  | .tm t :: rs => match look .ud S.tm t with
    | .tp _ => none
    | v => (results S rs).map (v :: ·)
  | .cl t n :: rs => match loadA S.h n (look .ud S.tm t), results S rs with
    | some v, some l => some (v :: l)
    | _, _ => none

def pack : List AV → AV
  | [v] => v
  | vs => .tp vs

def entry (args : List AV) (i : Nat := 0) : List (Nat × AV) :=
  match args with
  | [] => []
  | a :: as => (i, a) :: entry as (i + 1)

def refsB : BK → List Nat
  | .rw true _ es _ => es.flatMap fun cs => cs.flatMap refs
  | _ => []
def okP (p : Nat → Bool) : AV → Bool
  | .re _ b _ _ => p b
  | .int .. | .bl _ | .st _ | .np | .nm | .nf | .ni | .ns | .ez | .ls .. | .ri .. => true
  | _ => false
def okC (p : Nat → Bool) : AV → Bool
  | .sl _ b _ _ | .re _ b _ _ | .mp b => p b
  | .fn _ caps => caps.all (okP p)
  | .ag _ | .tp _ | .ow .. => false
  | _ => true
def renP (r : Nat → Nat) : AV → AV
  | .re sz b i off => .re sz (r b) i off
  | v => v
def ren (r : Nat → Nat) : AV → AV
  | .sl sz b lo len => .sl sz (r b) lo len
  | .re sz b i off => .re sz (r b) i off
  | .mp b => .mp (r b)
  | .fn f caps => .fn f (caps.map (renP r))
  | v => v
def lrC (p : Nat → Bool) (r : Nat → Nat) (c : AV) : AV := if okC p c then ren r c else .ud
def lrW (p : Nat → Bool) (r : Nat → Nat) : AV → AV
  | .ag cs => .ag (cs.map (lrC p r))
  | v => lrC p r v
def lrV (p : Nat → Bool) (r : Nat → Nat) : AV → AV
  | .tp vs => .tp (vs.map (lrW p r))
  | v => lrW p r v
def lrB (p : Nat → Bool) (r : Nat → Nat) : BK → BK
  | .rw true sz es t => .rw true sz (es.map fun cs => cs.map (lrC p r)) t
  | b => b
def okV (p : Nat → Bool) : AV → Bool
  | .ag cs => cs.all (okC p)
  | v => okC p v
def reach (h : List (Nat × BK)) (bs : Nat) : Nat → List Nat → List Nat → List Nat
  | 0, _, seen => seen
  | _ + 1, [], seen => seen
  | n + 1, b :: todo, seen => if b < bs || seen.contains b then reach h bs n todo seen else
    match blk h b with
    | .dd => reach h bs n todo seen
    | k => reach h bs n (refsB k ++ todo) (seen ++ [b])
def idxOf : List Nat → Nat → Nat → Nat
  | [], _, n => n
  | a :: l, b, n => if a = b then n else idxOf l b (n + 1)
def num (f : Nat → BK) : Nat → List Nat → List (Nat × BK)
  | _, [] => []
  | n, b :: l => (n, f b) :: num f (n + 1) l
def canon (live : List Nat) (S : St) : St :=
  let old := S.h.filter fun p => p.1 < S.bs
  let m := reach S.h S.bs 4096 (live.flatMap (fun t => refsV (look .ud S.tm t)) ++ old.flatMap fun p => refsB p.2) []
  let p : Nat → Bool := fun b => decide (b < S.bs) || m.contains b
  let r : Nat → Nat := fun b => if b < S.bs then b else idxOf m b S.bs
  { tm := live.map fun t => (t, lrV p r (look .ud S.tm t)), h := old.map (fun q => (q.1, lrB p r q.2)) ++ num (fun b => lrB p r (blk S.h b)) S.bs m, nx := S.bs + m.length, bs := S.bs }

def opdT : Opd → List Nat
  | .t n => [n]
  | .c _ => []
def optT : Option Opd → List Nat
  | some x => opdT x
  | none => []
def readsO : COp → List Nat
  | .mv x | .bx _ x | .ld _ x | .nc x | .nq _ _ x | .un _ x | .ci _ x | .cs _ x | .cv1 x | .cb x | .fa _ x | .fd _ _ x | .ex x _ | .le _ x => opdT x
  | .pk c a b => opdT c ++ opdT a ++ opdT b
  | .al .. | .mm _ | .bad => []
  | .bd _ ps => ps.flatMap fun p => opdT p.2.2
  | .bs _ _ _ _ ps => ps.flatMap fun p => opdT p.2
  | .sr _ x y | .bn _ x y | .ea _ _ x y | .eb _ x y | .ia _ _ x y | .ix _ _ _ x y | .si x y | .mk _ _ _ _ x y | .ap _ _ _ x y | .cp _ x y | .lk _ _ _ x y | .de _ x y => opdT x ++ opdT y
  | .ss x lo hi => opdT x ++ optT lo ++ optT hi
  | .sc _ x lo hi mx => opdT x ++ optT lo ++ optT hi ++ optT mx
  | .mf _ xs | .cf _ xs | .mx xs | .mn xs => xs.flatMap opdT
  | .cv x xs => opdT x ++ xs.flatMap opdT
  | .mu _ x y z => opdT x ++ opdT y ++ opdT z
def readsI (o : CI) : List Nat := (match o.guard with | some (t, _) => [t] | none => []) ++ readsO o.op
def clo (h : List (Nat × BK)) : Nat → List Nat → List Nat → List Nat
  | 0, _, seen => seen
  | _ + 1, [], seen => seen
  | n + 1, b :: todo, seen => if seen.contains b then clo h n todo seen else clo h n (refsB (blk h b) ++ todo) (b :: seen)
def lotH (h : List (Nat × BK)) (U A : List Nat) : List (Nat × BK) := A.map fun b => (b, lrB (U.contains ·) id (blk h b))
def lotT (tm : List (Nat × AV)) (U : List Nat) (ts : List Nat) : List (Nat × AV) := ts.map fun t => (t, lrV (U.contains ·) id (look .ud tm t))
def over (h : List (Nat × BK)) (f : Nat → BK) : List Nat → List (Nat × BK)
  | [] => h
  | b :: l => put (over h f l) b (f b)
def domD (U : List Nat) (a n : Nat) : Nat → Bool := fun b => U.contains b || (decide (a ≤ b) && decide (b < n))
def upto : Nat → Nat → List Nat
  | _, 0 => []
  | a, n + 1 => a :: upto (a + 1) n

def qOp (tm : List (Nat × AV)) : COp → Bool
  | .sr .. | .ap .. | .cp .. | .mu .. | .de .. => false
  | .bs _ _ _ _ l => (l.flatMap fun p => refsV (rd tm p.2)).isEmpty
  | _ => true

section
variable (g : Cfg)

def callP (run : CC → St → Option (EX × St)) (f : FuncId) (args : List AV) : Option AV :=
  match g.ext f args with
  | some r => some r
  | none => match g.code f with
    | none => none
    | some c => if c.np < args.length then none else match run c.code { tm := entry args, h := [], nx := 0, bs := 0 } with
      | some (.xt _, _) | none => none
      | some (_, S) => match results S c.res with
        | some vs => if nodupB (handVs (g.own f) 0 vs) then (outVs S.h (kill S.h (handVs (g.own f) 0 vs)) (g.own f) 0 vs).map pack else none
        | none => none

def inlA (run : CC → St → Option (EX × St)) (c : CF) (args : List AV) (h : List (Nat × BK)) (nx : Nat) (us : List Nat) : Option Ef :=
  if c.np < args.length then none else if us.all (· < nx) then
    match run c.code { tm := entry (args.map (lrV (us.contains ·) id)), h := lotH h us us, nx := nx, bs := nx } with
    | some (.xt _, _) | none => none
    | some (_, S) => match results S c.res with
      | some vs => some ⟨lrV (domD us nx S.nx) id (pack vs), over h (fun b => lrB (domD us nx S.nx) id (blk S.h b)) (upto nx (S.nx - nx) ++ us), S.nx⟩
      | none => none
  else none
def callA (run : CC → St → Option (EX × St)) (f : FuncId) (args : List AV) (h : List (Nat × BK)) (nx : Nat) : Option Ef :=
  if g.inl f then
    match g.code f with
    | none => g.wr f args h nx
    | some c => inlA run c args h nx (clo h 64 (args.flatMap refsV) [])
  else
    match snapL (snapV h) args with
    | none => none
    | some as => match callP g run f as with
      | none => none
      | some r =>
        if g.kl f then
          if (args.flatMap refsV).all (isRow h) then
            let x := inR nx r
            some ⟨x.1, x.2.1 ++ kill h (args.flatMap refsV), x.2.2⟩
          else none
        else if args.all (okV fun _ => false) || flatV r then
          let x := inR nx r
          some ⟨x.1, x.2.1 ++ h, x.2.2⟩
        else none

def opC (run : CC → St → Option (EX × St)) (tm : List (Nat × AV)) (h : List (Nat × BK)) (nx : Nat) : COp → Option Ef
  | .cf f args => callA g run f (args.map (rd tm)) h nx
  | .cv x args => match rd tm x with
    | .fn f caps => if fnU f args then callA g run (fnN f) (args.map (rd tm) ++ caps) h nx else none
    | _ => none
  | op => opA tm h nx op

def wants (tm : List (Nat × AV)) : Option (Nat × Bool) → Option Bool
  | none => some true
  | some (t, want) => match look .ud tm t with
    | .bl b => some (b == want)
    | .tp [] => some false
    | _ => none

def oneC (run : CC → St → Option (EX × St)) (tm : List (Nat × AV)) (h : List (Nat × BK)) (nx : Nat) (o : CI) : Option Ef :=
  match wants tm o.guard with
  | some true => opC g run tm h nx o.op
  | some false => some ⟨.tp [], h, nx⟩
  | none => none
def putD (d : Option Nat) (v : AV) (tm : List (Nat × AV)) : List (Nat × AV) :=
  match d with
  | some d => (d, v) :: tm
  | none => tm

def opsC (run : CC → St → Option (EX × St)) : List CI → St → Option St
  | [], S => some S
  | o :: l, S => match oneC g run S.tm S.h S.nx o with
    | some e => if S.bs ≤ e.nx then opsC run l { tm := putD o.dst e.v S.tm, h := e.h, nx := e.nx, bs := S.bs } else none
    | none => none

def qI (tm : List (Nat × AV)) (o : CI) : Bool :=
  match o.op with
  | .cf f _ => !g.inl f && !g.kl f
  | .cv x _ => match rd tm x with
    | .fn f _ => !g.inl (fnN f) && !g.kl (fnN f)
    | _ => false
  | op => qOp tm op

def wI (tm : List (Nat × AV)) (h : List (Nat × BK)) (o : CI) (us : List Nat) : List Nat :=
  if qI g tm o then [] else match o.op with
  | .sr _ a _ => match rd tm a with
    | .re _ b _ _ => match blk h b with
      | .rw true _ _ _ => if us.contains b then [b] else us
      | _ => us
    | _ => us
  | _ => us

structure Foot where
  ix : Nat
  us : List Nat
  ac : List Nat
  fr : List Nat
  wr : List Nat

def agn : COp → Bool
  | .mv .. | .pk .. | .bd .. | .bn .. | .ea .. | .eb .. | .un .. | .ci .. | .cv1 .. | .fd .. | .ix .. | .si .. | .ss .. | .ex .. | .mf .. | .mx .. | .mn .. => true
  | _ => false

def away (l m : List Nat) : Bool := l.all fun b => !m.contains b

def parC (run : CC → St → Option (EX × St)) : List (CI × List Nat) → Nat → List Foot → St → Option St
  | [], _, _, S => some S
  | (o, dp) :: l, ix, fs, S =>
    let us := clo S.h 64 ((readsI o).flatMap fun t => refsV (look .ud S.tm t)) []
    let ac := if agn o.op then [] else us
    let tm := lotT S.tm us (readsI o)
    if us.all (· < S.nx) then
      match oneC g run tm (lotH S.h us ac) S.nx o with
      | some e =>
        let fr := upto S.nx (e.nx - S.nx)
        let wr := fr ++ wI g tm (lotH S.h us ac) o us
        if S.nx ≤ e.nx && fs.all (fun f => dp.contains f.ix || (away f.wr ac && away wr f.ac && away f.fr us && away fr f.us && away f.wr wr)) then
          parC run l (ix + 1) (⟨ix, us, ac, fr, wr⟩ :: fs) { tm := putD o.dst (lrV (domD us S.nx e.nx) id e.v) S.tm, h := over S.h (fun b => lrB (domD us S.nx e.nx) id (blk e.h b)) wr, nx := e.nx, bs := S.bs }
        else none
      | none => none
    else none

def stepC (run : CC → St → Option (EX × St)) : CC → St → Option (EX × St)
  | .sk, S => some (.nm, S)
  | .rg ops, S => (opsC g run ops S).map fun S => (.nm, S)
  | .rd ops, S => (parC g run ops 0 [] S).map fun S => (.nm, S)
  | .sq a b, S => match stepC run a S with
    | some (.nm, S) => stepC run b S
    | r => r
  | .cd c a b, S => match rd S.tm c with
    | .bl true => stepC run a S
    | .bl false => stepC run b S
    | _ => none
  | .bk id b, S => match stepC run b S with
    | some (.xt j, S) => some (if j = id then .nm else .xt j, S)
    | r => r
  | .lp live b, S => match stepC run b (canon live S) with
    | some (.nm, S) => run (.lp live b) S
    | r => r
  | .xt id, S => some (.xt id, S)
  | .rt, S => some (.rt, S)
  | .no, _ => none

def evalC : Nat → CC → St → Option (EX × St)
  | 0, _, _ => none
  | k + 1, c, S => stepC g (evalC k) c S

def evalP (k : Nat) (f : FuncId) (args : List AV) : Option AV := callP g (evalC g k) f args
end
end Go.Am
namespace Go.Am

def ofScalar : Value → Option AV
  | .int k n => some (.int k n)
  | .bool b => some (.bl b)
  | .string s => some (.st s)
  | .pointer none => some .np
  | .map none => some .nm
  | .nilFunc => some .nf
  | .nilIface => some .ni
  | .slice none 0 0 => some .ns
  | .func (.func f) first caps => if first.size = 0 ∧ caps.size = 0 ∧ f < fnB then some (.fn f []) else none
  | _ => none
def ofConst : Value → Option AV
  | .agg cs => (cs.toList.mapM ofScalar).map .ag
  | v => ofScalar v
def ofOpd : Operand → Option Opd
  | .tmp t => some (.t t)
  | .const v => (ofConst v).map .c
  | .func f => if f < fnB then some (.c (.fn f [])) else none
  | .global _ => none
def ofOpt : Option Operand → Option (Option Opd)
  | none => some none
  | some x => (ofOpd x).map some
def zeroOf (P : Program) (t : TypeId) : Option (List AV) := do
  let i ← P.info? t
  let z ← i.zero
  let cs ← z.cells.toList.mapM ofScalar
  if cs.length = i.size then some cs else none
def isAggT (P : Program) (t : TypeId) : Option Bool := do
  match ← P.underlying t with
  | .struct _ | .array _ _ => some true
  | _ => some false
def shapeT (P : Program) (t : TypeId) : Option (Option Nat) := do
  if ← isAggT P t then some (some (P.cellsOf t)) else some none
def flatG (P : Program) (fl : TypeId → Option (List Nat)) : List Field → Nat → Option (List Nat)
  | [], _ => some []
  | f :: fs, k => if f.name = "_" ∨ f.offset ≠ k then none else match fl f.type with
    | some ks => if P.cellsOf f.type = ks.length ∧ (P.info? f.type).isSome then match flatG P fl fs (k + ks.length) with
      | some l => some (ks ++ l)
      | none => none else none
    | none => none
def flatE (P : Program) : Nat → TypeId → Option (List Nat)
  | 0, _ => none
  | n + 1, t => match P.underlying t with
    | some .bool => some [0]
    | some (.int _) => some [1]
    | some .string => some [2]
    | some (.struct fs) => if P.stoodInHeld t then none else flatG P (flatE P n) fs.toList 0
    | _ => none
def eqKs (P : Program) (t : TypeId) : Option (List Nat) :=
  if P.eqGuardType P.depth t then none else match P.underlying t with
    | some (.struct _) => flatE P 20 t
    | _ => none
def elemT (P : Program) (t : TypeId) : Option TypeId := do
  match ← P.underlying t with
  | .slice e => some e
  | _ => none
def nilKind : TypeDesc → Operand → Option Nat
  | .pointer _, .const (.pointer none) => some 0
  | .slice _, .const (.slice none 0 0) => some 1
  | .interface _, .const .nilIface => some 2
  | .func _ _ _, .const .nilFunc => some 3
  | .map _ _, .const (.map none) => some 4
  | _, _ => none
def nilCmp (neg : Bool) (d : TypeDesc) (x y : Operand) : Option COp :=
  match nilKind d y with
  | some k => (ofOpd x).map (.nq neg k)
  | none => none
def keyS (P : Program) (k : TypeId) : Option Bool :=
  match P.underlying k with
  | some (.int _) => some false
  | some .string => some true
  | _ => none
def zeroAV (P : Program) (t : TypeId) : Option AV :=
  match P.info? t with
  | some i => match i.zero with
    | some v => ofConst v
    | none => none
  | none => none
def compOp0 (P : Program) (o : Oper) : Option COp := do
  match o.op with
  | .move x | .assign x => some (.mv (← ofOpd x))
  | .pick c a b => some (.pk (← ofOpd c) (← ofOpd a) (← ofOpd b))
  | .alloc t => some (.al (← zeroOf P t) t)
  | .box t x => some (.bx t (← ofOpd x))
  | .build t ps => do
    let z ← zeroOf P t
    match ← P.underlying t with
    | .struct fs => do
      let places ← fs.toList.mapM (fun f => (P.info? f.type).map fun i => (f.offset, i.size))
      let l ← ps.toList.mapM fun p => do
        let q ← places[p.1]?
        let x ← ofOpd p.2
        some (q.1, q.2, x)
      some (.bd z l)
    | .array _ e => do
      let ie ← P.info? e
      let l ← ps.toList.mapM fun p => do
        let x ← ofOpd p.2
        some (p.1 * ie.size, ie.size, x)
      some (.bd z l)
    | _ => none
  | .buildSlice t len ps => do
    let e ← elemT P t
    let l ← ps.toList.mapM fun p => do
      let x ← ofOpd p.2
      if p.1 < len then some (p.1, x) else none
    let z ← zeroOf P e
    if len * P.cellsOf e ≤ 2 ^ 24 then some (.bs (P.cellsOf e) len z e l) else none
  | .load t a => some (.ld (← shapeT P t) (← ofOpd a))
  | .store t a x => if (P.info? t).isSome then do some (.sr (P.cellsOf t) (← ofOpd a) (← ofOpd x)) else none
  | .nilCheck x => some (.nc (← ofOpd x))
  | .binOp op t x y _ => do
    match op, ← P.underlying t with
    | .eql, .bool => some (.eb false (← ofOpd x) (← ofOpd y))
    | .neq, .bool => some (.eb true (← ofOpd x) (← ofOpd y))
    | .eql, .struct _ => some (.ea false (← eqKs P t) (← ofOpd x) (← ofOpd y))
    | .neq, .struct _ => some (.ea true (← eqKs P t) (← ofOpd x) (← ofOpd y))
    | .eql, .pointer e => nilCmp false (.pointer e) x y
    | .neq, .pointer e => nilCmp true (.pointer e) x y
    | .eql, .slice e => nilCmp false (.slice e) x y
    | .neq, .slice e => nilCmp true (.slice e) x y
    | .eql, .interface e => nilCmp false (.interface e) x y
    | .neq, .interface e => nilCmp true (.interface e) x y
    | .eql, .func e f g => nilCmp false (.func e f g) x y
    | .neq, .func e f g => nilCmp true (.func e f g) x y
    | .eql, .map e f => nilCmp false (.map e f) x y
    | .neq, .map e f => nilCmp true (.map e f) x y
    | _, .int _ | _, .string => some (.bn op (← ofOpd x) (← ofOpd y))
    | _, _ => none
  | .unOp op _ x => some (.un op (← ofOpd x))
  | .convert s d x => do
    match ← P.underlying s, ← P.underlying d with
    | .int _, .int k => some (.ci k (← ofOpd x))
    | .string, .string => some (.cv1 (← ofOpd x))
    | .slice e, .string => do
      match ← P.underlying e with
      | .int .u8 => some (.cb (← ofOpd x))
      | _ => none
    | .string, .slice e => do
      match ← P.underlying e with
      | .int .u8 => if P.cellsOf e = 1 then some (.cs e (← ofOpd x)) else none
      | _ => none
    | _, _ => none
  | .fieldAddr t x f => do
    match ← P.underlying t with
    | .struct fs => do
      let f ← fs[f]?
      if P.cellsOf f.type = 0 then none else some (.fa f.offset (← ofOpd x))
    | _ => none
  | .field t x f => do
    match ← P.underlying t with
    | .struct fs => do
      let f ← fs[f]?
      some (.fd f.offset (← shapeT P f.type) (← ofOpd x))
    | _ => none
  | .indexAddr t x i => do
    match ← P.underlying t with
    | .array len e => if (P.info? e).isSome then do some (.ia (some len) (P.cellsOf e) (← ofOpd x) (← ofOpd i)) else none
    | .slice e => if (P.info? e).isSome then do some (.ia none (P.cellsOf e) (← ofOpd x) (← ofOpd i)) else none
    | _ => none
  | .index t x i => do
    match ← P.underlying t with
    | .array len e => do
      let n ← shapeT P e
      if n = none ∧ P.cellsOf e ≠ 1 then none else some (.ix len (P.cellsOf e) n (← ofOpd x) (← ofOpd i))
    | .string => some (.si (← ofOpd x) (← ofOpd i))
    | _ => none
  | .slice t x lo hi mx => do
    let lo ← ofOpt lo
    let hi ← ofOpt hi
    let mx ← ofOpt mx
    match ← P.underlying t with
    | .string => if mx.isSome then none else some (.ss (← ofOpd x) lo hi)
    | .slice e => if (mx.isSome && hi.isNone) || (P.info? e).isNone then none else some (.sc (P.cellsOf e) (← ofOpd x) lo hi mx)
    | _ => none
  | .makeSlice t l c => do
    let e ← elemT P t
    some (.mk (P.cellsOf e) (P.bytesOf e) (← zeroOf P e) e (← ofOpd l) (← ofOpd c))
  | .makeFunc (.func f) first caps => if first.size = 0 then (if f < fnB then do some (.mf f (← caps.toList.mapM ofOpd)) else none) else if caps.size = 0 then do some (.mf (f + fnB) (← first.toList.mapM ofOpd)) else none
  | .extract x i => some (.ex (← ofOpd x) i)
  | .makeMap t none => some (.mm t)
  | .lookup t x i ok => do
    match ← P.underlying t with
    | .map k e => some (.lk (← keyS P k) (← zeroAV P e) ok (← ofOpd x) (← ofOpd i))
    | _ => none
  | .mapUpdate t m k v | .insert t m k v => do
    match ← P.underlying t with
    | .map kt _ => some (.mu (← keyS P kt) (← ofOpd m) (← ofOpd k) (← ofOpd v))
    | _ => none
  | .call c => do
    let as ← c.args.toList.mapM ofOpd
    match c.callee, as with
    | .value (.func f), as => some (.cf f as)
    | .value x, as => some (.cv (← ofOpd x) as)
    | .builtin .len, [x] => do
      match ← P.underlying (← c.argTypes[0]?) with
      | .string => some (.le 0 x)
      | .slice _ => some (.le 1 x)
      | .map _ _ => some (.le 2 x)
      | _ => none
    | .builtin .append, [x, y] => do
      match c.argTypes.toList with
      | [t0, t1] => do
        let e ← elemT P t0
        match ← P.underlying t1 with
        | .int _ => none
        | _ => do
          let _ ← zeroOf P e
          some (.ap (P.cellsOf e) (P.bytesOf e) e x y)
      | _ => none
    | .builtin .delete, [x, k] => do
      match ← P.underlying (← c.argTypes[0]?) with
      | .map kt _ => some (.de (← keyS P kt) x k)
      | _ => none
    | .builtin .max, as => some (.mx as)
    | .builtin .min, as => some (.mn as)
    | _, _ => none
  | _ => none
def compOp (P : Program) (o : Oper) : Option COp := some ((compOp0 P o).getD .bad)
def dstOk (nt : Nat) : Option Tmp → Bool
  | some d => d < nt
  | none => true
def gdOf (ops : Array Oper) : Option (Nat × Bool) → Option (Option (Nat × Bool))
  | none => some none
  | some (j, b) => do some (some (← (← ops[j]?).dst, b))
def compR (P : Program) (nt : Nat) (ops : Array Oper) : Option (List CI) :=
  ops.toList.mapM fun o => do
    let gd ← gdOf ops o.guard
    let c ← compOp P o
    if dstOk nt o.dst then some { dst := o.dst, op := c, guard := gd } else none
def depsR : List Oper → List (List Nat) → List (List Nat)
  | [], acc => acc
  | o :: l, acc => depsR l (acc ++ [(o.after.toList.filter (Region.binds .any)).foldl (fun s e => if s.contains e.on then s else e.on :: (acc.getD e.on []).foldl (fun s i => if s.contains i then s else i :: s) s) []])
def apartR : List (CI × List Nat) → List (Nat × CI) → Nat → Bool
  | [], _, _ => true
  | (o, dp) :: l, bef, ix => dp.all (· < ix) && bef.all (fun p => dp.contains p.1 ||
      (match p.2.dst with | some d => !(readsI o).contains d && o.dst != some d | none => true) && (match o.dst with | some d => !(readsI p.2).contains d | none => true)) &&
      apartR l ((ix, o) :: bef) (ix + 1)
def compC (P : Program) (nt : Nat) (live : Nat → List Nat) : Code → Nat → Option (CC × Nat)
  | .skip, n => some (.sk, n)
  | .region _ ops false, n => some (match compR P nt ops with | some l => .rg l | none => .no, n)
  | .region _ ops true, n => some (match compR P nt ops with
    | some l =>
      let l := l.zip (depsR ops.toList [])
      if apartR l [] 0 && l.length = ops.size then .rd l else .no
    | none => .no, n)
  | .seq a b, n => do
    let (x, n) ← compC P nt live a n
    let (y, n) ← compC P nt live b n
    some (.sq x y, n)
  | .cond c a b, n => do
    let (x, n) ← compC P nt live a n
    let (y, n) ← compC P nt live b n
    some (match ofOpd c with | some c => .cd c x y | none => .no, n)
  | .block id b, n => do
    let (x, n) ← compC P nt live b n
    some (.bk id x, n)
  | .loop b, n => do
    let (x, m) ← compC P nt live b (n + 1)
    some (.lp (live n) x, m)
  | .exit id, n => some (.xt id, n)
  | .ret, n => some (.rt, n)
  | _, n => some (.no, n)
def compF (P : Program) (live : Nat → List Nat) (fn : Func) : Option CF := do
  let b ← fn.body
  let (c, _) ← compC P fn.ntmps live b 0
  let rs ← fn.results.toList.mapM fun
    | .tmp t => some (CR.tm t)
    | .cell a t => do some (.cl a (← shapeT P t))
  if fn.name == "runtime.NumGoroutine" then none else some { np := fn.ntmps, code := c, res := rs }
end Go.Am
namespace Go.Am

inductive All2 {α β : Type} (R : α → β → Prop) : List α → List β → Prop
  | nil : All2 R [] []
  | cons {a b as bs} : R a b → All2 R as bs → All2 R (a :: as) (b :: bs)

section all2
variable {α β : Type} {R S : α → β → Prop} {as : List α} {bs : List β}
theorem All2.length (h : All2 R as bs) : as.length = bs.length := by
  induction h with
  | nil => rfl
  | cons _ _ ih => simp [ih]
theorem All2.mono (hRS : ∀ a b, R a b → S a b) (h : All2 R as bs) : All2 S as bs := by
  induction h with
  | nil => exact .nil
  | cons h1 _ ih => exact .cons (hRS _ _ h1) ih
theorem All2.get (h : All2 R as bs) : ∀ (i : Nat) (a : α), as[i]? = some a → ∃ b, bs[i]? = some b ∧ R a b := by
  induction h with
  | nil => intro i a h; simp at h
  | cons h1 _ ih =>
    intro i a hi
    cases i with
    | zero => simp at hi; subst hi; exact ⟨_, by simp, h1⟩
    | succ i => simpa using ih i a (by simpa using hi)
theorem All2.append {as' bs'} (h : All2 R as bs) (h' : All2 R as' bs') : All2 R (as ++ as') (bs ++ bs') := by
  induction h with
  | nil => exact h'
  | cons h1 _ ih => exact .cons h1 ih
theorem All2.take (h : All2 R as bs) (n : Nat) : All2 R (as.take n) (bs.take n) := by
  induction h generalizing n with
  | nil => simp; exact .nil
  | cons h1 _ ih => cases n with
    | zero => simp; exact .nil
    | succ n => simpa using .cons h1 (ih n)
theorem All2.drop (h : All2 R as bs) (n : Nat) : All2 R (as.drop n) (bs.drop n) := by
  induction h generalizing n with
  | nil => simp; exact .nil
  | cons h1 h2 ih => cases n with
    | zero => simpa using All2.cons h1 h2
    | succ n => simpa using ih n
theorem All2.of_get (hl : as.length = bs.length) (h : ∀ (i : Nat) (a : α) (b : β), as[i]? = some a → bs[i]? = some b → R a b) : All2 R as bs := by
  induction as generalizing bs with
  | nil => cases bs with
    | nil => exact .nil
    | cons => simp at hl
  | cons a as ih => cases bs with
    | nil => simp at hl
    | cons b bs => exact .cons (h 0 a b rfl rfl) (ih (by simpa using hl) fun i x y hx hy => h (i + 1) x y (by simpa using hx) (by simpa using hy))
end all2

abbrev MU := Nat → Option (Option (Nat × Nat))

abbrev CellsAt (w : World) (ib io sz : Nat) (es : List (List AV)) (u : Nat → Nat → Value) : Prop :=
  ∀ (i : Nat) (e : List AV) (j : Nat) (c : AV), es[i]? = some e → e[j]? = some c → w.cell? ⟨ib, io + i * sz + j, none⟩ = some (u i j)

def M0 : MU := fun _ => none

def FnK (f f' : FuncId) (vs fs us : Array Value) : Prop := (f < fnB ∧ f' = f ∧ fs = #[] ∧ us = vs) ∨ (fnB ≤ f ∧ f' = f - fnB ∧ fs = vs ∧ us = #[])

inductive Rp (I : Nat → Prop) : MU → World → AV → Value → Prop
  | int {M : MU} {w : World} (k : IntKind) (n : Int) : Rp I M w (.int k n) (.int k n)
  | bl {M : MU} {w : World} (b : Bool) : Rp I M w (.bl b) (.bool b)
  | st {M : MU} {w : World} (s : ByteArray) : Rp I M w (.st s) (.string s)
  | np {M : MU} {w : World} : Rp I M w .np (.pointer none)
  | nm {M : MU} {w : World} : Rp I M w .nm (.map none)
  | nf {M : MU} {w : World} : Rp I M w .nf .nilFunc
  | ni {M : MU} {w : World} : Rp I M w .ni .nilIface
  | ns {M : MU} {w : World} : Rp I M w .ns (.slice none 0 0)
  | ez {M : MU} {w : World} (A : Option Addr) : Rp I M w .ez (.slice A 0 0)
  | ud {M : MU} {w : World} (v : Value) : Rp I M w .ud v
  | lsN {M : MU} {w : World} (sz : Nat) (A : Addr) (cap : Nat) : Rp I M w (.ls sz []) (.slice (some A) 0 cap)
  | ls {M : MU} {w : World} (sz : Nat) (es : List (List AV)) (ib io cap : Nat) (u : Nat → Nat → Value) (hne : es ≠ []) (hcap : es.length ≤ cap) (hsz : ∀ e ∈ es, e.length = sz) (hI : I ib)
      (hc : CellsAt w ib io sz es u) (hr : ∀ (i : Nat) (e : List AV) (j : Nat) (c : AV), es[i]? = some e → e[j]? = some c → Rp I M0 w c (u i j)) :
      Rp I M w (.ls sz es) (.slice (some ⟨ib, io, none⟩) es.length cap)
  | ri {M : MU} {w : World} (sz : Nat) (es : List (List AV)) (i off ib io : Nat) (u : Nat → Nat → Value) (hsz : ∀ e ∈ es, e.length = sz) (hI : I ib)
      (hc : CellsAt w ib io sz es u) (hr : ∀ (i : Nat) (e : List AV) (j : Nat) (c : AV), es[i]? = some e → e[j]? = some c → Rp I M0 w c (u i j)) :
      Rp I M w (.ri sz es i off) (.pointer (some ⟨ib, io + i * sz + off, none⟩))
  | slD {M : MU} {w : World} (sz b lo len : Nat) (v : Value) (hM : M b = some none) (hv : v.oneCell' = true) : Rp I M w (.sl sz b lo len) v
  | sl {M : MU} {w : World} (sz b lo len rb o cap : Nat) (ad : Addr) (t : TypeId) (n : Nat) (hM : M b = some (some (rb, o))) (hlc : len ≤ cap) (had : 0 < cap → ad = ⟨rb, o + lo * sz, none⟩)
      (hs : w.shape? rb = some (t, n)) (hn : o + (lo + cap) * sz ≤ n) : Rp I M w (.sl sz b lo len) (.slice (some ad) len cap)
  | reD {M : MU} {w : World} (sz b i off : Nat) (v : Value) (hM : M b = some none) (hv : v.oneCell' = true) : Rp I M w (.re sz b i off) v
  | re {M : MU} {w : World} (sz b i off rb o : Nat) (hM : M b = some (some (rb, o))) : Rp I M w (.re sz b i off) (.pointer (some ⟨rb, o + i * sz + off, none⟩))
  | fn {M : MU} {w : World} (f : FuncId) (caps : List AV) (vs : Array Value) (hl : caps.length = vs.toList.length) (hr : ∀ (i : Nat) (c : AV) (v : Value), caps[i]? = some c → vs.toList[i]? = some v → Rp I M w c v)
      (f' : FuncId) (fs us : Array Value) (hk : FnK f f' vs fs us) : Rp I M w (.fn f caps) (.func (.func f') fs us)
  | mpD {M : MU} {w : World} (b : Nat) (v : Value) (hM : M b = some none) (hv : v.oneCell' = true) : Rp I M w (.mp b) v
  | mp {M : MU} {w : World} (b rb : Nat) (hM : M b = some (some (rb, 0))) : Rp I M w (.mp b) (.map (some rb))

def RpW (I : Nat → Prop) (M : MU) (w : World) : AV → Value → Prop
  | .ag cs, v => ∃ vs : Array Value, v = .agg vs ∧ All2 (Rp I M w) cs vs.toList
  | c, v => Rp I M w c v
def RpV (I : Nat → Prop) (M : MU) (w : World) : AV → Value → Prop
  | .tp as, v => ∃ vs : Array Value, v = .tuple vs ∧ All2 (RpW I M w) as vs.toList
  | c, v => RpW I M w c v

def Mv (v : Bool) (M : MU) : MU := if v then M else M0

def RpB (I : Nat → Prop) (M : MU) (w : World) (b : Nat) : BK → Prop
  | .dd => True
  | .rw v sz es _ => ∃ rb o arr t lo hi, M b = some (some (rb, o)) ∧ w.heap[rb]? = some (.cells arr t (lo, hi)) ∧ (hi ≤ lo ∨ arr.size ≤ lo) ∧ (v = true → es.length = 1 ∧ o = 0) ∧
      (∀ e ∈ es, e.length = sz) ∧ ∀ (i : Nat) (e : List AV) (j : Nat) (c : AV), es[i]? = some e → e[j]? = some c → ∃ u, arr[o + i * sz + j]? = some u ∧ Rp I (Mv v M) w c u
  | .mp es => ∃ rb ents clock, M b = some (some (rb, 0)) ∧ w.heap[rb]? = some (.map ents clock) ∧ MapKept.Stamped ents clock ∧
      All2 (fun (p : AV × AV) (e : MapEntry) => Rp I M0 w p.1 e.key ∧ RpW I M0 w p.2 e.val) es ents.toList

def owned (M : MU) (rb : Nat) : Prop := ∃ b o, M b = some (some (rb, o))

structure SimH (I : Nat → Prop) (M : MU) (h : List (Nat × BK)) (nx : Nat) (w : World) : Prop where
  blks : ∀ b, RpB I M w b (blk h b)
  inj : ∀ a b rb oa ob, M a = some (some (rb, oa)) → M b = some (some (rb, ob)) → a = b
  sep : ∀ rb, owned M rb → ¬ I rb
  bnd : ∀ rb, owned M rb → rb < w.heap.size
  ibd : ∀ b, I b → b < w.heap.size
  fr : ∀ b, nx ≤ b → M b = none

structure SimT (I : Nat → Prop) (M : MU) (tm : List (Nat × AV)) (nt : Nat) (tmps : Array Value) (w : World) : Prop where
  size : tmps.size = nt
  get : ∀ t, RpV I M w (look .ud tm t) (tmps.getD t undef)

def LoseD : Prop := True
def DLe (w w' : World) : Prop := LoseD ∨ w.drawn ≤ w'.drawn
theorem DLe.refl (w : World) : DLe w w := .inr (Nat.le_refl _)
theorem DLe.of {w w' : World} (h : w.drawn ≤ w'.drawn) : DLe w w' := .inr h
theorem DLe.trans {w w' w'' : World} (h : DLe w w') (k : DLe w' w'') : DLe w w'' := h.elim .inl fun h => k.elim .inl fun k => .inr (Nat.le_trans h k)
structure Ev (I : Nat → Prop) (M : MU) (w : World) (I' : Nat → Prop) (M' : MU) (w' : World) : Prop where
  os : w'.os = w.os
  tape : w'.tape = w.tape
  output : w'.output = w.output
  size : w.heap.size ≤ w'.heap.size
  imm : ∀ b, I b → I' b
  newI : ∀ b, I' b → I b ∨ owned M b ∨ w.heap.size ≤ b
  keep : ∀ b, b < w.heap.size → ¬ owned M b → w'.heap[b]? = w.heap[b]?
  shp : ∀ b, b < w.heap.size → w'.shape? b = w.shape? b
  mm : ∀ b x, M b = some x → M' b = some x ∨ M' b = some none
  own : ∀ rb, owned M' rb → owned M rb ∨ w.heap.size ≤ rb
  drw : DLe w w'

theorem Ev.refl (I : Nat → Prop) (M : MU) (w : World) : Ev I M w I M w :=
  ⟨rfl, rfl, rfl, Nat.le_refl _, fun _ h => h, fun _ h => .inl h, fun _ _ _ => rfl, fun _ _ => rfl, fun _ _ h => .inl h, fun _ h => .inl h, .refl _⟩

theorem shape_lt {w : World} {b : Nat} {x : TypeId × Nat} (h : w.shape? b = some x) : b < w.heap.size := by
  unfold World.shape? at h
  split at h
  · rename_i hb
    rcases Nat.lt_or_ge b w.heap.size with hl | hl
    · exact hl
    · rw [Array.getElem?_eq_none hl] at hb; simp at hb
  · simp at h

theorem Ev.trans {I I' I'' : Nat → Prop} {M M' M'' : MU} {w w' w'' : World} (h : Ev I M w I' M' w') (k : Ev I' M' w' I'' M'' w'') : Ev I M w I'' M'' w'' where
  os := k.os.trans h.os
  tape := k.tape.trans h.tape
  output := k.output.trans h.output
  size := Nat.le_trans h.size k.size
  imm := fun b hb => k.imm b (h.imm b hb)
  newI := fun b hb => by
    rcases k.newI b hb with h1 | h1 | h1
    · exact h.newI b h1
    · rcases h.own b h1 with h2 | h2
      · exact .inr (.inl h2)
      · exact .inr (.inr h2)
    · exact .inr (.inr (Nat.le_trans h.size h1))
  keep := fun b hb ho => (k.keep b (Nat.lt_of_lt_of_le hb h.size) fun ho' => by
    rcases h.own b ho' with h1 | h1
    · exact ho h1
    · omega).trans (h.keep b hb ho)
  shp := fun b hb => (k.shp b (Nat.lt_of_lt_of_le hb h.size)).trans (h.shp b hb)
  mm := fun b x hb => by
    rcases h.mm b x hb with h1 | h1
    · exact k.mm b x h1
    · rcases k.mm b none h1 with h2 | h2 <;> exact .inr h2
  drw := h.drw.trans k.drw
  own := fun rb ho => by
    rcases k.own rb ho with h1 | h1
    · exact h.own rb h1
    · exact .inr (Nat.le_trans h.size h1)

section mono
variable {I I' : Nat → Prop} {M M' : MU} {w w' : World}

theorem cell_keep {w w' : World} {a : Addr} (h : w'.heap[a.block]? = w.heap[a.block]?) : w'.cell? a = w.cell? a := by
  unfold World.cell?
  rw [h]

theorem Rp.mono (hI : ∀ b, I b → I' b) (hk : ∀ b, I b → w'.heap[b]? = w.heap[b]?) (hs : ∀ b, b < w.heap.size → w'.shape? b = w.shape? b)
    (hm : ∀ b x, M b = some x → M' b = some x ∨ M' b = some none) {c : AV} {v : Value} (h : Rp I M w c v) : Rp I' M' w' c v := by
  induction h generalizing M' with
  | int k n => exact .int k n
  | bl b => exact .bl b
  | st s => exact .st s
  | np => exact .np
  | nm => exact .nm
  | nf => exact .nf
  | ni => exact .ni
  | ns => exact .ns
  | ez A => exact .ez A
  | ud v => exact .ud v
  | lsN sz A cap => exact .lsN sz A cap
  | ls sz es ib io cap u hne hcap hsz hIb hc hr ih =>
    exact .ls sz es ib io cap u hne hcap hsz (hI _ hIb) (fun i e j c h1 h2 => (cell_keep (hk ib hIb)).trans (hc i e j c h1 h2))
      (fun i e j c h1 h2 => ih i e j c h1 h2 hk hs (fun b x hb => by simp [M0] at hb))
  | ri sz es i off ib io u hsz hIb hc hr ih =>
    exact .ri sz es i off ib io u hsz (hI _ hIb) (fun i e j c h1 h2 => (cell_keep (hk ib hIb)).trans (hc i e j c h1 h2))
      (fun i e j c h1 h2 => ih i e j c h1 h2 hk hs (fun b x hb => by simp [M0] at hb))
  | slD sz b lo len v hM hv => exact .slD sz b lo len v (by rcases hm b _ hM with h | h <;> exact h) hv
  | sl sz b lo len rb o cap ad t n hM hlc had hsh hn =>
    rcases hm b _ hM with h | h
    · exact .sl sz b lo len rb o cap ad t n h hlc had ((hs rb (shape_lt hsh)).trans hsh) hn
    · exact .slD sz b lo len _ h rfl
  | reD sz b i off v hM hv => exact .reD sz b i off v (by rcases hm b _ hM with h | h <;> exact h) hv
  | re sz b i off rb o hM =>
    rcases hm b _ hM with h | h
    · exact .re sz b i off rb o h
    · exact .reD sz b i off _ h rfl
  | fn f caps vs hl hr f' fs us hfk ih => exact .fn f caps vs hl (fun i c v h1 h2 => ih i c v h1 h2 hk hs hm) f' fs us hfk
  | mpD b v hM hv => exact .mpD b v (by rcases hm b _ hM with h | h <;> exact h) hv
  | mp b rb hM =>
    rcases hm b _ hM with h | h
    · exact .mp b rb h
    · exact .mpD b _ h rfl

theorem RpW.mono' (hR : ∀ c v, Rp I M w c v → Rp I' M' w' c v) {c : AV} {v : Value} (h : RpW I M w c v) : RpW I' M' w' c v := by
  cases c <;> simp only [RpW] at h ⊢ <;> first
    | exact hR _ _ h
    | (obtain ⟨vs, rfl, h⟩ := h; exact ⟨vs, rfl, h.mono hR⟩)
theorem RpV.mono' (hR : ∀ c v, Rp I M w c v → Rp I' M' w' c v) {c : AV} {v : Value} (h : RpV I M w c v) : RpV I' M' w' c v := by
  cases c <;> simp only [RpV] at h ⊢ <;> first
    | exact RpW.mono' hR h
    | (obtain ⟨vs, rfl, h⟩ := h; exact ⟨vs, rfl, h.mono fun _ _ => RpW.mono' hR⟩)
end mono

section
variable {I I' : Nat → Prop} {M M' : MU} {w w' : World} {h : List (Nat × BK)} {nx : Nat}
theorem SimH.rp (hs : SimH I M h nx w) (he : Ev I M w I' M' w') (c : AV) (v : Value) (hr : Rp I M w c v) : Rp I' M' w' c v :=
  hr.mono he.imm (fun b hb => he.keep b (hs.ibd b hb) fun ho => hs.sep b ho hb) he.shp he.mm
theorem Mv_mm {v : Bool} (hm : ∀ b x, M b = some x → M' b = some x ∨ M' b = some none) : ∀ b x, Mv v M b = some x → Mv v M' b = some x ∨ Mv v M' b = some none := by
  cases v with
  | true => exact hm
  | false => intro b x hb; simp [Mv, M0] at hb
theorem SimH.rpM (hs : SimH I M h nx w) (he : Ev I M w I' M' w') (v : Bool) (c : AV) (u : Value) (hr : Rp I (Mv v M) w c u) : Rp I' (Mv v M') w' c u :=
  hr.mono he.imm (fun b hb => he.keep b (hs.ibd b hb) fun ho => hs.sep b ho hb) he.shp (Mv_mm he.mm)
theorem SimH.rp0 (hs : SimH I M h nx w) (he : Ev I M w I' M' w') (c : AV) (u : Value) (hr : Rp I M0 w c u) : Rp I' M0 w' c u :=
  hr.mono he.imm (fun b hb => he.keep b (hs.ibd b hb) fun ho => hs.sep b ho hb) he.shp (fun b x hb => by simp [M0] at hb)
theorem Rp.of0 {c : AV} {v : Value} (hr : Rp I M0 w c v) : Rp I M w c v :=
  hr.mono (fun _ h => h) (fun _ _ => rfl) (fun _ _ => rfl) (fun b x hb => by simp [M0] at hb)
theorem SimH.rpV (hs : SimH I M h nx w) (he : Ev I M w I' M' w') {c : AV} {v : Value} (hr : RpV I M w c v) : RpV I' M' w' c v :=
  RpV.mono' (hs.rp he) hr
theorem SimT.go {tm : List (Nat × AV)} {nt : Nat} {tmps : Array Value} (ht : SimT I M tm nt tmps w) (hs : SimH I M h nx w) (he : Ev I M w I' M' w') : SimT I' M' tm nt tmps w' :=
  ⟨ht.size, fun t => hs.rpV he (ht.get t)⟩
theorem look_cons {α : Type} (d : α) (l : List (Nat × α)) (k n : Nat) (v : α) : look d ((k, v) :: l) n = if k = n then v else look d l n := rfl
theorem SimT.put {tm : List (Nat × AV)} {nt : Nat} {tmps : Array Value} (ht : SimT I M tm nt tmps w) (d : Nat) (c : AV) (v : Value) (hd : d < nt) (hr : RpV I M w c v) :
    SimT I M ((d, c) :: tm) nt (tmps.setIfInBounds d v) w :=
  ⟨by simpa using ht.size, fun t => by
    rw [look_cons]
    have hlt : d < tmps.size := by rw [ht.size]; exact hd
    by_cases e : d = t
    · subst e
      simpa [hlt] using hr
    · rw [if_neg e]
      have := ht.get t
      simpa [Array.getD_eq_getD_getElem?, Array.getElem?_setIfInBounds_ne e] using this⟩
end
end Go.Am
namespace Go.Am

inductive Gives : Next → Value → Prop
  | val (v : Value) : Gives (.value v) v
  | skip : Gives .skip undef

def Quiet (I : Nat → Prop) (M : MU) (nx : Nat) (w : World) (I' : Nat → Prop) (M' : MU) (w' : World) : Prop :=
  (∀ b : Nat, b < w.heap.size → w'.heap[b]? = w.heap[b]?) ∧ (∀ b, b < nx → M' b = M b) ∧ (∀ b, I' b → I b ∨ w.heap.size ≤ b)
theorem Quiet.refl (I : Nat → Prop) (M : MU) (nx : Nat) (w : World) : Quiet I M nx w I M w := ⟨fun _ _ => rfl, fun _ _ => rfl, fun _ h => .inl h⟩

def OpOk (P : Program) (I : Nat → Prop) (M : MU) (nx : Nat) (w : World) (r : Sem Next) (e : Ef) (q : Bool) : Prop :=
  ∃ nv v w' I' M', r.run P w = .ok nv w' ∧ Gives nv v ∧ Ev I M w I' M' w' ∧ SimH I' M' e.h e.nx w' ∧ RpV I' M' w' e.v v ∧ (q = true → Quiet I M nx w I' M' w')

section
variable {P : Program} {I : Nat → Prop} {M : MU} {w : World} {h : List (Nat × BK)} {nx nt : Nat} {tm : List (Nat × AV)} {a : Act}

theorem OpOk.pure {r : Sem Next} {c : AV} {v : Value} {q : Bool} (hs : SimH I M h nx w) (hr : r.run P w = .ok (.value v) w) (hc : RpV I M w c v) : OpOk P I M nx w r ⟨c, h, nx⟩ q :=
  ⟨_, v, w, I, M, hr, .val v, Ev.refl I M w, hs, hc, fun _ => Quiet.refl I M nx w⟩
theorem Ev.drawn (n : Nat) (hn : w.drawn ≤ n := by simp) : Ev I M w I M { w with drawn := n } :=
  ⟨rfl, rfl, rfl, Nat.le_refl _, fun _ h => h, fun _ h => .inl h, fun _ _ _ => rfl, fun _ _ => rfl, fun _ _ h => .inl h, fun _ h => .inl h, .of hn⟩

theorem mapM_cons_some {α β : Type} {f : α → Option β} {x : α} {l : List α} {r : List β} (hm : (x :: l).mapM f = some r) :
    ∃ a as, f x = some a ∧ l.mapM f = some as ∧ r = a :: as := by
  rw [List.mapM_cons] at hm
  cases hx : f x with
  | none => rw [hx] at hm; simp at hm
  | some a =>
    rw [hx] at hm
    cases hl : l.mapM f with
    | none => rw [hl] at hm; simp at hm
    | some as =>
      rw [hl] at hm
      simp at hm
      exact ⟨a, as, rfl, rfl, hm.symm⟩
theorem mapM_all2 {α β : Type} {f : α → Option β} : ∀ {l : List α} {r : List β}, l.mapM f = some r → All2 (fun a b => f a = some b) l r
  | [], r, hm => by simp at hm; subst hm; exact .nil
  | x :: l, r, hm => by
    obtain ⟨a, as, h1, h2, rfl⟩ := mapM_cons_some hm
    exact .cons h1 (mapM_all2 h2)

theorem ofScalar_ok {v : Value} {c : AV} (hc : ofScalar v = some c) : Rp I M w c v := by
  unfold ofScalar at hc
  split at hc <;> first
    | (injection hc with hc; subst hc; first | exact .int _ _ | exact .bl _ | exact .st _ | exact .np | exact .nm | exact .nf | exact .ni | exact .ns)
    | (split at hc
       · rename_i f first caps hz
         obtain ⟨h1, h2, h3⟩ := hz
         obtain rfl := Array.eq_empty_of_size_eq_zero h1
         obtain rfl := Array.eq_empty_of_size_eq_zero h2
         injection hc with hc; subst hc
         exact .fn _ _ _ rfl (fun i c v h => by simp at h) _ _ _ (.inl ⟨h3, rfl, rfl, rfl⟩)
       · simp at hc)
    | simp at hc
theorem ofScalar_shape {v : Value} {c : AV} (hc : ofScalar v = some c) : (∀ l, c ≠ .ag l) ∧ (∀ l, c ≠ .tp l) := by
  unfold ofScalar at hc
  split at hc <;> first
    | (injection hc with hc; subst hc; exact ⟨by simp, by simp⟩)
    | (split at hc
       · injection hc with hc; subst hc; exact ⟨by simp, by simp⟩
       · simp at hc)
    | simp at hc
theorem RpV.of_scalar {c : AV} {v : Value} (h1 : ∀ l, c ≠ .ag l) (h2 : ∀ l, c ≠ .tp l) (hr : Rp I M w c v) : RpV I M w c v := by
  cases c <;> simp only [RpV, RpW] <;> first | exact hr | (exact absurd rfl (h1 _)) | (exact absurd rfl (h2 _))
theorem All2.flip {α β : Type} {R : α → β → Prop} {as : List α} {bs : List β} (h : All2 R as bs) : All2 (fun b a => R a b) bs as := by
  induction h with
  | nil => exact .nil
  | cons h1 _ ih => exact .cons h1 ih
theorem ofConst_ok {v : Value} {c : AV} (hc : ofConst v = some c) : RpV I M w c v := by
  unfold ofConst at hc
  split at hc
  · rename_i cs
    cases hm : cs.toList.mapM ofScalar with
    | none => rw [hm] at hc; simp at hc
    | some l =>
      rw [hm] at hc
      simp at hc
      subst hc
      exact ⟨cs, rfl, ((mapM_all2 hm).flip).mono fun a b hb => ofScalar_ok hb⟩
  · exact RpV.of_scalar (ofScalar_shape hc).1 (ofScalar_shape hc).2 (ofScalar_ok hc)

theorem opd_ok (ht : SimT I M tm nt a.tmps w) {x : Operand} {y : Opd} (hx : ofOpd x = some y) : RpV I M w (rd tm y) (a.eval x) := by
  unfold ofOpd at hx
  cases x with
  | tmp t => simp at hx; subst hx; exact ht.get t
  | const v =>
    simp at hx
    obtain ⟨c, hc, rfl⟩ := hx
    exact ofConst_ok hc
  | func f => simp at hx; obtain ⟨h3, hx⟩ := hx; subst hx; exact .fn f [] #[] rfl (fun i c v h => by simp at h) _ _ _ (.inl ⟨h3, rfl, rfl, rfl⟩)
  | global g => simp at hx

theorem RpV.scalar_inv {c : AV} {v : Value} (hr : RpV I M w c v) (h1 : ∀ l, c ≠ .ag l) (h2 : ∀ l, c ≠ .tp l) : Rp I M w c v := by
  cases c <;> simp only [RpV, RpW] at hr <;> first | exact hr | (exact absurd rfl (h1 _)) | (exact absurd rfl (h2 _))

theorem bool_inv {b : Bool} {v : Value} (hr : RpV I M w (.bl b) v) : v = .bool b := by
  cases (show Rp I M w (.bl b) v from hr); rfl
theorem int_inv {k : IntKind} {n : Int} {v : Value} (hr : RpV I M w (.int k n) v) : v = .int k n := by
  cases (show Rp I M w (.int k n) v from hr); rfl
theorem st_inv {s : ByteArray} {v : Value} (hr : RpV I M w (.st s) v) : v = .string s := by
  cases (show Rp I M w (.st s) v from hr); rfl

theorem binA_ok {op : BinOp} {x y c : AV} {u v : Value} (t : TypeId) (ox oy : Operand) (hc : binA op x y = some c) (hx : RpV I M w x u) (hy : RpV I M w y v) :
    ∃ r, (do eqGuard op t ox oy u v; binOp op t u v : Sem Value).run P w = .ok r w ∧ RpV I M w c r := by
  unfold binA at hc
  split at hc
  · rename_i k a k' b
    rw [int_inv hx, int_inv hy]
    split at hc
    · simp at hc
    · rename_i hb
      injection hc with hc; subst hc
      refine ⟨_, ?_, .int _ _⟩
      simp [go_sem, Op.shift, hb]
  · rename_i k a k' b
    rw [int_inv hx, int_inv hy]
    split at hc
    · simp at hc
    · rename_i hb
      injection hc with hc; subst hc
      refine ⟨_, ?_, .int _ _⟩
      simp [go_sem, Op.shift, hb]
  · rename_i k a k' b hn1 hn2
    rw [int_inv hx, int_inv hy]
    split at hc
    · simp at hc
    · rename_i hk
      have hk' : k = k' := by simpa using hk
      subst hk'
      cases op <;> first
        | (injection hc with hc; subst hc; exact ⟨_, by simp only [binOp_add, binOp_sub, binOp_mul, eqGuard_at_int, pure_bind, Op.intArith]; rfl, .int _ _⟩)
        | (injection hc with hc; subst hc; exact ⟨_, by simp only [binOp_eql, binOp_neq, binOp_lss, binOp_leq, binOp_gtr, binOp_geq, eqGuard_at_int, pure_bind]; rfl, .bl _⟩)
        | (injection hc with hc; subst hc; exact ⟨_, by simp only [binOp_and, binOp_or, binOp_xor, binOp_andNot, eqGuard_at_int, pure_bind, Op.intBits]; rfl, .int _ _⟩)
        | (simp only [] at hc
           split at hc
           · exact absurd hc (by simp)
           · rename_i hb
             injection hc with hc; subst hc
             exact ⟨_, by simp only [binOp_quo, binOp_rem, eqGuard_at_int, pure_bind, Op.intDiv, if_neg hb]; rfl, .int _ _⟩)
        | exact absurd hc (by simp)
  · rename_i a b
    rw [st_inv hx, st_inv hy]
    cases op <;> first
      | (injection hc with hc; subst hc; exact ⟨_, by simp only [binOp, eqGuard_at_string, pure_bind, Op.stringOp]; rfl, .bl _⟩)
      | (simp only [] at hc
         split at hc
         · exact absurd hc (by simp)
         · rename_i hb
           injection hc with hc; subst hc
           exact ⟨_, by simp only [binOp, eqGuard_at_string, Op.stringOp, pure_bind, if_neg hb]; rfl, .st _⟩)
      | exact absurd hc (by simp)
  · simp at hc

theorem Rp.one {c : AV} {v : Value} (hr : Rp I M w c v) (hc : c ≠ .ud) : v.oneCell' = true := by
  cases hr <;> first | rfl | assumption | exact absurd rfl hc

theorem look_put {α : Type} (d : α) (l : List (Nat × α)) (n m : Nat) (v : α) : look d (put l n v) m = if n = m then v else look d l m := by
  induction l with
  | nil => simp [put, look]
  | cons p l ih =>
    obtain ⟨k, x⟩ := p
    simp only [put]
    by_cases e : k = n
    · subst e
      rw [if_pos rfl]
      simp only [look]
      by_cases e2 : k = m <;> simp [e2]
    · rw [if_neg e]
      simp only [look]
      by_cases e2 : k = m
      · subst e2
        simp [Ne.symm e]
      · simp [e2, ih]
theorem blk_ins (l : List (Nat × BK)) (n m : Nat) (v : BK) : blk (ins l n v) m = if n = m then v else blk l m := rfl
theorem look_ins {α : Type} (d : α) (l : List (Nat × α)) (n m : Nat) (v : α) : look d (ins l n v) m = if n = m then v else look d l m := rfl
theorem blk_put (l : List (Nat × BK)) (n m : Nat) (v : BK) : blk (put l n v) m = if n = m then v else blk l m := look_put _ _ _ _ _

theorem cellsOf_ok {c : AV} {v : Value} {cs : List AV} (hc : cellsOf c = some cs) (hr : RpV I M w c v) : All2 (Rp I M w) cs v.cells.toList ∧ (∀ u ∈ v.cells.toList, u.oneCell' = true ∨ AV.ud ∈ cs) := by
  have hall : ∀ (cs : List AV) (us : List Value), All2 (Rp I M w) cs us → ∀ u ∈ us, u.oneCell' = true ∨ AV.ud ∈ cs := by
    intro cs us h2
    induction h2 with
    | nil => intro u hu; cases hu
    | @cons c0 b0 cs0 bs0 h1 h2 ih =>
      intro u hu
      rcases List.mem_cons.1 hu with e | e
      · subst e
        by_cases e0 : c0 = .ud
        · subst e0; exact .inr (List.mem_cons_self ..)
        · exact .inl (h1.one e0)
      · rcases ih u e with h | h
        · exact .inl h
        · exact .inr (List.mem_cons_of_mem _ h)
  cases c
  case ag cs0 =>
    simp only [cellsOf, Option.some.injEq] at hc
    subst hc
    simp only [RpV, RpW] at hr
    obtain ⟨vs, rfl, h2⟩ := hr
    exact ⟨h2, hall _ _ h2⟩
  all_goals first
    | (cases hc; done)
    | (injection hc with hc; subst hc
       have hr' : Rp I M w _ v := hr
       have h1 := hr'.one (by simp)
       have hv : v.cells = #[v] := by cases v <;> first | rfl | simp [Value.oneCell'] at h1
       rw [hv]
       exact ⟨.cons hr' .nil, hall _ _ (.cons hr' .nil)⟩)

theorem alloc_ok (hs : SimH I M h nx w) (v : Bool) (sz : Nat) (es : List (List AV)) (t t' : TypeId) (arr : Array Value) (hv : v = true → es.length = 1) (hsz : ∀ e ∈ es, e.length = sz)
    (hr : ∀ (i : Nat) (e : List AV) (j : Nat) (c : AV), es[i]? = some e → e[j]? = some c → ∃ u, arr[i * sz + j]? = some u ∧ Rp I (Mv v M) w c u) :
    let M' : MU := fun b => if b = nx then some (some (w.heap.size, 0)) else M b
    Ev I M w I M' (w.alloc (.cells arr t')) ∧ SimH I M' (ins h nx (.rw v sz es t)) (nx + 1) (w.alloc (.cells arr t')) ∧ Quiet I M nx w I M' (w.alloc (.cells arr t')) := by
  intro M'
  have hnx : M nx = none := hs.fr nx (Nat.le_refl _)
  have hev : Ev I M w I M' (w.alloc (.cells arr t')) := by
    refine ⟨rfl, rfl, rfl, by simp, fun _ h => h, fun _ h => .inl h, fun b hb _ => RowKit.Below.heap_alloc _ _ _ hb, fun b hb => ?_, fun b x hx => ?_, fun rb ho => ?_, .of (Nat.le_refl _)⟩
    · simp only [World.shape?, RowKit.Below.heap_alloc _ _ _ hb]
    · have : b ≠ nx := by rintro rfl; rw [hnx] at hx; simp at hx
      exact .inl (by simp [M', this, hx])
    · obtain ⟨b, o, hb⟩ := ho
      by_cases e : b = nx
      · simp [M', e] at hb
        exact .inr (by omega)
      · simp [M', e] at hb
        exact .inl ⟨b, o, hb⟩
  refine ⟨hev, ?_, fun b hb => RowKit.Below.heap_alloc _ _ _ hb, fun b hb => by simp [M', Nat.ne_of_lt hb], fun _ h => .inl h⟩
  refine ⟨fun b => ?_, fun a b rb oa ob ha hb => ?_, fun rb ho => ?_, fun rb ho => ?_, fun b hb => ?_, fun b hb => ?_⟩
  · rw [blk_ins]
    by_cases e : nx = b
    · subst e
      rw [if_pos rfl]
      refine ⟨w.heap.size, 0, arr, t', 0, 0, by simp [M'], by show (w.heap.push _)[_]? = _; simp, .inl (Nat.le_refl _), fun h => ⟨hv h, rfl⟩, hsz, fun i e j c h1 h2 => ?_⟩
      obtain ⟨u, hu, hru⟩ := hr i e j c h1 h2
      exact ⟨u, by simpa using hu, hs.rpM hev _ _ _ hru⟩
    · rw [if_neg e]
      have hb := hs.blks b
      have hMb : M' b = M b := by simp [M', Ne.symm e]
      cases hk : blk h b with
      | dd => trivial
      | rw v0 sz0 es0 t0 =>
        rw [hk] at hb
        obtain ⟨rb, o, arr0, t1, lo, hi, h1, h2, h3, h4, h5, h6⟩ := hb
        refine ⟨rb, o, arr0, t1, lo, hi, by rw [hMb]; exact h1, ?_, h3, h4, h5, fun i e j c ha hb => ?_⟩
        · rw [RowKit.Below.heap_alloc _ _ _ (hs.bnd rb ⟨b, o, h1⟩)]; exact h2
        · obtain ⟨u, hu, hru⟩ := h6 i e j c ha hb
          exact ⟨u, hu, hs.rpM hev _ _ _ hru⟩
      | mp es0 =>
        rw [hk] at hb
        obtain ⟨rb, ents, ck, h1, h2, hst, h3⟩ := hb
        refine ⟨rb, ents, ck, by rw [hMb]; exact h1, ?_, hst, h3.mono fun p e hp => ⟨hs.rp0 hev _ _ hp.1, RpW.mono' (hs.rp0 hev) hp.2⟩⟩
        rw [RowKit.Below.heap_alloc _ _ _ (hs.bnd rb ⟨b, 0, h1⟩)]; exact h2
  · by_cases ea : a = nx <;> by_cases eb : b = nx
    · rw [ea, eb]
    · simp [M', ea] at ha; simp [M', eb] at hb
      exact absurd (hs.bnd rb ⟨b, _, hb⟩) (by omega)
    · simp [M', ea] at ha; simp [M', eb] at hb
      exact absurd (hs.bnd rb ⟨a, _, ha⟩) (by omega)
    · simp [M', ea] at ha; simp [M', eb] at hb
      exact hs.inj a b rb oa ob ha hb
  · rcases hev.own rb ho with h1 | h1
    · exact hs.sep rb h1
    · intro hI; have := hs.ibd rb hI; omega
  · obtain ⟨b, o, hb⟩ := ho
    by_cases e : b = nx
    · simp [M', e] at hb; simp; omega
    · simp [M', e] at hb; have := hs.bnd rb ⟨b, o, hb⟩; simp; omega
  · have := hs.ibd b hb; simp; omega
  · have : b ≠ nx := by omega
    simp [M', this]; exact hs.fr b (by omega)
end
end Go.Am
namespace Go.Am
section
variable {P : Program} {I : Nat → Prop} {M : MU} {w : World} {h : List (Nat × BK)} {nx nt : Nat} {tm : List (Nat × AV)} {a : Act}

theorem blk_kill (bs : List Nat) (b : Nat) : blk (kill h bs) b = if b ∈ bs then .dd else blk h b := by
  induction bs with
  | nil => simp [kill]
  | cons c bs ih =>
    simp only [kill, blk_put, ih, List.mem_cons]
    by_cases e : c = b
    · subst e; simp
    · simp [e, Ne.symm e]

def deadM (bs : List Nat) (M : MU) : MU := fun b => if b ∈ bs then (M b).map (fun _ => none) else M b
def deadI (bs : List Nat) (I : Nat → Prop) (M : MU) : Nat → Prop := fun rb => I rb ∨ ∃ b o, b ∈ bs ∧ M b = some (some (rb, o))

theorem kill_ev (bs : List Nat) : Ev I M w (deadI bs I M) (deadM bs M) w :=
  ⟨rfl, rfl, rfl, Nat.le_refl _, fun _ h => .inl h, fun rb h => by
    rcases h with h | ⟨b, o, _, hb⟩
    · exact .inl h
    · exact .inr (.inl ⟨b, o, hb⟩), fun _ _ _ => rfl, fun _ _ => rfl, fun b x hb => by
    by_cases e : b ∈ bs
    · exact .inr (by simp [deadM, e, hb])
    · exact .inl (by simp [deadM, e, hb]), fun rb ⟨b, o, hb⟩ => by
    by_cases e : b ∈ bs
    · simp only [deadM, if_pos e, Option.map_eq_some_iff] at hb
      obtain ⟨_, _, h⟩ := hb
      simp at h
    · simp only [deadM, if_neg e] at hb
      exact .inl ⟨b, o, hb⟩, .of (Nat.le_refl _)⟩

theorem deadM_some {bs : List Nat} {b rb o : Nat} (hb : deadM bs M b = some (some (rb, o))) : b ∉ bs ∧ M b = some (some (rb, o)) := by
  by_cases e : b ∈ bs
  · simp only [deadM, if_pos e, Option.map_eq_some_iff] at hb
    obtain ⟨_, _, h⟩ := hb
    simp at h
  · simp only [deadM, if_neg e] at hb
    exact ⟨e, hb⟩

theorem RpB.go {I' : Nat → Prop} {M' : MU} {w' : World} (hs : SimH I M h nx w) (he : Ev I M w I' M' w') {b : Nat} {k : BK} (hb : RpB I M w b k)
    (hM : M' b = M b) (hh : ∀ rb o, M b = some (some (rb, o)) → w'.heap[rb]? = w.heap[rb]?) : RpB I' M' w' b k := by
  cases k with
  | dd => trivial
  | rw v sz es t =>
    obtain ⟨rb, o, arr0, t1, lo, hi, h1, h2, h3, h4, h5, h6⟩ := hb
    refine ⟨rb, o, arr0, t1, lo, hi, by rw [hM]; exact h1, by rw [hh rb o h1]; exact h2, h3, h4, h5, fun i e j c ha hb => ?_⟩
    obtain ⟨u, hu, hru⟩ := h6 i e j c ha hb
    exact ⟨u, hu, hs.rpM he _ _ _ hru⟩
  | mp es0 =>
    obtain ⟨rb, ents, ck, h1, h2, hst, h3⟩ := hb
    exact ⟨rb, ents, ck, by rw [hM]; exact h1, by rw [hh rb 0 h1]; exact h2, hst, h3.mono fun p e hp => ⟨hs.rp0 he _ _ hp.1, RpW.mono' (hs.rp0 he) hp.2⟩⟩

theorem kill_ok (hs : SimH I M h nx w) (bs : List Nat) : SimH (deadI bs I M) (deadM bs M) (kill h bs) nx w where
  blks := fun b => by
    rw [blk_kill]
    by_cases e : b ∈ bs
    · rw [if_pos e]
      trivial
    · rw [if_neg e]
      exact (hs.blks b).go hs (kill_ev bs) (by simp [deadM, e]) fun _ _ _ => rfl
  inj := fun x y rb ox oy hx hy => hs.inj x y rb ox oy (deadM_some hx).2 (deadM_some hy).2
  sep := fun rb ⟨b, o, hb⟩ hI => by
    obtain ⟨hn, hb⟩ := deadM_some hb
    rcases hI with hI | ⟨c, o', hc, hMc⟩
    · exact hs.sep rb ⟨b, o, hb⟩ hI
    · exact hn (hs.inj b c rb o o' hb hMc ▸ hc)
  bnd := fun rb ⟨b, o, hb⟩ => hs.bnd rb ⟨b, o, (deadM_some hb).2⟩
  ibd := fun rb hI => by
    rcases hI with hI | ⟨c, o', _, hMc⟩
    · exact hs.ibd rb hI
    · exact hs.bnd rb ⟨c, o', hMc⟩
  fr := fun b hb => by
    have := hs.fr b hb
    by_cases e : b ∈ bs <;> simp [deadM, e, this]

theorem RpB.row {b sz : Nat} {v : Bool} {es : List (List AV)} {t : TypeId} (hb : RpB I M w b (.rw v sz es t)) :
    ∃ rb o arr t' lo hi, M b = some (some (rb, o)) ∧ w.heap[rb]? = some (.cells arr t' (lo, hi)) ∧ (hi ≤ lo ∨ arr.size ≤ lo) ∧ (v = true → es.length = 1 ∧ o = 0) ∧
      (∀ e ∈ es, e.length = sz) ∧ ∀ (i : Nat) (e : List AV) (j : Nat) (c : AV), es[i]? = some e → e[j]? = some c → ∃ u, arr[o + i * sz + j]? = some u ∧ Rp I (Mv v M) w c u := hb

theorem cell_of_arr {rb k : Nat} {arr : Array Value} {t : TypeId} {fr : Nat × Nat} (hh : w.heap[rb]? = some (.cells arr t fr)) : w.cell? ⟨rb, k, none⟩ = arr[k]? := by
  simp [World.cell?, hh]
theorem shape_of_arr {rb : Nat} {arr : Array Value} {t : TypeId} {fr : Nat × Nat} (hh : w.heap[rb]? = some (.cells arr t fr)) : w.shape? rb = some (t, arr.size) := by
  simp [World.shape?, hh]

theorem blk_rw {b : Nat} (hs : SimH I M h nx w) {v : Bool} {sz : Nat} {es : List (List AV)} {t : TypeId} (hb : blk h b = .rw v sz es t) : RpB I M w b (.rw v sz es t) := hb ▸ hs.blks b

theorem length_drop_take {α : Type} (l : List α) (lo len : Nat) (hl : lo + len ≤ l.length) : ((l.drop lo).take len).length = len := by
  rw [List.length_take, List.length_drop]; omega
theorem get_drop_take {α : Type} {l : List α} {lo len i : Nat} {x : α} (hi : ((l.drop lo).take len)[i]? = some x) : l[lo + i]? = some x ∧ i < len := by
  rw [List.getElem?_take] at hi
  split at hi
  · rename_i hlt
    rw [List.getElem?_drop] at hi
    exact ⟨hi, hlt⟩
  · simp at hi

theorem snapC_ok {J : Nat → Prop} (hs : SimH I M h nx w) (hJ : ∀ b, I b → J b) {c c' : AV} {v : Value} (hc : snapC h c = some c') (hr : Rp I M w c v)
    (hrefs : ∀ b rb o, b ∈ refs c → M b = some (some (rb, o)) → J rb) : Rp J M0 w c' v := by
  have h0 : ∀ {d : AV} {u : Value}, Rp I M0 w d u → Rp J M0 w d u := fun hd => hd.mono hJ (fun _ _ => rfl) (fun _ _ => rfl) (fun b x hb => by simp [M0] at hb)
  cases hr with
  | slD sz b lo len v hM hv =>
    simp only [snapC] at hc
    cases hk : blk h b with
    | rw v0 sz' es t =>
      have := (blk_rw hs hk).row
      obtain ⟨rb, o, arr, t', lo', hi', h1, _⟩ := this
      rw [hM] at h1; simp at h1
    | dd => rw [hk] at hc; simp at hc
    | mp es => rw [hk] at hc; simp at hc
  | sl sz b lo len rb o cap ad t n hM hlc had hsh hn =>
    simp only [snapC] at hc
    cases hk : blk h b with
    | dd => rw [hk] at hc; simp at hc
    | mp es => rw [hk] at hc; simp at hc
    | rw v0 sz' es t0 =>
      rw [hk] at hc
      cases v0 with
      | true => simp at hc
      | false =>
        simp only [] at hc
        split at hc
        · rename_i hcond
          obtain ⟨rfl, hle⟩ := hcond
          injection hc with hc; subst hc
          obtain ⟨rb', o', arr, t', lo', hi', h1, h2, h3, h4, h5, h6⟩ := (blk_rw hs hk).row
          rw [hM] at h1
          simp only [Option.some.injEq, Prod.mk.injEq] at h1
          obtain ⟨rfl, rfl⟩ := h1
          by_cases hne : (es.drop lo).take len = []
          · have hl : len = 0 := by have := length_drop_take es lo len hle; rw [hne] at this; simpa using this.symm
            subst hl
            rw [hne]; exact .lsN _ _ _
          · have hl := length_drop_take es lo len hle
            have hpos : 0 < cap := by
              rcases Nat.eq_zero_or_pos len with h0 | h0
              · subst h0; simp at hne
              · omega
            rw [had hpos]
            have := Rp.ls (I := J) (M := M0) (w := w) sz ((es.drop lo).take len) rb (o + lo * sz) cap (fun i j => arr[o + (lo + i) * sz + j]?.getD undef) hne (by rw [hl]; exact hlc)
              (fun e he => h5 e (List.mem_of_mem_drop (List.mem_of_mem_take he))) (hrefs b rb o (by simp [refs]) hM)
              (fun i e j c hi hj => by
                obtain ⟨g1, _⟩ := get_drop_take hi
                obtain ⟨u, hu, _⟩ := h6 _ _ _ _ g1 hj
                rw [cell_of_arr h2, show o + lo * sz + i * sz + j = o + (lo + i) * sz + j by rw [Nat.add_mul]; omega, hu]; simp [hu])
              (fun i e j c hi hj => by
                obtain ⟨g1, _⟩ := get_drop_take hi
                obtain ⟨u, hu, hru⟩ := h6 _ _ _ _ g1 hj
                simp only [hu, Option.getD_some]; exact h0 hru)
            rw [hl] at this
            exact this
        · simp at hc
  | reD | re | mpD | mp | fn => simp [snapC] at hc
  | ud => simp [snapC] at hc
  | int k n => simp only [snapC, Option.some.injEq] at hc; subst hc; exact .int _ _
  | bl b => simp only [snapC, Option.some.injEq] at hc; subst hc; exact .bl _
  | st s => simp only [snapC, Option.some.injEq] at hc; subst hc; exact .st _
  | np => simp only [snapC, Option.some.injEq] at hc; subst hc; exact .np
  | nm => simp only [snapC, Option.some.injEq] at hc; subst hc; exact .nm
  | nf => simp only [snapC, Option.some.injEq] at hc; subst hc; exact .nf
  | ni => simp only [snapC, Option.some.injEq] at hc; subst hc; exact .ni
  | ns => simp only [snapC, Option.some.injEq] at hc; subst hc; exact .ns
  | ez A => simp only [snapC, Option.some.injEq] at hc; subst hc; exact .ez _
  | lsN sz A cap => simp only [snapC, Option.some.injEq] at hc; subst hc; exact .lsN _ _ _
  | ls sz es ib io cap u hne hcap hsz hI hc' hr' => simp only [snapC, Option.some.injEq] at hc; subst hc; exact h0 (.ls sz es ib io cap u hne hcap hsz hI hc' hr')
  | ri sz es i off ib io u hsz hI hc' hr' => simp only [snapC, Option.some.injEq] at hc; subst hc; exact h0 (.ri sz es i off ib io u hsz hI hc' hr')

theorem snapL_all2 {f : AV → Option AV} : ∀ {cs cs' : List AV}, snapL f cs = some cs' → All2 (fun a b => f a = some b) cs cs'
  | [], cs', hc => by simp [snapL] at hc; subst hc; exact .nil
  | c :: cs, cs', hc => by
    simp only [snapL] at hc
    cases h1 : f c with
    | none => rw [h1] at hc; simp at hc
    | some x =>
      cases h2 : snapL f cs with
      | none => rw [h1, h2] at hc; simp at hc
      | some l =>
        rw [h1, h2] at hc
        simp only [Option.some.injEq] at hc
        subst hc
        exact .cons h1 (snapL_all2 h2)
end
end Go.Am
namespace Go.Am
section
variable {P : Program} {I : Nat → Prop} {M : MU} {w : World} {h : List (Nat × BK)} {nx nt : Nat} {tm : List (Nat × AV)} {a : Act} {o : Oper}

theorem und_info {t : TypeId} {d : TypeDesc} (hd : P.underlying t = some d) : ∃ i, P.info? t = some i := by
  unfold Program.underlying at hd
  cases hi : P.info? t with
  | none => rw [hi] at hd; simp at hd
  | some i => exact ⟨i, rfl⟩
theorem run_sizeOf_of {t : TypeId} {i : TypeInfo} (hi : P.info? t = some i) (w : World) : (sizeOf t).run P w = .ok (P.cellsOf t) w := by
  simp [sizeOf, typeInfo, hi, Program.cellsOf]
theorem run_isAgg_of {t : TypeId} {b : Bool} (hb : isAggT P t = some b) (w : World) : (isAgg t).run P w = .ok b w ∧ ∃ i, P.info? t = some i := by
  unfold isAggT at hb
  cases hd : P.underlying t with
  | none => rw [hd] at hb; simp at hb
  | some d =>
    rw [hd] at hb
    refine ⟨?_, und_info hd⟩
    cases d <;> simp at hb <;> subst hb <;> simp [isAgg, run_underlying hd]
theorem shapeT_inv {t : TypeId} {n : Option Nat} (hn : shapeT P t = some n) : (isAggT P t = some true ∧ n = some (P.cellsOf t)) ∨ (isAggT P t = some false ∧ n = none) := by
  unfold shapeT at hn
  cases hb : isAggT P t with
  | none => rw [hb] at hn; simp at hn
  | some b => rw [hb] at hn; cases b <;> simp at hn <;> simp [hn]

theorem Addr.add_mk (b k j : Nat) : (⟨b, k, none⟩ : Addr).add j = ⟨b, k + j, none⟩ := Addr.add_lit b k j

theorem cellsOfEl_inv {es : List (List AV)} {i off n : Nat} {cs : List AV} (hc : cellsOfEl es i off n = some cs) :
    ∃ e, es[i]? = some e ∧ off + n ≤ e.length ∧ cs = (e.drop off).take n := by
  unfold cellsOfEl at hc
  cases he : es[i]? with
  | none => rw [he] at hc; simp at hc
  | some e =>
    rw [he] at hc
    simp only [Option.ite_none_right_eq_some, Option.some.injEq] at hc
    exact ⟨e, rfl, hc.1, hc.2.symm⟩

theorem cellsAt_ok (hs : SimH I M h nx w) {n : Nat} {p : AV} {v : Value} {cs : List AV} (hc : cellsAt h n p = some cs) (hp : Rp I M w p v) :
    ∃ rb k, v = .pointer (some ⟨rb, k, none⟩) ∧ cs.length = n ∧ ∀ (j : Nat) (c : AV), cs[j]? = some c → ∃ u, w.cell? ⟨rb, k + j, none⟩ = some u ∧ Rp I M w c u := by
  cases hp <;> simp only [cellsAt] at hc <;> first | (cases hc; done) | skip
  case ri sz es i off ib io u hsz hI hcc hr =>
    obtain ⟨e, he, hle, rfl⟩ := cellsOfEl_inv hc
    refine ⟨ib, io + i * sz + off, rfl, length_drop_take e off n hle, fun j c hj => ?_⟩
    obtain ⟨g1, g2⟩ := get_drop_take hj
    refine ⟨u i (off + j), ?_, (hr i e (off + j) c he g1).of0⟩
    rw [show io + i * sz + off + j = io + i * sz + (off + j) by omega]
    exact hcc i e (off + j) c he g1
  case reD sz b i off hM hv =>
    cases hk : blk h b with
    | rw v0 sz' es t =>
      obtain ⟨rb, o, arr, t', lo', hi', h1, _⟩ := (blk_rw hs hk).row
      rw [hM] at h1; simp at h1
    | dd => rw [hk] at hc; simp at hc
    | mp es => rw [hk] at hc; simp at hc
  case re sz b i off rb o hM =>
    cases hk : blk h b with
    | dd => rw [hk] at hc; simp at hc
    | mp es => rw [hk] at hc; simp at hc
    | rw v0 sz' es t =>
      rw [hk] at hc
      simp only [Option.ite_none_right_eq_some] at hc
      obtain ⟨rfl, hc⟩ := hc
      obtain ⟨e, he, hle, rfl⟩ := cellsOfEl_inv hc
      obtain ⟨rb', o', arr, t', lo', hi', h1, h2, h3, h4, h5, h6⟩ := (blk_rw hs hk).row
      rw [hM] at h1
      simp only [Option.some.injEq, Prod.mk.injEq] at h1
      obtain ⟨rfl, rfl⟩ := h1
      refine ⟨rb, o + i * sz + off, rfl, length_drop_take e off n hle, fun j c hj => ?_⟩
      obtain ⟨g1, g2⟩ := get_drop_take hj
      obtain ⟨u, hu, hru⟩ := h6 i e (off + j) c he g1
      refine ⟨u, ?_, ?_⟩
      · rw [cell_of_arr h2, show o + i * sz + off + j = o + i * sz + (off + j) by omega, hu]
      · cases v0 with
        | true => exact hru
        | false => exact Rp.of0 hru

theorem cells_list {rb k : Nat} : ∀ (cs : List AV), (∀ (j : Nat) (c : AV), cs[j]? = some c → ∃ u, w.cell? ⟨rb, k + j, none⟩ = some u ∧ Rp I M w c u) →
    ∃ us : List Value, All2 (Rp I M w) cs us ∧ ∀ (j : Nat) (u : Value), us[j]? = some u → w.cell? ⟨rb, k + j, none⟩ = some u
  | cs, hcs => by
    induction cs generalizing k with
    | nil => exact ⟨[], .nil, by simp⟩
    | cons c cs ih =>
      obtain ⟨u, hu, hru⟩ := hcs 0 c rfl
      obtain ⟨us, h1, h2⟩ := ih (k := k + 1) (fun j c hj => by
        obtain ⟨u, hu, hru⟩ := hcs (j + 1) c (by simpa using hj)
        exact ⟨u, by rw [show k + 1 + j = k + (j + 1) by omega]; exact hu, hru⟩)
      refine ⟨u :: us, .cons hru h1, fun j u' hj => ?_⟩
      cases j with
      | zero => simp only [List.getElem?_cons_zero, Option.some.injEq] at hj; subst hj; exact hu
      | succ j => rw [show k + (j + 1) = k + 1 + j by omega]; exact h2 j u' (by simpa using hj)

theorem loadA_ok (hs : SimH I M h nx w) {t : TypeId} {n : Option Nat} (hn : shapeT P t = some n) {p c : AV} {v : Value} (hc : loadA h n p = some c) (hp : RpV I M w p v) :
    ∃ u, (Instr.loadAt t v).run P w = .ok u w ∧ RpV I M w c u ∧ (∃ ad, v = .pointer (some ad)) := by
  have hp' : Rp I M w p v := by
    refine hp.scalar_inv ?_ ?_ <;> (rintro l rfl; cases n <;> simp [loadA, cellsAt] at hc)
  rcases shapeT_inv hn with ⟨hb, rfl⟩ | ⟨hb, rfl⟩
  · simp only [loadA, Option.map_eq_some_iff] at hc
    obtain ⟨cs, hcs, rfl⟩ := hc
    obtain ⟨rb, k, rfl, hl, hcell⟩ := cellsAt_ok hs hcs hp'
    obtain ⟨us, h1, h2⟩ := cells_list cs hcell
    obtain ⟨ha, i, hi⟩ := run_isAgg_of hb w
    refine ⟨.agg us.toArray, ?_, ⟨us.toArray, rfl, h1⟩, _, rfl⟩
    have hlen : P.cellsOf t = us.length := by rw [← hl]; exact h1.length
    simp only [Instr.loadAt, Instr.sureAddr, loadVar, Sem.run_bind, Sem.run_pure, Result.andThen_ok, ha, run_sizeOf_of hi, hlen,
      run_loadCells_list w ⟨rb, k, none⟩ us (fun j u hj => by rw [Addr.add_mk]; exact h2 j u hj), if_true]
  · simp only [loadA] at hc
    cases hcs : cellsAt h 1 p with
    | none => rw [hcs] at hc; simp at hc
    | some cs =>
      rw [hcs] at hc
      obtain ⟨rb, k, rfl, hl, hcell⟩ := cellsAt_ok hs hcs hp'
      match cs, hl, hc, hcell with
      | [c'], _, hc, hcell =>
        simp only [Option.some.injEq] at hc
        subst hc
        obtain ⟨u, hu, hru⟩ := hcell 0 _ rfl
        obtain ⟨ha, i, hi⟩ := run_isAgg_of hb w
        refine ⟨u, ?_, ?_, _, rfl⟩
        · simp only [Instr.loadAt, Instr.sureAddr, loadVar, Sem.run_bind, Sem.run_pure, Result.andThen_ok, ha, Bool.false_eq_true, if_false, run_load]
          rw [Nat.add_zero] at hu
          rw [hu]
        · refine RpV.of_scalar ?_ ?_ hru <;> (rintro l rfl; cases hru)

theorem ok_mv {x : Operand} {y : Opd} {e : Ef} (ht : SimT I M tm nt a.tmps w) (hs : SimH I M h nx w) (hx : ofOpd x = some y) (ho : o.op = .move x ∨ o.op = .assign x)
    (he : opA tm h nx (.mv y) = some e) : OpOk P I M nx w (execOp a.eval o) e true := by
  simp only [opA, one, Option.some.injEq] at he
  subst he
  refine OpOk.pure hs (v := a.eval x) ?_ (opd_ok ht hx)
  rcases ho with ho | ho <;> simp [execOp, ho]

theorem ok_pk {c x y : Operand} {c' x' y' : Opd} {e : Ef} (ht : SimT I M tm nt a.tmps w) (hs : SimH I M h nx w) (hc : ofOpd c = some c') (hx : ofOpd x = some x') (hy : ofOpd y = some y')
    (ho : o.op = .pick c x y) (he : opA tm h nx (.pk c' x' y') = some e) : OpOk P I M nx w (execOp a.eval o) e true := by
  simp only [opA] at he
  have hrc := opd_ok ht hc
  cases hcv : rd tm c' <;> rw [hcv] at he hrc <;> simp only [one] at he <;> first | (cases he; done) | skip
  case bl b =>
    simp only [Option.some.injEq] at he
    subst he
    have hcb := bool_inv hrc
    refine OpOk.pure hs (v := if b then a.eval x else a.eval y) (by simp [execOp, ho, hcb, asBool]) ?_
    cases b
    · exact opd_ok ht hy
    · exact opd_ok ht hx

theorem zeroOf_ok {t : TypeId} {z : List AV} (hz : zeroOf P t = some z) :
    ∃ (v : Value) (i : TypeInfo), P.info? t = some i ∧ (∀ w : World, (zeroValue t).run P w = .ok v w) ∧ (∀ (I : Nat → Prop) (M : MU) (w : World), All2 (Rp I M w) z v.cells.toList) ∧ z.length = P.cellsOf t := by
  unfold zeroOf at hz
  cases hi : P.info? t with
  | none => rw [hi] at hz; simp at hz
  | some i =>
    rw [hi] at hz
    simp only [Option.bind_eq_bind, Option.bind_some] at hz
    cases hv : i.zero with
    | none => rw [hv] at hz; simp at hz
    | some v =>
      rw [hv] at hz
      simp only [Option.bind_some] at hz
      cases hm : v.cells.toList.mapM ofScalar with
      | none => rw [hm] at hz; simp at hz
      | some cs =>
        rw [hm] at hz
        simp only [Option.bind_some, Option.ite_none_right_eq_some, Option.some.injEq] at hz
        obtain ⟨hl, rfl⟩ := hz
        exact ⟨v, i, rfl, fun w => by simp [zeroValue, typeInfo, hi, hv], fun I M w => (mapM_all2 hm).flip.mono fun _ _ hb => ofScalar_ok hb, by rw [hl]; simp [Program.cellsOf, hi]⟩

theorem all2_at {R : AV → Value → Prop} {cs : List AV} {arr : Array Value} (h2 : All2 R cs arr.toList) : ∀ (j : Nat) (c : AV), cs[j]? = some c → ∃ u, arr[j]? = some u ∧ R c u := by
  intro j c hj
  obtain ⟨u, hu, hr⟩ := h2.get j c hj
  exact ⟨u, by simpa using hu, hr⟩

theorem var_ok (hs : SimH I M h nx w) {cs : List AV} {arr : Array Value} (t t' : TypeId) (h2 : All2 (Rp I M w) cs arr.toList) :
    ∃ M', Ev I M w I M' (w.alloc (.cells arr t')) ∧ SimH I M' (ins h nx (.rw true cs.length [cs] t)) (nx + 1) (w.alloc (.cells arr t')) ∧
      RpV I M' (w.alloc (.cells arr t')) (.re cs.length nx 0 0) (.pointer (some ⟨w.heap.size, 0, none⟩)) ∧ Quiet I M nx w I M' (w.alloc (.cells arr t')) := by
  have := alloc_ok hs true cs.length [cs] t t' arr (fun _ => rfl) (by simp) (fun i e j c hi hj => by
    cases i with
    | zero =>
      simp only [List.getElem?_cons_zero, Option.some.injEq] at hi
      subst hi
      obtain ⟨u, hu, hr⟩ := all2_at h2 j c hj
      exact ⟨u, by simpa using hu, hr⟩
    | succ i => simp at hi)
  refine ⟨_, this.1, this.2.1, ?_, this.2.2⟩
  have := Rp.re (I := I) (M := fun b => if b = nx then some (some (w.heap.size, 0)) else M b) (w := w.alloc (.cells arr t')) cs.length nx 0 0 w.heap.size 0 (by simp)
  simpa [RpV, RpW] using this

theorem ok_al {t : TypeId} {z : List AV} {e : Ef} (hs : SimH I M h nx w) (hz : zeroOf P t = some z) (ho : o.op = .alloc t)
    (he : opA tm h nx (.al z t) = some e) : OpOk P I M nx w (execOp a.eval o) e true := by
  simp only [opA, Option.some.injEq] at he
  subst he
  obtain ⟨v, i, hi, hrun, h2, hl⟩ := zeroOf_ok hz
  obtain ⟨M', h1, h3, h4, hq⟩ := var_ok hs t t (h2 I M w)
  refine ⟨_, _, _, I, M', ?_, .val _, h1, h3, h4, fun _ => hq⟩
  simp only [execOp, ho, Instr.alloc, Sem.run_bind, hrun, Result.andThen_ok, newVar, newRow, Sem.run_pure, run_newObj]
  rfl

theorem ok_bx {t : TypeId} {x : Operand} {y : Opd} {e : Ef} (ht : SimT I M tm nt a.tmps w) (hs : SimH I M h nx w) (hx : ofOpd x = some y) (ho : o.op = .box t x)
    (he : opA tm h nx (.bx t y) = some e) : OpOk P I M nx w (execOp a.eval o) e true := by
  simp only [opA] at he
  cases hc : cellsOf (rd tm y) with
  | none => rw [hc] at he; simp at he
  | some cs =>
    rw [hc] at he
    simp only [Option.some.injEq] at he
    subst he
    obtain ⟨h2, _⟩ := cellsOf_ok hc (opd_ok ht hx)
    obtain ⟨M', h1, h3, h4, hq⟩ := var_ok hs t t h2
    refine ⟨_, _, _, I, M', ?_, .val _, h1, h3, h4, fun _ => hq⟩
    simp only [execOp, ho, Instr.box, Sem.run_bind, Result.andThen_ok, newVar, newRow, Sem.run_pure, run_newObj]
    rfl

theorem ok_ld {t : TypeId} {x : Operand} {y : Opd} {n : Option Nat} {e : Ef} (ht : SimT I M tm nt a.tmps w) (hs : SimH I M h nx w) (hx : ofOpd x = some y) (hn : shapeT P t = some n) (ho : o.op = .load t x)
    (he : opA tm h nx (.ld n y) = some e) : OpOk P I M nx w (execOp a.eval o) e true := by
  simp only [opA, Option.bind_eq_some_iff, one, Option.some.injEq] at he
  obtain ⟨c, hc, rfl⟩ := he
  obtain ⟨u, hu, hru, _⟩ := loadA_ok (P := P) hs hn hc (opd_ok ht hx)
  exact OpOk.pure hs (by simp [execOp, ho, hu]) hru
end
end Go.Am
set_option linter.unusedSimpArgs false
set_option linter.unusedVariables false
namespace Go.Am
section
variable {P : Program} {I : Nat → Prop} {M : MU} {w : World} {h : List (Nat × BK)} {nx nt : Nat} {tm : List (Nat × AV)} {a : Act} {o : Oper}

def wr (cur : Array Value) (k : Nat) (vs : List Value) : Array Value := (cur.toList.take k ++ vs ++ cur.toList.drop (k + vs.length)).toArray

theorem wr_size {cur : Array Value} {k : Nat} {vs : List Value} (hk : k + vs.length ≤ cur.size) : (wr cur k vs).size = cur.size := by
  simp [wr]; omega
theorem wr_get {cur : Array Value} {k : Nat} {vs : List Value} (hk : k + vs.length ≤ cur.size) (j : Nat) :
    (wr cur k vs)[j]? = if k ≤ j ∧ j < k + vs.length then vs[j - k]? else cur[j]? := by
  simp only [wr, List.getElem?_toArray, List.getElem?_append, List.length_append, List.length_take, Array.length_toList]
  have h1 : min k cur.size = k := by omega
  rw [h1]
  by_cases hj : j < k + vs.length
  · rw [if_pos hj]
    by_cases hj2 : j < k
    · rw [if_pos hj2, if_neg (by omega), List.getElem?_take, if_pos hj2]; simp
    · rw [if_neg hj2, if_pos ⟨by omega, hj⟩]
  · rw [if_neg hj, if_neg (by omega), List.getElem?_drop]
    rw [show k + vs.length + (j - (k + vs.length)) = j by omega]; simp

theorem run_storeCells_at (g k : Nat) (t : TypeId) (lo hi : Nat) : ∀ (vs : List Value) (i : Nat) (cur : Array Value) (w : World), w.heap[g]? = some (.cells cur t (lo, hi)) → (hi ≤ lo ∨ cur.size ≤ lo) →
    k + i + vs.length ≤ cur.size → (∀ v ∈ vs, v.oneCell' = true) → (storeCells ⟨g, k, none⟩ vs i).run P w = .ok () (w.setRow g (wr cur (k + i) vs))
  | [], i, cur, w, hg, hf, hl, _ => by
    have hlt : g < w.heap.size := (Array.getElem?_eq_some_iff.1 hg).1
    have hv : w.heap[g] = .cells cur t (lo, hi) := (Array.getElem?_eq_some_iff.1 hg).2
    have hw : wr cur (k + i) [] = cur := by
      apply Array.ext'
      simp [wr]
    simp only [storeCells, hw]
    show Result.ok () w = _
    congr 1
    unfold World.setRow
    cases w with
    | mk heap tape drawn os output =>
      congr 1
      apply Array.ext
      · simp
      · intro k h1 h2
        simp only [Array.getElem_modify]
        split
        · rename_i hk; subst hk; simp at hv; simp [hv]
        · rfl
  | v :: rest, i, cur, w, hg, hf, hl, h1 => by
    have hi' : k + i < cur.size := by simp at hl; omega
    have hcell : w.cell? ⟨g, k + i, none⟩ = some cur[k + i] := by simp [World.cell?, hg, hi']
    have hfro : w.frozen? ⟨g, k + i, none⟩ = false := by
      simp only [World.frozen?, hg]
      rcases hf with hf | hf <;> simp <;> omega
    have hst : (store ((⟨g, k, none⟩ : Addr).add i) v).run P w = .ok () (w.setRow g (cur.setIfInBounds (k + i) v)) := by
      rw [Addr.add_mk, run_store P w _ v _ (h1 v (by simp)), hcell]
      simp [hfro, setCell_eq_setRow w g (k + i) cur t (lo, hi) v hg]
    have ih := run_storeCells_at g k t lo hi rest (i + 1) (cur.setIfInBounds (k + i) v) (w.setRow g (cur.setIfInBounds (k + i) v)) (setRow_heap w g cur _ t _ hg) (by simpa using hf) (by simp at hl ⊢; omega) (fun x hx => h1 x (by simp [hx]))
    simp only [storeCells, Sem.run_bind, hst, Result.andThen_ok, ih, setRow_setRow]
    congr 2
    apply Array.ext'
    simp only [wr, Array.toList_setIfInBounds]
    apply List.ext_getElem?
    intro j
    simp only [List.length_cons] at hl
    simp only [List.getElem?_append, List.length_append, List.length_take, List.length_set, Array.length_toList, List.length_cons]
    rw [show min (k + (i + 1)) cur.size = k + i + 1 by omega, show min (k + i) cur.size = k + i by omega]
    by_cases hj : j < k + i
    · simp [hj, show j < k + i + 1 + rest.length by omega, show j < k + i + 1 by omega, show j < k + (i + 1) by omega, show j < k + i + (rest.length + 1) by omega, List.getElem?_take, List.getElem?_set, show k + i ≠ j by omega]
    · by_cases hj2 : j = k + i
      · subst hj2
        simp [show k + i < k + i + 1 + rest.length by omega, show k + i < k + (i + 1) by omega, List.getElem?_take, List.getElem?_set, hi']
      · by_cases hj3 : j < k + i + 1 + rest.length
        · simp [hj, hj3, show ¬ j < k + i + 1 by omega, show j < k + i + (rest.length + 1) by omega, show j - (k + i) = (j - (k + i + 1)) + 1 by omega]
        · rw [if_neg (by omega), if_neg (by omega)]
          simp only [List.getElem?_drop]
          rw [List.getElem?_set]
          rw [if_neg (by omega)]
          congr 1
          omega

theorem setRow_ev {rb o b : Nat} (hM : M b = some (some (rb, o))) {arr arr' : Array Value} {t : TypeId} {fr : Nat × Nat} (hh : w.heap[rb]? = some (.cells arr t fr)) (hsz : arr'.size = arr.size) :
    Ev I M w I M (w.setRow rb arr') :=
  ⟨rfl, rfl, rfl, by simp, fun _ h => h, fun _ h => .inl h, fun b' hb ho => setRow_other _ _ _ _ (fun e => ho (e ▸ ⟨b, o, hM⟩)), fun b' hb => by
    by_cases e : b' = rb
    · subst e
      simp [World.shape?, setRow_heap w b' arr arr' t fr hh, hh, hsz]
    · simp [World.shape?, setRow_other _ _ _ _ e], fun _ _ h => .inl h, fun _ h => .inl h, .of (Nat.le_refl _)⟩

theorem mul_apart {i i' sz j off n : Nat} (hne : i' ≠ i) (hj : j < sz) (ho : off + n ≤ sz) : i' * sz + j < i * sz + off ∨ i * sz + off + n ≤ i' * sz + j := by
  rcases Nat.lt_or_gt_of_ne hne with h | h
  · have := Nat.mul_le_mul_right sz (show i' + 1 ≤ i from h)
    rw [Nat.add_mul] at this; omega
  · have := Nat.mul_le_mul_right sz (show i + 1 ≤ i' from h)
    rw [Nat.add_mul] at this; omega

theorem splice_length {e new : List AV} {off : Nat} (hle : off + new.length ≤ e.length) : (splice e new off).length = e.length := by
  simp [splice]; omega
theorem splice_get {e new : List AV} {off : Nat} (hle : off + new.length ≤ e.length) (j : Nat) :
    (splice e new off)[j]? = if off ≤ j ∧ j < off + new.length then new[j - off]? else e[j]? := by
  simp only [splice, List.getElem?_append, List.length_append, List.length_take]
  rw [show min off e.length = off by omega]
  by_cases hj : j < off + new.length
  · rw [if_pos hj]
    by_cases hj2 : j < off
    · rw [if_pos hj2, if_neg (by omega), List.getElem?_take, if_pos hj2]
    · rw [if_neg hj2, if_pos ⟨by omega, hj⟩]
  · rw [if_neg hj, if_neg (by omega), List.getElem?_drop]
    rw [show off + new.length + (j - (off + new.length)) = j by omega]

theorem store_ok (hs : SimH I M h nx w) {b sz i off rb o : Nat} {v : Bool} {es : List (List AV)} {t : TypeId} {e new : List AV} {us : List Value} (hk : blk h b = .rw v sz es t) (hM : M b = some (some (rb, o)))
    (he : es[i]? = some e) (hle : off + new.length ≤ e.length) (h2 : All2 (Rp I (Mv v M) w) new us) (h1 : ∀ u ∈ us, u.oneCell' = true) :
    ∃ w', (storeCells ⟨rb, o + i * sz + off, none⟩ us).run P w = .ok () w' ∧ Ev I M w I M w' ∧ SimH I M (put h b (.rw v sz (es.set i (splice e new off)) t)) nx w' ∧ ∀ b' : Nat, b' ≠ rb → w'.heap[b']? = w.heap[b']? := by
  obtain ⟨rb', o', arr, t', lo, hi, g1, g2, g3, g4, g5, g6⟩ := (blk_rw hs hk).row
  rw [hM] at g1
  simp only [Option.some.injEq, Prod.mk.injEq] at g1
  obtain ⟨rfl, rfl⟩ := g1
  have hesz : e.length = sz := g5 e (List.mem_of_getElem? he)
  have hlen : us.length = new.length := h2.length.symm
  have hroom : o + i * sz + off + us.length ≤ arr.size ∨ us.length = 0 := by
    rcases Nat.eq_zero_or_pos us.length with h0 | h0
    · exact .inr h0
    · refine .inl ?_
      have hlt : off + us.length - 1 < e.length := by omega
      obtain ⟨u, hu, _⟩ := g6 i e (off + us.length - 1) _ he (List.getElem?_eq_getElem hlt)
      have := (Array.getElem?_eq_some_iff.1 hu).1
      omega
  rcases hroom with hroom | h0
  · refine ⟨w.setRow rb (wr arr (o + i * sz + off) us), ?_, setRow_ev hM g2 (wr_size hroom), ?_, fun b' hb' => setRow_other _ _ _ _ hb'⟩
    · have := run_storeCells_at (P := P) rb (o + i * sz + off) t' lo hi us 0 arr w g2 g3 (by omega) h1
      simpa using this
    · have hev : Ev I M w I M (w.setRow rb (wr arr (o + i * sz + off) us)) := setRow_ev hM g2 (wr_size hroom)
      refine ⟨fun b' => ?_, hs.inj, hs.sep, fun rb' ho => by simpa using hs.bnd rb' ho, fun b' hb => by simpa using hs.ibd b' hb, hs.fr⟩
      rw [blk_put]
      by_cases eb : b = b'
      · subst eb
        rw [if_pos rfl]
        refine ⟨rb, o, wr arr (o + i * sz + off) us, t', lo, hi, hM, setRow_heap w rb arr _ t' _ g2, ?_, fun hv => by simpa using g4 hv, fun e' he' => ?_, fun i' e' j c hi' hj => ?_⟩
        · rw [wr_size hroom]; exact g3
        · rcases List.mem_or_eq_of_mem_set he' with h | h
          · exact g5 e' h
          · rw [h, splice_length hle, hesz]
        · rw [wr_get hroom]
          by_cases ei : i = i'
          · subst ei
            have hlt : i < es.length := (List.getElem?_eq_some_iff.1 he).1
            rw [List.getElem?_set_self hlt] at hi'
            simp only [Option.some.injEq] at hi'
            subst hi'
            rw [splice_get hle] at hj
            by_cases hin : off ≤ j ∧ j < off + new.length
            · rw [if_pos hin] at hj
              rw [if_pos (by omega)]
              obtain ⟨u, hu, hr⟩ := h2.get _ _ hj
              exact ⟨u, by rw [show o + i * sz + j - (o + i * sz + off) = j - off by omega]; exact hu, hs.rpM hev _ _ _ hr⟩
            · rw [if_neg hin] at hj
              rw [if_neg (by omega)]
              obtain ⟨u, hu, hr⟩ := g6 i e j c he hj
              exact ⟨u, hu, hs.rpM hev _ _ _ hr⟩
          · rw [List.getElem?_set_ne ei] at hi'
            have hjl : j < sz := by
              have := (List.getElem?_eq_some_iff.1 hj).1
              rw [g5 e' (List.mem_of_getElem? hi')] at this
              exact this
            have := mul_apart (Ne.symm ei) hjl (show off + us.length ≤ sz by omega)
            rw [if_neg (by omega)]
            obtain ⟨u, hu, hr⟩ := g6 i' e' j c hi' hj
            exact ⟨u, hu, hs.rpM hev _ _ _ hr⟩
      · rw [if_neg eb]
        refine (hs.blks b').go hs hev rfl fun rb' o' hb' => setRow_other _ _ _ _ fun e1 => eb (hs.inj b b' rb o o' hM (e1 ▸ hb'))
  · have hu0 : us = [] := List.eq_nil_of_length_eq_zero h0
    subst hu0
    have hn0 : new = [] := List.eq_nil_of_length_eq_zero (by simpa using h2.length)
    subst hn0
    refine ⟨w, rfl, Ev.refl I M w, ?_, fun _ _ => rfl⟩
    have hsp : splice e [] off = e := by simp [splice]
    have hse : es.set i e = es := by
      apply List.ext_getElem?
      intro j
      rw [List.getElem?_set]
      split
      · rename_i hj
        subst hj
        rw [he]
        simp [(List.getElem?_eq_some_iff.1 he).1]
      · rfl
    refine ⟨fun b' => ?_, hs.inj, hs.sep, hs.bnd, hs.ibd, hs.fr⟩
    rw [blk_put, hsp, hse]
    by_cases eb : b = b'
    · subst eb; rw [if_pos rfl]; exact blk_rw hs hk
    · rw [if_neg eb]; exact hs.blks b'
end
end Go.Am
set_option linter.unusedSimpArgs false
set_option linter.unusedVariables false
namespace Go.Am
section
variable {P : Program} {I : Nat → Prop} {M : MU} {w : World} {h : List (Nat × BK)} {nx nt : Nat} {tm : List (Nat × AV)} {a : Act} {o : Oper}

theorem RpV.scal {c : AV} {v : Value} (hr : RpV I M w c v) (h1 : sclr c = true) : Rp I M w c v := by
  cases c <;> simp only [sclr, Bool.false_eq_true] at h1 <;> exact hr
theorem Rp.scal {c : AV} {v : Value} (hr : Rp I M w c v) : RpV I M w c v := by
  refine RpV.of_scalar ?_ ?_ hr <;> (rintro l rfl; cases hr)

theorem alive_iff (hs : SimH I M h nx w) {b : Nat} (hb : alive h b = true) : ∃ rb o, M b = some (some (rb, o)) := by
  unfold alive at hb
  have := hs.blks b
  cases hk : blk h b with
  | dd => rw [hk] at hb; simp at hb
  | rw v sz es t =>
    obtain ⟨rb, o, _, _, _, _, h1, _⟩ := (blk_rw hs hk).row
    exact ⟨rb, o, h1⟩
  | mp es =>
    rw [hk] at this
    obtain ⟨rb, _, _, h1, _⟩ := this
    exact ⟨rb, 0, h1⟩

theorem re_inv {sz b i off rb oo : Nat} {v : Value} (hr : RpV I M w (.re sz b i off) v) (hM : M b = some (some (rb, oo))) : v = .pointer (some ⟨rb, oo + i * sz + off, none⟩) := by
  cases (show Rp I M w (.re sz b i off) v from hr) with
  | reD _ _ _ _ _ hM' => rw [hM] at hM'; simp at hM'
  | re _ _ _ _ rb' o' hM' =>
    rw [hM] at hM'
    simp only [Option.some.injEq, Prod.mk.injEq] at hM'
    obtain ⟨rfl, rfl⟩ := hM'
    rfl
theorem ri_inv {sz i off : Nat} {es : List (List AV)} {v : Value} (hr : RpV I M w (.ri sz es i off) v) :
    ∃ ib io u, v = .pointer (some ⟨ib, io + i * sz + off, none⟩) ∧ (∀ e ∈ es, e.length = sz) ∧ I ib ∧ CellsAt w ib io sz es u ∧
      ∀ (i : Nat) (e : List AV) (j : Nat) (c : AV), es[i]? = some e → e[j]? = some c → Rp I M0 w c (u i j) := by
  cases (show Rp I M w (.ri sz es i off) v from hr) with
  | ri _ _ _ _ ib io u h1 h2 h3 h4 => exact ⟨ib, io, u, rfl, h1, h2, h3, h4⟩
theorem fn_inv {f : FuncId} {caps : List AV} {v : Value} (hr : RpV I M w (.fn f caps) v) : ∃ (vs : Array Value) (f' : FuncId) (fs us : Array Value), v = .func (.func f') fs us ∧ FnK f f' vs fs us ∧ All2 (Rp I M w) caps vs.toList := by
  cases (show Rp I M w (.fn f caps) v from hr) with
  | fn _ _ vs hl hr2 f' fs us hfk => exact ⟨vs, f', fs, us, rfl, hfk, .of_get hl hr2⟩
theorem sl_inv {sz b lo len rb oo : Nat} {v : Value} (hr : RpV I M w (.sl sz b lo len) v) (hM : M b = some (some (rb, oo))) :
    ∃ ad cap t n, v = .slice (some ad) len cap ∧ len ≤ cap ∧ (0 < cap → ad = ⟨rb, oo + lo * sz, none⟩) ∧ w.shape? rb = some (t, n) ∧ oo + (lo + cap) * sz ≤ n := by
  cases (show Rp I M w (.sl sz b lo len) v from hr) with
  | slD _ _ _ _ _ hM' => rw [hM] at hM'; simp at hM'
  | sl _ _ _ _ rb' o' cap ad t n hM' h1 h2 h3 h4 =>
    rw [hM] at hM'
    simp only [Option.some.injEq, Prod.mk.injEq] at hM'
    obtain ⟨rfl, rfl⟩ := hM'
    exact ⟨ad, cap, t, n, rfl, h1, h2, h3, h4⟩

def Kept (M : MU) (w : World) (M' : MU) (w' : World) (b : Nat) : Prop := ∀ rb o, M b = some (some (rb, o)) → M' b = some (some (rb, o)) ∧ w'.heap[rb]? = w.heap[rb]?
theorem ok_srS {t : TypeId} {x y : Operand} {x' y' : Opd} {e : Ef} (ht : SimT I M tm nt a.tmps w) (hs : SimH I M h nx w) (hx : ofOpd x = some x') (hy : ofOpd y = some y') (hi : (P.info? t).isSome = true)
    (ho : o.op = .store t x y) (he : opA tm h nx (.sr (P.cellsOf t) x' y') = some e) :
    ∃ nv v w' I' M', (execOp a.eval o).run P w = .ok nv w' ∧ Gives nv v ∧ Ev I M w I' M' w' ∧ SimH I' M' e.h e.nx w' ∧ RpV I' M' w' e.v v ∧
      ∀ sz b i off sz' es tt, rd tm x' = .re sz b i off → blk h b = .rw true sz' es tt → ∀ b', b' ≠ b → Kept M w M' w' b' := by
  simp only [opA] at he
  obtain ⟨ti, hti⟩ := Option.isSome_iff_exists.1 hi
  cases hc : cellsOf (rd tm y') with
  | none => rw [hc] at he; simp at he
  | some new =>
    rw [hc] at he
    simp only [] at he
    split at he
    · simp at he
    · rename_i hcond
      obtain ⟨hl, hud⟩ := not_or.1 hcond
      have hl : new.length = P.cellsOf t := by simpa using hl
      obtain ⟨h2, h1⟩ := cellsOf_ok hc (opd_ok ht hy)
      have h1' : ∀ u ∈ (a.eval y).cells.toList, u.oneCell' = true := fun u hu => by
        rcases h1 u hu with h | h
        · exact h
        · exact absurd (List.any_eq_true.2 ⟨_, h, rfl⟩) hud
      have hsz : (a.eval y).cells.size = P.cellsOf t := by rw [← hl, h2.length]; simp
      have hstore : ∀ (w w' : World) (ad : Addr), (storeCells ad (a.eval y).cells.toList).run P w = .ok () w' → a.eval x = .pointer (some ad) → (execOp a.eval o).run P w = .ok .skip w' := by
        intro w w' ad hst hax
        simp only [execOp, ho, hax, Instr.storeAt, Instr.sureAddr, storeVar, Sem.run_bind, Sem.run_pure, Result.andThen_ok, run_sizeOf_of hti, hsz, ne_eq, not_true_eq_false, if_false, hst]
      have hrx := opd_ok ht hx
      cases hxv : rd tm x' <;> rw [hxv] at he hrx <;> simp only [] at he <;> first | (cases he; done) | skip
      case re sz b i off =>
        cases hk : blk h b with
        | dd => rw [hk] at he; simp at he
        | mp es => rw [hk] at he; simp at he
        | rw v sz' es tt =>
          rw [hk] at he
          simp only [] at he
          split at he
          · simp at he
          · rename_i hszz
            have hszz : sz = sz' := by simpa using hszz
            subst hszz
            cases hei : es[i]? with
            | none => rw [hei] at he; simp at he
            | some el =>
              rw [hei] at he
              simp only [] at he
              split at he
              · rename_i hle
                obtain ⟨rb, oo, arr, t', lo, hi', g1, g2, g3, g4, g5, g6⟩ := (blk_rw hs hk).row
                have hax : a.eval x = .pointer (some ⟨rb, oo + i * sz + off, none⟩) := re_inv hrx g1
                cases v with
                | true =>
                  simp only [if_true, Option.some.injEq] at he
                  subst he
                  obtain ⟨w', k1, k2, k3, k4⟩ := store_ok (P := P) hs hk g1 hei (by rw [hl]; exact hle) h2 h1'
                  exact ⟨_, _, w', I, M, hstore w w' _ k1 hax, .skip, k2, k3, .ud _, fun sz1 b1 i1 off1 sz2 es2 tt2 e1 e2 b' hne rb' o' hM' => ⟨hM', k4 rb' fun hrb => hne (by
                    injection e1 with _ e1 _ _
                    rw [hrb] at hM'
                    rw [← e1]
                    exact hs.inj b' b rb o' oo hM' g1)⟩⟩
                | false =>
                  simp only [Bool.false_eq_true, if_false] at he
                  split at he
                  · simp at he
                  · rename_i hnr
                    cases hsn : snapL (snapC h) new with
                    | none => rw [hsn] at he; simp at he
                    | some new' =>
                      rw [hsn] at he
                      simp only [Option.some.injEq] at he
                      subst he
                      have hs' := kill_ok hs (new.flatMap refs)
                      have hev := kill_ev (I := I) (M := M) (w := w) (new.flatMap refs)
                      have hbn : b ∉ new.flatMap refs := fun hb => hnr (by simpa [List.contains_iff_mem] using hb)
                      have hk' : blk (kill h (new.flatMap refs)) b = .rw false sz es tt := by rw [blk_kill, if_neg hbn, hk]
                      have h2' : All2 (Rp (deadI (new.flatMap refs) I M) M0 w) new' (a.eval y).cells.toList := by
                        have hall := snapL_all2 hsn
                        have : ∀ {cs cs' : List AV} {us : List Value}, (∀ c ∈ cs, c ∈ new) → All2 (fun a b => snapC h a = some b) cs cs' → All2 (Rp I M w) cs us → All2 (Rp (deadI (new.flatMap refs) I M) M0 w) cs' us := by
                          intro cs cs' us hsub h3 h4
                          induction h3 generalizing us with
                          | nil => cases h4; exact .nil
                          | cons hh1 _ ih =>
                            cases h4 with
                            | cons hh2 h4 =>
                              refine .cons (snapC_ok hs (fun _ h => .inl h) hh1 hh2 fun b' rb' o' hb' hM' => .inr ⟨b', o', ?_, hM'⟩) (ih (fun c hc => hsub c (by simp [hc])) h4)
                              exact List.mem_flatMap.2 ⟨_, hsub _ (by simp), hb'⟩
                        exact this (fun _ h => h) hall h2
                      have hle' : off + new'.length ≤ el.length := by rw [← (snapL_all2 hsn).length]; omega
                      obtain ⟨w', k1, k2, k3, k4⟩ := store_ok (P := P) (v := false) hs' hk' (show deadM _ M b = some (some (rb, oo)) by simp [deadM, hbn, g1]) hei hle' h2' h1'
                      exact ⟨_, _, w', _, _, hstore w w' _ k1 hax, .skip, hev.trans k2, k3, .ud _, fun sz1 b1 i1 off1 sz2 es2 tt2 e1 e2 => by
                        injection e1 with _ e1 _ _
                        rw [← e1, hk] at e2
                        simp at e2⟩
              · simp at he

theorem ok_sr {t : TypeId} {x y : Operand} {x' y' : Opd} {e : Ef} (ht : SimT I M tm nt a.tmps w) (hs : SimH I M h nx w) (hx : ofOpd x = some x') (hy : ofOpd y = some y') (hi : (P.info? t).isSome = true)
    (ho : o.op = .store t x y) (he : opA tm h nx (.sr (P.cellsOf t) x' y') = some e) : OpOk P I M nx w (execOp a.eval o) e false := by
  obtain ⟨nv, v, w', I', M', h1, h2, h3, h4, h5, _⟩ := ok_srS ht hs hx hy hi ho he
  exact ⟨nv, v, w', I', M', h1, h2, h3, h4, h5, nofun⟩

theorem ok_nc {x : Operand} {y : Opd} {e : Ef} (ht : SimT I M tm nt a.tmps w) (hs : SimH I M h nx w) (hx : ofOpd x = some y) (ho : o.op = .nilCheck x)
    (he : opA tm h nx (.nc y) = some e) : OpOk P I M nx w (execOp a.eval o) e true := by
  simp only [opA] at he
  have hrx := opd_ok ht hx
  cases hxv : rd tm y <;> rw [hxv] at he hrx <;> simp only [one] at he <;> first | (cases he; done) | skip
  case re sz b i off =>
    simp only [Option.ite_none_right_eq_some, Option.some.injEq] at he
    obtain ⟨hal, rfl⟩ := he
    obtain ⟨rb, oo, hM⟩ := alive_iff hs hal
    refine OpOk.pure hs (v := a.eval x) ?_ hrx
    have := re_inv hrx hM
    simp [execOp, ho, this]
  case ri sz es i off =>
    simp only [Option.some.injEq] at he
    subst he
    refine OpOk.pure hs (v := a.eval x) ?_ hrx
    obtain ⟨ib, io, u, hv, _⟩ := ri_inv hrx
    simp [execOp, ho, hv]
  case fn f caps =>
    simp only [Option.some.injEq] at he
    subst he
    refine OpOk.pure hs (v := a.eval x) ?_ hrx
    obtain ⟨_, _, fs, vs, hv, _⟩ := fn_inv hrx
    simp [execOp, ho, hv]

theorem ok_bn {op : BinOp} {t t2 : TypeId} {x y : Operand} {x' y' : Opd} {e : Ef} (ht : SimT I M tm nt a.tmps w) (hs : SimH I M h nx w) (hx : ofOpd x = some x') (hy : ofOpd y = some y')
    (ho : o.op = .binOp op t x y t2) (he : opA tm h nx (.bn op x' y') = some e) : OpOk P I M nx w (execOp a.eval o) e true := by
  simp only [opA, Option.bind_eq_some_iff, one, Option.some.injEq] at he
  obtain ⟨c, hc, rfl⟩ := he
  obtain ⟨r, hr, hrc⟩ := binA_ok (P := P) t x y hc (opd_ok ht hx) (opd_ok ht hy)
  refine OpOk.pure hs (v := r) ?_ hrc
  simp only [execOp, ho]
  rw [Sem.run_bind, hr]
  rfl

theorem ok_eb {neg : Bool} {t t2 : TypeId} {x y : Operand} {x' y' : Opd} {e : Ef} (ht : SimT I M tm nt a.tmps w) (hs : SimH I M h nx w) (hx : ofOpd x = some x') (hy : ofOpd y = some y')
    (hu : P.underlying t = some .bool) (ho : o.op = .binOp (if neg then .neq else .eql) t x y t2) (he : opA tm h nx (.eb neg x' y') = some e) : OpOk P I M nx w (execOp a.eval o) e true := by
  simp only [opA] at he
  have hrx := opd_ok ht hx
  have hry := opd_ok ht hy
  cases hxv : rd tm x' <;> rw [hxv] at he hrx <;> simp only [one] at he <;> first | (cases he; done) | skip
  case bl b =>
    cases hyv : rd tm y' <;> rw [hyv] at he hry <;> simp only [one] at he <;> first | (cases he; done) | skip
    case bl c =>
      simp only [Option.some.injEq] at he
      subst he
      refine OpOk.pure hs (v := .bool (if neg then !(b == c) else b == c)) ?_ (.bl _)
      have e1 : (Op.equal t (.bool b) (.bool c)).run P w = .ok (b == c) w := by
        rw [Op.equal, show Op.maxDepth = 9999 + 1 from rfl, Op.equalIn, Sem.run_bind, run_underlying hu]
        rfl
      cases neg
      · simp only [execOp, ho, bool_inv hrx, bool_inv hry, eqGuard_at_bool, pure_bind, Bool.false_eq_true, if_false]
        rw [Sem.run_bind]
        simp only [binOp, Sem.run_bind, e1, Result.andThen_ok, Sem.run_pure]
      · simp only [execOp, ho, bool_inv hrx, bool_inv hry, eqGuard_at_bool, pure_bind, if_true]
        rw [Sem.run_bind]
        simp only [binOp, Sem.run_bind, e1, Result.andThen_ok, Sem.run_pure]

def NilOf : Nat → Value → Prop
  | 0, v => v = .pointer none
  | 1, v => v = .slice none 0 0
  | 2, v => v = .nilIface
  | 3, v => v = .nilFunc
  | 4, v => v = .map none
  | _, _ => False
def NotNilOf : Nat → Value → Prop
  | 0, v => ∃ ad, v = .pointer (some ad)
  | 1, v => ∃ ad n c, v = .slice (some ad) n c
  | 3, v => ∃ f x y, v = .func f x y
  | 4, v => ∃ rb, v = .map (some rb)
  | _, _ => False
theorem nil_inv {c : AV} {v : Value} (hs : SimH I M h nx w) {r : Bool} {k : Nat} (hr : RpV I M w c v) (hn : nilA h k c = some r) : if r then NilOf k v else NotNilOf k v := by
  unfold nilA at hn
  split at hn
  · injection hn with hn; subst hn; cases (show Rp I M w .np v from hr); rfl
  · injection hn with hn; subst hn; cases (show Rp I M w .ns v from hr); rfl
  · injection hn with hn; subst hn; cases (show Rp I M w .ni v from hr); rfl
  · injection hn with hn; subst hn; cases (show Rp I M w .nf v from hr); rfl
  · injection hn with hn; subst hn; cases (show Rp I M w .nm v from hr); rfl
  · simp only [Option.ite_none_right_eq_some, Option.some.injEq] at hn
    obtain ⟨hal, rfl⟩ := hn
    obtain ⟨rb, oo, hM⟩ := alive_iff hs hal
    exact ⟨_, re_inv hr hM⟩
  · simp only [Option.ite_none_right_eq_some, Option.some.injEq] at hn
    obtain ⟨hal, rfl⟩ := hn
    obtain ⟨rb, oo, hM⟩ := alive_iff hs hal
    rename_i b
    cases (show Rp I M w (.mp b) v from hr) with
    | mpD _ _ hM' => rw [hM] at hM'; simp at hM'
    | mp => exact ⟨_, rfl⟩
  · simp only [Option.ite_none_right_eq_some, Option.some.injEq] at hn
    obtain ⟨hal, rfl⟩ := hn
    obtain ⟨rb, oo, hM⟩ := alive_iff hs hal
    obtain ⟨ad, cap, t, n, rfl, _⟩ := sl_inv hr hM
    exact ⟨_, _, _, rfl⟩
  · injection hn with hn; subst hn
    obtain ⟨ib, io, u, rfl, _⟩ := ri_inv hr
    exact ⟨_, rfl⟩
  · injection hn with hn; subst hn
    rename_i sz es
    cases (show Rp I M w (.ls sz es) v from hr) with
    | lsN => exact ⟨_, _, _, rfl⟩
    | ls => exact ⟨_, _, _, rfl⟩
  · injection hn with hn; subst hn
    obtain ⟨_, _, fs, vs, rfl, _⟩ := fn_inv hr
    exact ⟨_, _, _, rfl⟩
  · simp at hn
end
end Go.Am
set_option linter.unusedSimpArgs false
set_option linter.unusedVariables false
namespace Go.Am
section
variable {P : Program} {I : Nat → Prop} {M : MU} {w : World} {h : List (Nat × BK)} {nx nt : Nat} {tm : List (Nat × AV)} {a : Act} {o : Oper}

theorem nilKind_inv {d : TypeDesc} {y : Operand} {k : Nat} (hk : nilKind d y = some k) :
    ∃ c, y = .const c ∧ NilOf k c ∧ ((k = 0 ∧ ∃ e, d = .pointer e) ∨ (k = 1 ∧ ∃ e, d = .slice e) ∨ (k = 2 ∧ ∃ e, d = .interface e) ∨ (k = 3 ∧ ∃ e f g, d = .func e f g) ∨ (k = 4 ∧ ∃ e f, d = .map e f)) := by
  unfold nilKind at hk
  split at hk <;> first
    | (injection hk with hk; subst hk; exact ⟨_, rfl, rfl, by simp⟩)
    | simp at hk

theorem ok_nq {neg : Bool} {k : Nat} {t t2 : TypeId} {d : TypeDesc} {x y : Operand} {x' : Opd} {e : Ef} (ht : SimT I M tm nt a.tmps w) (hs : SimH I M h nx w) (hx : ofOpd x = some x')
    (hd : P.underlying t = some d) (hk : nilKind d y = some k) (ho : o.op = .binOp (if neg then .neq else .eql) t x y t2) (he : opA tm h nx (.nq neg k x') = some e) : OpOk P I M nx w (execOp a.eval o) e true := by
  simp only [opA, Option.bind_eq_some_iff, one, Option.some.injEq] at he
  obtain ⟨r, hr, rfl⟩ := he
  obtain ⟨c, rfl, hc, hkd⟩ := nilKind_inv hk
  have hv := nil_inv hs (opd_ok ht hx) hr
  refine OpOk.pure hs (v := .bool (if neg then !r else r)) ?_ (.bl _)
  have key : ∀ v, (if r then NilOf k v else NotNilOf k v) → (Op.equal t v c).run P w = .ok r w ∧ (∀ op oy, eqGuard op t oy (.const c) v c = pure ()) ∧ binOp .eql t v c = (do pure (.bool (← Op.equal t v c))) ∧ binOp .neq t v c = (do pure (.bool (!(← Op.equal t v c)))) := by
    intro v hv
    rcases hkd with ⟨rfl, e, rfl⟩ | ⟨rfl, e, rfl⟩ | ⟨rfl, e, rfl⟩ | ⟨rfl, e, f, g, rfl⟩ | ⟨rfl, e, f, rfl⟩ <;> cases r <;> simp only [NilOf, NotNilOf, if_true, if_false, Bool.false_eq_true] at hv hc
    case inl.false => obtain ⟨ad, rfl⟩ := hv; subst hc; exact ⟨by rw [Op.equal, show Op.maxDepth = 9999 + 1 from rfl, Op.equalIn, Sem.run_bind, run_underlying hd]; rfl, fun op oy => eqGuard_at_pointer .., rfl, rfl⟩
    case inl.true => subst hv hc; exact ⟨by rw [Op.equal, show Op.maxDepth = 9999 + 1 from rfl, Op.equalIn, Sem.run_bind, run_underlying hd]; rfl, fun op oy => eqGuard_at_pointer .., rfl, rfl⟩
    case inr.inl.false => obtain ⟨ad, n, cc, rfl⟩ := hv; subst hc; exact ⟨by rw [Op.equal, show Op.maxDepth = 9999 + 1 from rfl, Op.equalIn, Sem.run_bind, run_underlying hd]; rfl, fun op oy => eqGuard_at_slice .., rfl, rfl⟩
    case inr.inl.true => subst hv hc; exact ⟨by rw [Op.equal, show Op.maxDepth = 9999 + 1 from rfl, Op.equalIn, Sem.run_bind, run_underlying hd]; rfl, fun op oy => eqGuard_at_slice .., rfl, rfl⟩
    case inr.inr.inl.true => subst hv hc; exact ⟨by rw [Op.equal, show Op.maxDepth = 9999 + 1 from rfl, Op.equalIn, Sem.run_bind, run_underlying hd]; rfl, fun op oy => eqGuard_nil_constR .., rfl, rfl⟩
    case inr.inr.inr.inl.false => obtain ⟨f1, x1, y1, rfl⟩ := hv; subst hc; exact ⟨by rw [Op.equal, show Op.maxDepth = 9999 + 1 from rfl, Op.equalIn, Sem.run_bind, run_underlying hd]; rfl, fun op oy => eqGuard_at_func .., rfl, rfl⟩
    case inr.inr.inr.inl.true => subst hv hc; exact ⟨by rw [Op.equal, show Op.maxDepth = 9999 + 1 from rfl, Op.equalIn, Sem.run_bind, run_underlying hd]; rfl, fun op oy => eqGuard_at_nilFunc .., rfl, rfl⟩
    case inr.inr.inr.inr.false => obtain ⟨rb, rfl⟩ := hv; subst hc; exact ⟨by rw [Op.equal, show Op.maxDepth = 9999 + 1 from rfl, Op.equalIn, Sem.run_bind, run_underlying hd]; rfl, fun op oy => eqGuard_at_map .., rfl, rfl⟩
    case inr.inr.inr.inr.true => subst hv hc; exact ⟨by rw [Op.equal, show Op.maxDepth = 9999 + 1 from rfl, Op.equalIn, Sem.run_bind, run_underlying hd]; rfl, fun op oy => eqGuard_at_map .., rfl, rfl⟩
  obtain ⟨k1, k2, k3, k4⟩ := key _ hv
  cases neg
  · simp only [execOp, ho, Bool.false_eq_true, if_false, Act.eval, Sem.run_bind]
    simp only [Act.eval] at k1 k2 k3 k4
    simp only [k2, k3, Sem.run_pure, Result.andThen_ok, Sem.run_bind, k1]
  · simp only [execOp, ho, if_true, Act.eval, Sem.run_bind]
    simp only [Act.eval] at k1 k2 k3 k4
    simp only [k2, k4, Sem.run_pure, Result.andThen_ok, Sem.run_bind, k1]
end
end Go.Am
set_option linter.unusedSimpArgs false
set_option linter.unusedVariables false
namespace Go.Am
section
variable {P : Program} {I : Nat → Prop} {M : MU} {w : World} {h : List (Nat × BK)} {nx nt : Nat} {tm : List (Nat × AV)} {a : Act} {o : Oper}

theorem ok_un {op : UnOp} {t : TypeId} {x : Operand} {x' : Opd} {e : Ef} (ht : SimT I M tm nt a.tmps w) (hs : SimH I M h nx w) (hx : ofOpd x = some x')
    (ho : o.op = .unOp op t x) (he : opA tm h nx (.un op x') = some e) : OpOk P I M nx w (execOp a.eval o) e true := by
  simp only [opA] at he
  have hrx := opd_ok ht hx
  split at he
  · rename_i k n hxv
    rw [hxv] at hrx
    simp only [one, Option.some.injEq] at he
    subst he
    refine OpOk.pure hs (v := .int k (k.wrap (0 - n))) ?_ (.int _ _)
    simp only [execOp, ho, int_inv hrx, Op.unary, Op.intArith]; rfl
  · rename_i b hxv
    rw [hxv] at hrx
    simp only [one, Option.some.injEq] at he
    subst he
    refine OpOk.pure hs (v := .bool !b) ?_ (.bl _)
    simp only [execOp, ho, bool_inv hrx, Op.unary]; rfl
  · simp at he

theorem ok_ci {s d : TypeId} {ds : TypeDesc} {k : IntKind} {x : Operand} {x' : Opd} {e : Ef} (ht : SimT I M tm nt a.tmps w) (hs : SimH I M h nx w) (hx : ofOpd x = some x')
    (hs' : P.underlying s = some ds) (hd : P.underlying d = some (.int k)) (ho : o.op = .convert s d x) (he : opA tm h nx (.ci k x') = some e) : OpOk P I M nx w (execOp a.eval o) e true := by
  simp only [opA] at he
  have hrx := opd_ok ht hx
  split at he
  · rename_i k' n hxv
    rw [hxv] at hrx
    simp only [one, Option.some.injEq] at he
    subst he
    refine OpOk.pure hs (v := .int k (k.wrap n)) ?_ (.int _ _)
    simp only [execOp, ho, int_inv hrx, convert, Sem.run_bind, run_underlying hs', run_underlying hd, Result.andThen_ok]
    rfl
  · simp at he

theorem moveP_ok (hs : SimH I M h nx w) {k : Nat} {p q : AV} {v : Value} (hp : RpV I M w p v) (hq : moveP h k p = some q) :
    ∃ ad : Addr, v = .pointer (some ad) ∧ RpV I M w q (.pointer (some (ad.add k))) := by
  unfold moveP at hq
  split at hq
  · rename_i sz b i off
    have : alive h b = true ∧ q = .re sz b i (off + k) := by
      unfold alive
      cases hk : blk h b <;> rw [hk] at hq <;> simp at hq <;> simp [hq]
    obtain ⟨hal, rfl⟩ := this
    obtain ⟨rb, oo, hM⟩ := alive_iff hs hal
    refine ⟨_, re_inv hp hM, ?_⟩
    rw [Addr.add_mk, Nat.add_assoc]
    exact .re sz b i (off + k) rb oo hM
  · rename_i sz es i off
    simp only [Option.some.injEq] at hq
    subst hq
    obtain ⟨ib, io, u, rfl, h1, h2, h3, h4⟩ := ri_inv hp
    refine ⟨_, rfl, ?_⟩
    rw [Addr.add_mk, Nat.add_assoc]
    exact .ri sz es i (off + k) ib io u h1 h2 h3 h4
  · simp at hq

theorem ok_fa {t : TypeId} {n : Nat} {fs : Array Field} {f : Field} {x : Operand} {x' : Opd} {e : Ef} (ht : SimT I M tm nt a.tmps w) (hs : SimH I M h nx w) (hx : ofOpd x = some x')
    (hd : P.underlying t = some (.struct fs)) (hf : fs[n]? = some f) (hz : P.cellsOf f.type ≠ 0) (ho : o.op = .fieldAddr t x n) (he : opA tm h nx (.fa f.offset x') = some e) : OpOk P I M nx w (execOp a.eval o) e true := by
  simp only [opA, Option.bind_eq_some_iff, one, Option.some.injEq] at he
  obtain ⟨q, hq, rfl⟩ := he
  obtain ⟨ad, hv, hr⟩ := moveP_ok hs (opd_ok ht hx) hq
  refine OpOk.pure hs ?_ hr
  have hi : ∃ i, P.info? f.type = some i := by
    cases hi : P.info? f.type with
    | none => simp [Program.cellsOf, hi] at hz
    | some i => exact ⟨i, rfl⟩
  obtain ⟨i, hi⟩ := hi
  simp only [execOp, ho, hv, Instr.fieldAt, Sem.run_bind, run_underlying hd, Result.andThen_ok, hf, Instr.sureAddr, Sem.run_pure, fieldPlace, run_sizeOf_of hi, hz, if_false, Sem.run_ite]

theorem bound_inv {lo hi : Int} {x : AV} {n : Nat} (hb : bound lo hi x = some n) : ∃ k m, x = .int k m ∧ lo ≤ m ∧ m ≤ hi ∧ n = m.toNat := by
  unfold bound at hb
  split at hb
  · rename_i k m
    simp only [Option.ite_none_right_eq_some, Option.some.injEq] at hb
    exact ⟨k, m, rfl, hb.1.1, hb.1.2, hb.2.symm⟩
  · simp at hb

theorem ok_ia_arr {t et : TypeId} {len : Nat} {x y : Operand} {x' y' : Opd} {e : Ef} (ht : SimT I M tm nt a.tmps w) (hs : SimH I M h nx w) (hx : ofOpd x = some x') (hy : ofOpd y = some y')
    (hd : P.underlying t = some (.array len et)) (hi : ∃ i, P.info? et = some i) (ho : o.op = .indexAddr t x y) (he : opA tm h nx (.ia (some len) (P.cellsOf et) x' y') = some e) : OpOk P I M nx w (execOp a.eval o) e true := by
  simp only [opA, Option.bind_eq_some_iff, one, Option.some.injEq] at he
  obtain ⟨j, hj, q, hq, rfl⟩ := he
  obtain ⟨k, m, hm, h0, h1, rfl⟩ := bound_inv hj
  obtain ⟨ad, hv, hr⟩ := moveP_ok hs (opd_ok ht hx) hq
  have hry := opd_ok ht hy
  rw [hm] at hry
  obtain ⟨i, hi⟩ := hi
  refine OpOk.pure hs ?_ hr
  simp only [execOp, ho, hv, int_inv hry, Instr.indexAt, asIntOf, Sem.run_bind, Sem.run_pure, run_underlying hd, Result.andThen_ok, Instr.sureAddr, Sem.run_ite, run_sizeOf_of hi]
  rw [if_pos ⟨h0, by omega⟩]
  rfl

theorem ok_ia {t et : TypeId} {x y : Operand} {x' y' : Opd} {e : Ef} (ht : SimT I M tm nt a.tmps w) (hs : SimH I M h nx w) (hx : ofOpd x = some x') (hy : ofOpd y = some y')
    (hd : P.underlying t = some (.slice et)) (hi : ∃ i, P.info? et = some i) (ho : o.op = .indexAddr t x y) (he : opA tm h nx (.ia none (P.cellsOf et) x' y') = some e) : OpOk P I M nx w (execOp a.eval o) e true := by
  simp only [opA] at he
  have hrx := opd_ok ht hx
  have hry := opd_ok ht hy
  obtain ⟨i, hi⟩ := hi
  have run : ∀ (ad : Addr) (len cap : Nat) (k : IntKind) (m : Int), a.eval x = .slice (some ad) len cap → a.eval y = .int k m → 0 ≤ m → m < len →
      (execOp a.eval o).run P w = .ok (.value (.pointer (some (ad.add (m.toNat * P.cellsOf et))))) w := by
    intro ad len cap k m hv hy' h0 h1
    simp only [execOp, ho, hv, hy', Instr.indexAt, asIntOf, Sem.run_bind, Sem.run_pure, run_underlying hd, Result.andThen_ok, Sem.run_ite, run_sizeOf_of hi]
    rw [if_pos ⟨h0, h1⟩]
    rfl
  split at he
  · rename_i sz es hxv
    rw [hxv] at hrx
    split at he
    · simp at he
    · rename_i hsz
      have hsz : sz = P.cellsOf et := by simpa using hsz
      subst hsz
      simp only [Option.bind_eq_some_iff, one, Option.some.injEq] at he
      obtain ⟨j, hj, rfl⟩ := he
      obtain ⟨k, m, hm, h0, h1, rfl⟩ := bound_inv hj
      rw [hm] at hry
      have hlt : m < es.length := by omega
      generalize hav : a.eval x = v at hrx
      cases (show Rp I M w (.ls (P.cellsOf et) es) v from hrx) with
      | lsN => simp at hlt; omega
      | ls _ _ ib io cap u hne hcap hsz hI hc hr =>
        refine OpOk.pure hs (run _ _ _ k m hav (int_inv hry) h0 hlt) ?_
        rw [Addr.add_mk]
        have := Rp.ri (I := I) (M := M) (w := w) (P.cellsOf et) es m.toNat 0 ib io u hsz hI hc hr
        simpa [RpV, RpW] using this
  · rename_i sz b lo len hxv
    rw [hxv] at hrx
    split at he
    · simp at he
    · rename_i hcond
      simp only [Bool.or_eq_true, Bool.not_eq_true', decide_eq_true_eq, not_or, Bool.not_eq_false, ne_eq, Decidable.not_not] at hcond
      obtain ⟨rfl, hal⟩ := hcond
      simp only [Option.bind_eq_some_iff, one, Option.some.injEq] at he
      obtain ⟨j, hj, rfl⟩ := he
      obtain ⟨k, m, hm, h0, h1, rfl⟩ := bound_inv hj
      rw [hm] at hry
      obtain ⟨rb, oo, hM⟩ := alive_iff hs hal
      obtain ⟨ad, cap, t', n, hv, hlc, had, hsh, hn⟩ := sl_inv hrx hM
      refine OpOk.pure hs (run _ _ _ k m hv (int_inv hry) h0 (by omega)) ?_
      rw [had (by omega), Addr.add_mk]
      have := Rp.re (I := I) (M := M) (w := w) (P.cellsOf et) b (lo + m.toNat) 0 rb oo hM
      rw [Nat.add_zero, Nat.add_mul, ← Nat.add_assoc] at this
      exact this
  · simp at he

theorem all2_caps {l : List Operand} {cs : List Opd} (ht : SimT I M tm nt a.tmps w) (h2 : All2 (fun x y => ofOpd x = some y) l cs) (hsc : (cs.map (rd tm)).all sclr = true) : All2 (Rp I M w) (cs.map (rd tm)) (l.map a.eval) := by
  induction h2 with
  | nil => exact .nil
  | cons h1 _ ih =>
    simp only [List.map_cons, List.all_cons, Bool.and_eq_true] at hsc
    exact .cons ((opd_ok ht h1).scal hsc.1) (ih hsc.2)
theorem ok_mf {f : FuncId} {first caps : Array Operand} {cs : List Opd} {e : Ef} (ht : SimT I M tm nt a.tmps w) (hs : SimH I M h nx w) (hf : first.size = 0) (hfb : f < fnB) (hc : caps.toList.mapM ofOpd = some cs)
    (ho : o.op = .makeFunc (.func f) first caps) (he : opA tm h nx (.mf f cs) = some e) : OpOk P I M nx w (execOp a.eval o) e true := by
  simp only [opA, one, Option.ite_none_right_eq_some, Option.some.injEq] at he
  obtain ⟨hsc, rfl⟩ := he
  obtain rfl := Array.eq_empty_of_size_eq_zero hf
  refine OpOk.pure hs (v := .func (.func f) #[] (caps.map a.eval)) (by simp [execOp, ho, Instr.makeFunc]) ?_
  have : All2 (Rp I M w) (cs.map (rd tm)) (caps.map a.eval).toList := by
    rw [Array.toList_map]
    exact all2_caps ht (mapM_all2 hc) hsc
  refine .fn f _ _ this.length (fun i c v h1 h2 => ?_) _ _ _ (.inl ⟨hfb, rfl, rfl, rfl⟩)
  obtain ⟨u, hu, hr⟩ := this.get i c h1
  rw [h2] at hu
  injection hu with hu
  exact hu ▸ hr
theorem ok_mfB {f : FuncId} {first caps : Array Operand} {cs : List Opd} {e : Ef} (ht : SimT I M tm nt a.tmps w) (hs : SimH I M h nx w) (hf : caps.size = 0) (hc : first.toList.mapM ofOpd = some cs)
    (ho : o.op = .makeFunc (.func f) first caps) (he : opA tm h nx (.mf (f + fnB) cs) = some e) : OpOk P I M nx w (execOp a.eval o) e true := by
  simp only [opA, one, Option.ite_none_right_eq_some, Option.some.injEq] at he
  obtain ⟨hsc, rfl⟩ := he
  obtain rfl := Array.eq_empty_of_size_eq_zero hf
  refine OpOk.pure hs (v := .func (.func f) (first.map a.eval) #[]) (by simp [execOp, ho, Instr.makeFunc]) ?_
  have : All2 (Rp I M w) (cs.map (rd tm)) (first.map a.eval).toList := by
    rw [Array.toList_map]
    exact all2_caps ht (mapM_all2 hc) hsc
  refine .fn (f + fnB) _ _ this.length (fun i c v h1 h2 => ?_) _ _ _ (.inr ⟨Nat.le_add_left _ _, (Nat.add_sub_cancel f fnB).symm, rfl, rfl⟩)
  obtain ⟨u, hu, hr⟩ := this.get i c h1
  rw [h2] at hu
  injection hu with hu
  exact hu ▸ hr

theorem RpW.rpV {c : AV} {v : Value} (hr : RpW I M w c v) (hc : ∀ l, c ≠ .tp l) : RpV I M w c v := by
  cases c <;> first | exact hr | exact absurd rfl (hc _)

theorem ok_ex {x : Operand} {x' : Opd} {i : Nat} {e : Ef} (ht : SimT I M tm nt a.tmps w) (hs : SimH I M h nx w) (hx : ofOpd x = some x')
    (ho : o.op = .extract x i) (he : opA tm h nx (.ex x' i) = some e) : OpOk P I M nx w (execOp a.eval o) e true := by
  simp only [opA] at he
  have hrx := opd_ok ht hx
  split at he
  · rename_i vs hxv
    rw [hxv] at hrx
    obtain ⟨us, hu, h2⟩ := hrx
    split at he
    · rename_i c hc
      simp only [one, Option.some.injEq] at he
      subst he
      obtain ⟨u, hu', hr⟩ := h2.get i c hc
      refine OpOk.pure hs (v := u) ?_ (hr.rpV ?_)
      · have : us[i]? = some u := by simpa using hu'
        simp only [execOp, ho, hu, Instr.extract, this, Sem.run_bind, Sem.run_pure, Result.andThen_ok]
      · rintro l rfl
        cases hr
    · simp at he
  · simp at he
end
end Go.Am
set_option linter.unusedSimpArgs false
set_option linter.unusedVariables false
namespace Go.Am
section
variable {P : Program} {I : Nat → Prop} {M : MU} {w : World} {h : List (Nat × BK)} {nx nt : Nat} {tm : List (Nat × AV)} {a : Act} {o : Oper}

theorem part_ok {t : TypeId} {n : Option Nat} (hn : shapeT P t = some n) {cs : List AV} {vs : Array Value} {off : Nat} {c : AV} (h2 : All2 (Rp I M w) cs vs.toList)
    (hc : valOf ((cs.drop off).take (n.getD 1)) n = some c) (hsz : n = some (P.cellsOf t) ∨ n = none) : ∃ u, (part t vs off).run P w = .ok u w ∧ RpV I M w c u := by
  rcases shapeT_inv hn with ⟨hb, rfl⟩ | ⟨hb, rfl⟩
  · simp only [valOf, Option.getD_some, Option.some.injEq] at hc
    subst hc
    obtain ⟨ha, i, hi⟩ := run_isAgg_of hb w
    refine ⟨.agg (vs.extract off (off + P.cellsOf t)), ?_, ⟨_, rfl, ?_⟩⟩
    · simp only [part, Sem.run_bind, ha, Result.andThen_ok, if_true, run_sizeOf_of hi, Sem.run_pure]
    · have := (h2.drop off).take (P.cellsOf t)
      simpa [Array.toList_extract, List.extract_eq_take_drop] using this
  · simp only [valOf, Option.getD_none] at hc
    have h3 := (h2.drop off).take 1
    match hl : (cs.drop off).take 1, hc with
    | [c'], hc =>
      simp only [Option.some.injEq] at hc
      subst hc
      rw [hl] at h3
      obtain ⟨ha, i, hi⟩ := run_isAgg_of hb w
      generalize hq : (vs.toList.drop off).take 1 = q at h3
      cases h3 with
      | cons hr h4 =>
        cases h4
        rename_i u
        refine ⟨u, ?_, hr.scal⟩
        have : vs[off]? = some u := by
          have := congrArg (·[0]?) hq
          simpa [List.getElem?_take, List.getElem?_drop] using this
        simp only [part, Sem.run_bind, ha, Result.andThen_ok, Bool.false_eq_true, if_false, this, Sem.run_pure]

theorem ok_fd {t : TypeId} {k : Nat} {fs : Array Field} {f : Field} {n : Option Nat} {x : Operand} {x' : Opd} {e : Ef} (ht : SimT I M tm nt a.tmps w) (hs : SimH I M h nx w) (hx : ofOpd x = some x')
    (hd : P.underlying t = some (.struct fs)) (hf : fs[k]? = some f) (hn : shapeT P f.type = some n) (ho : o.op = .field t x k) (he : opA tm h nx (.fd f.offset n x') = some e) : OpOk P I M nx w (execOp a.eval o) e true := by
  simp only [opA] at he
  have hrx := opd_ok ht hx
  split at he
  · rename_i cs hxv
    rw [hxv] at hrx
    simp only [Option.bind_eq_some_iff, one, Option.some.injEq] at he
    obtain ⟨c, hc, rfl⟩ := he
    obtain ⟨vs, hv, h2⟩ := hrx
    obtain ⟨u, hu, hr⟩ := part_ok hn h2 hc (by rcases shapeT_inv hn with ⟨_, h⟩ | ⟨_, h⟩ <;> simp [h])
    refine OpOk.pure hs (v := u) ?_ hr
    simp only [execOp, ho, hv, Instr.field, asAgg, Sem.run_bind, run_underlying hd, Result.andThen_ok, hf, Sem.run_pure, hu]
  · simp at he

theorem ok_ix {t et : TypeId} {len : Nat} {n : Option Nat} {x y : Operand} {x' y' : Opd} {e : Ef} (ht : SimT I M tm nt a.tmps w) (hs : SimH I M h nx w) (hx : ofOpd x = some x') (hy : ofOpd y = some y')
    (hd : P.underlying t = some (.array len et)) (hn : shapeT P et = some n) (hone : n = none → P.cellsOf et = 1) (ho : o.op = .index t x y) (he : opA tm h nx (.ix len (P.cellsOf et) n x' y') = some e) : OpOk P I M nx w (execOp a.eval o) e true := by
  simp only [opA] at he
  have hrx := opd_ok ht hx
  have hry := opd_ok ht hy
  split at he
  · rename_i cs hxv
    rw [hxv] at hrx
    simp only [Option.bind_eq_some_iff, one, Option.some.injEq] at he
    obtain ⟨j, hj, c, hc, rfl⟩ := he
    obtain ⟨k, m, hm, h0, h1, rfl⟩ := bound_inv hj
    rw [hm] at hry
    obtain ⟨vs, hv, h2⟩ := hrx
    have hc' : valOf ((cs.drop (m.toNat * P.cellsOf et)).take (n.getD 1)) n = some c := by
      rcases shapeT_inv hn with ⟨_, h⟩ | ⟨_, h⟩
      · rw [h] at hc ⊢; exact hc
      · rw [hone h] at hc ⊢; rw [h] at hc ⊢; exact hc
    obtain ⟨u, hu, hr⟩ := part_ok hn h2 hc' (by rcases shapeT_inv hn with ⟨_, h⟩ | ⟨_, h⟩ <;> simp [h])
    have hi : ∃ i, P.info? et = some i := by
      rcases shapeT_inv hn with ⟨h, _⟩ | ⟨h, _⟩ <;> exact (run_isAgg_of h w).2
    obtain ⟨i, hi⟩ := hi
    refine OpOk.pure hs (v := u) ?_ hr
    simp only [execOp, ho, hv, int_inv hry, Instr.index, asIntOf, Sem.run_bind, run_underlying hd, Result.andThen_ok, Sem.run_pure, Sem.run_ite, run_sizeOf_of hi, hu]
    rw [if_pos ⟨h0, by omega⟩]
    rfl
  · simp at he

theorem ok_si {t : TypeId} {x y : Operand} {x' y' : Opd} {e : Ef} (ht : SimT I M tm nt a.tmps w) (hs : SimH I M h nx w) (hx : ofOpd x = some x') (hy : ofOpd y = some y')
    (hd : P.underlying t = some .string) (ho : o.op = .index t x y) (he : opA tm h nx (.si x' y') = some e) : OpOk P I M nx w (execOp a.eval o) e true := by
  simp only [opA] at he
  have hrx := opd_ok ht hx
  have hry := opd_ok ht hy
  split at he
  · rename_i s k n hxv hyv
    rw [hxv] at hrx
    rw [hyv] at hry
    split at he
    · rename_i h0
      split at he
      · rename_i c hc
        simp only [one, Option.some.injEq] at he
        subst he
        refine OpOk.pure hs (v := .int .u8 c.toNat) ?_ (.int _ _)
        have hc' : s[n.toNat]? = some c := by
          have hl : n.toNat < s.data.toList.length := (List.getElem?_eq_some_iff.1 hc).1
          have hl2 : n.toNat < s.size := by simpa using hl
          rw [getElem?_pos s n.toNat hl2]
          have := (List.getElem?_eq_some_iff.1 hc).2
          simp only [Option.some.injEq]
          rw [← this]
          rfl
        simp only [execOp, ho, st_inv hrx, int_inv hry, Instr.index, asIntOf, Sem.run_bind, run_underlying hd, Result.andThen_ok, Sem.run_pure, h0, if_true, hc']
      · simp at he
    · simp at he
  · simp at he

theorem lenA_ok (hs : SimH I M h nx w) {k : Nat} {c : AV} {v : Value} {n : Nat} (hr : RpV I M w c v) (hn : lenA h k c = some n) :
    (k = 0 ∧ ∃ s, v = .string s ∧ n = s.size) ∨ (k = 1 ∧ ∃ A cap, v = .slice A n cap) ∨ (k = 2 ∧ ((v = .map none ∧ n = 0) ∨ (∃ rb ents ck, v = .map (some rb) ∧ w.heap[rb]? = some (.map ents ck) ∧ ents.size = n))) := by
  unfold lenA at hn
  split at hn
  · injection hn with hn; exact .inl ⟨rfl, _, st_inv hr, hn.symm⟩
  · injection hn with hn; subst hn; cases (show Rp I M w .ns v from hr); exact .inr (.inl ⟨rfl, _, _, rfl⟩)
  · injection hn with hn; subst hn; cases (show Rp I M w .ez v from hr); exact .inr (.inl ⟨rfl, _, _, rfl⟩)
  · injection hn with hn; subst hn
    rename_i sz es
    cases (show Rp I M w (.ls sz es) v from hr) with
    | lsN => exact .inr (.inl ⟨rfl, _, _, rfl⟩)
    | ls => exact .inr (.inl ⟨rfl, _, _, rfl⟩)
  · simp only [Option.ite_none_right_eq_some, Option.some.injEq] at hn
    obtain ⟨hal, rfl⟩ := hn
    obtain ⟨rb, oo, hM⟩ := alive_iff hs hal
    obtain ⟨ad, cap, t, n, rfl, _⟩ := sl_inv hr hM
    exact .inr (.inl ⟨rfl, _, _, rfl⟩)
  · injection hn with hn; cases (show Rp I M w .nm v from hr); exact .inr (.inr ⟨rfl, .inl ⟨rfl, hn.symm⟩⟩)
  · rename_i b
    cases hk : blk h b with
    | dd => rw [hk] at hn; simp at hn
    | rw v sz es t => rw [hk] at hn; simp at hn
    | mp es =>
      rw [hk] at hn
      injection hn with hn
      have := hs.blks b
      rw [hk] at this
      obtain ⟨rb, ents, ck, h1, h2, _, h3⟩ := this
      cases (show Rp I M w (.mp b) v from hr) with
      | mpD _ _ hM => rw [h1] at hM; simp at hM
      | mp _ rb' hM =>
        rw [h1] at hM
        simp only [Option.some.injEq, Prod.mk.injEq, and_true] at hM
        subst hM
        exact .inr (.inr ⟨rfl, .inr ⟨_, ents, ck, rfl, h2, by rw [← hn, h3.length]; simp⟩⟩)
  · simp at hn

theorem ok_le {k : Nat} {t : TypeId} {d : TypeDesc} {c : Call} {x : Operand} {x' : Opd} {e : Ef} (ht : SimT I M tm nt a.tmps w) (hs : SimH I M h nx w) (hx : ofOpd x = some x')
    (hc1 : c.callee = .builtin .len) (hc2 : c.args = #[x]) (hc3 : c.argTypes[0]? = some t) (hd : P.underlying t = some d) (hk : (k = 0 ∧ d = .string) ∨ (k = 1 ∧ ∃ e, d = .slice e) ∨ (k = 2 ∧ ∃ e f, d = .map e f))
    (ho : o.op = .call c) (he : opA tm h nx (.le k x') = some e) : OpOk P I M nx w (execOp a.eval o) e true := by
  simp only [opA, Option.bind_eq_some_iff, one, Option.some.injEq] at he
  obtain ⟨n, hn, rfl⟩ := he
  refine OpOk.pure hs (v := .int .i64 n) ?_ (.int _ _)
  simp only [execOp, ho, resolve, hc1, hc2, Sem.run_bind, Sem.run_pure, Result.andThen_ok, invoke, builtin]
  rcases lenA_ok hs (opd_ok ht hx) hn with ⟨rfl, s, hv, rfl⟩ | ⟨rfl, A, cap, hv⟩ | ⟨rfl, ⟨hv, rfl⟩ | ⟨rb, ents, ck, hv, hh, rfl⟩⟩ <;> rcases hk with ⟨hk1, hk2⟩ | ⟨hk1, e, hk2⟩ | ⟨hk1, e, f, hk2⟩ <;> first | (cases hk1; done) | skip
  all_goals subst hk2
  · simp [Builtin.len_, hc3, hv, run_underlying hd, goInt]
  · simp [Builtin.len_, hc3, hv, run_underlying hd, goInt]
  · simp [Builtin.len_, hc3, hv, run_underlying hd, goInt]
  · simp [Builtin.len_, hc3, hv, run_underlying hd, goInt, getObj, Sem.run, hh]
end
end Go.Am
set_option linter.unusedSimpArgs false
set_option linter.unusedVariables false
namespace Go.Am
section
variable {P : Program} {I : Nat → Prop} {M : MU} {w : World} {h : List (Nat × BK)} {nx nt : Nat} {tm : List (Nat × AV)} {a : Act} {o : Oper}

theorem flat_len {α : Type} {sz : Nat} : ∀ {es : List (List α)}, (∀ e ∈ es, e.length = sz) → es.flatten.length = es.length * sz
  | [], _ => by simp
  | e :: es, h => by
    have := flat_len (es := es) fun e he => h e (by simp [he])
    simp only [List.flatten_cons, List.length_append, this, h e (by simp), List.length_cons, Nat.add_mul]
    omega
theorem flat_get {α : Type} {sz : Nat} : ∀ {es : List (List α)}, (∀ e ∈ es, e.length = sz) → ∀ (i : Nat) (e : List α) (j : Nat) (c : α), es[i]? = some e → e[j]? = some c → es.flatten[i * sz + j]? = some c
  | [], _, i, e, j, c, h1, _ => by simp at h1
  | e0 :: es, h, i, e, j, c, h1, h2 => by
    have h0 := h e0 (by simp)
    cases i with
    | zero =>
      simp only [List.getElem?_cons_zero, Option.some.injEq] at h1
      subst h1
      have hj := (List.getElem?_eq_some_iff.1 h2).1
      rw [List.flatten_cons, List.getElem?_append_left (by omega)]
      simpa using h2
    | succ i =>
      have := flat_get (es := es) (fun e he => h e (by simp [he])) i e j c (by simpa using h1) h2
      rw [List.flatten_cons, List.getElem?_append_right (by rw [h0, Nat.add_mul]; omega), h0, ← this]
      congr 1
      rw [Nat.add_mul]; omega
theorem flat_inv {α : Type} {sz : Nat} : ∀ {es : List (List α)}, (∀ e ∈ es, e.length = sz) → ∀ (k : Nat) (c : α), es.flatten[k]? = some c → ∃ i e j, es[i]? = some e ∧ e[j]? = some c ∧ k = i * sz + j
  | [], _, k, c, h1 => by simp at h1
  | e0 :: es, h, k, c, h1 => by
    have h0 := h e0 (by simp)
    rw [List.flatten_cons] at h1
    by_cases hk : k < e0.length
    · rw [List.getElem?_append_left hk] at h1
      exact ⟨0, e0, k, rfl, h1, by simp⟩
    · rw [List.getElem?_append_right (by omega)] at h1
      obtain ⟨i, e, j, g1, g2, g3⟩ := flat_inv (es := es) (fun e he => h e (by simp [he])) _ c h1
      exact ⟨i + 1, e, j, by simpa using g1, g2, by rw [Nat.add_mul]; omega⟩

theorem flat_cells {rb k sz : Nat} {es : List (List AV)} (hsz : ∀ e ∈ es, e.length = sz)
    (hc : ∀ (i : Nat) (e : List AV) (j : Nat) (c : AV), es[i]? = some e → e[j]? = some c → ∃ u, w.cell? ⟨rb, k + i * sz + j, none⟩ = some u ∧ Rp I M0 w c u) :
    ∃ us : List Value, All2 (Rp I M0 w) es.flatten us ∧ us.length = es.length * sz ∧ (loadCells ⟨rb, k, none⟩ (es.length * sz)).run P w = .ok us.toArray w := by
  obtain ⟨us, h1, h2⟩ := cells_list (I := I) (M := M0) (w := w) (rb := rb) (k := k) es.flatten (fun q c hq => by
    obtain ⟨i, e, j, g1, g2, rfl⟩ := flat_inv hsz q c hq
    obtain ⟨u, hu, hr⟩ := hc i e j c g1 g2
    exact ⟨u, by rw [← Nat.add_assoc]; exact hu, hr⟩)
  have hl : us.length = es.length * sz := by rw [← h1.length, flat_len hsz]
  refine ⟨us, h1, hl, ?_⟩
  rw [← hl]
  exact run_loadCells_list w _ us fun j u hj => by rw [Addr.add_mk]; exact h2 j u hj

theorem str_cells (s : ByteArray) : ((s.extract 0 s.size).data.map fun b => Value.int .u8 b.toNat) = (s.data.toList.map fun b => Value.int .u8 b.toNat).toArray := by
  have : s.extract 0 s.size = s := by
    apply ByteArray.ext
    simp [ByteArray.data_extract]
  rw [this]
  apply Array.ext'
  simp

theorem elems_ok (hs : SimH I M h nx w) {sz : Nat} {c : AV} {v : Value} {es : List (List AV)} (he : elems h sz c = some es) (hr : RpV I M w c v) :
    (∀ e ∈ es, e.length = sz) ∧ (∃ us : List Value, All2 (Rp I M0 w) es.flatten us ∧ us.length = es.length * sz ∧ (Builtin.firstCells sz es.length v).run P w = .ok us.toArray w) ∧
      (Builtin.lenOf v).run P w = .ok es.length w := by
  cases c <;> simp only [elems] at he <;> first | (cases he; done) | skip
  case st s =>
    simp only [Option.ite_none_right_eq_some, Option.some.injEq] at he
    obtain ⟨rfl, rfl⟩ := he
    rw [st_inv hr]
    have hl : (s.data.toList.map fun c => [AV.int .u8 c.toNat]).length = s.size := by simp
    refine ⟨by simp, ⟨s.data.toList.map fun b => Value.int .u8 b.toNat, ?_, by simp, ?_⟩, ?_⟩
    · generalize s.data.toList = l
      induction l with
      | nil => exact .nil
      | cons b l ih => exact .cons (.int _ _) ih
    · rw [hl]; simp only [Builtin.firstCells, str_cells, Sem.run_pure]
    · rw [hl]; rfl
  case ns =>
    simp only [Option.some.injEq] at he
    subst he
    cases (show Rp I M w .ns v from hr)
    exact ⟨by simp, ⟨[], .nil, by simp, rfl⟩, rfl⟩
  case ez =>
    simp only [Option.some.injEq] at he
    subst he
    cases (show Rp I M w .ez v from hr) with
    | ez A => cases A <;> refine ⟨by simp, ⟨[], .nil, by simp, ?_⟩, rfl⟩ <;> simp [Builtin.firstCells, loadCells, loadCellsFrom]
  case ls sz' es' =>
    simp only [Option.ite_none_right_eq_some, Option.some.injEq] at he
    obtain ⟨rfl, rfl⟩ := he
    cases (show Rp I M w (.ls sz es') v from hr) with
    | lsN _ A cap => refine ⟨by simp, ⟨[], .nil, by simp, ?_⟩, rfl⟩ <;> simp [Builtin.firstCells, loadCells, loadCellsFrom]
    | ls _ _ ib io cap u hne hcap hsz hI hc hr' =>
      obtain ⟨us, h1, h2, h3⟩ := flat_cells (P := P) (I := I) (w := w) (rb := ib) (k := io) hsz (fun i e j c h1 h2 => ⟨u i j, hc i e j c h1 h2, hr' i e j c h1 h2⟩)
      exact ⟨hsz, ⟨us, h1, h2, h3⟩, rfl⟩
  case sl sz' b lo len =>
    cases hk : blk h b with
    | dd => rw [hk] at he; simp at he
    | mp es => rw [hk] at he; simp at he
    | rw v0 sz'' es' t =>
      rw [hk] at he
      cases v0 with
      | true => simp at he
      | false =>
        simp only [Option.ite_none_right_eq_some, Option.some.injEq] at he
        obtain ⟨⟨rfl, rfl, hle⟩, rfl⟩ := he
        obtain ⟨rb, oo, arr, t', lo', hi', g1, g2, g3, g4, g5, g6⟩ := (blk_rw hs hk).row
        obtain ⟨ad, cap, t2, n, hv, hlc, had, hsh, hn⟩ := sl_inv hr g1
        have hl := length_drop_take es' lo len hle
        have hszs : ∀ e ∈ (es'.drop lo).take len, e.length = sz := fun e he => g5 e (List.mem_of_mem_drop (List.mem_of_mem_take he))
        subst hv
        rcases Nat.eq_zero_or_pos len with h0 | h0
        · subst h0
          refine ⟨by simp, ⟨[], by simp; exact .nil, by simp, ?_⟩, by simp [Builtin.lenOf]⟩
          simp [Builtin.firstCells, loadCells, loadCellsFrom]
        · have had := had (by omega)
          subst had
          obtain ⟨us, h1, h2, h3⟩ := flat_cells (P := P) (I := I) (w := w) (rb := rb) (k := oo + lo * sz) hszs (fun i e j c hi hj => by
            obtain ⟨q1, _⟩ := get_drop_take hi
            obtain ⟨u, hu, hru⟩ := g6 _ _ _ _ q1 hj
            exact ⟨u, by rw [cell_of_arr g2, show oo + lo * sz + i * sz + j = oo + (lo + i) * sz + j by rw [Nat.add_mul]; omega, hu], hru⟩)
          exact ⟨hszs, ⟨us, h1, h2, h3⟩, by simp [Builtin.lenOf, hl]⟩
end
end Go.Am
set_option linter.unusedSimpArgs false
set_option linter.unusedVariables false
namespace Go.Am
section
variable {P : Program} {I : Nat → Prop} {M : MU} {w : World} {h : List (Nat × BK)} {nx nt : Nat} {tm : List (Nat × AV)} {a : Act} {o : Oper}

theorem all2_get {R : AV → Value → Prop} {cs : List AV} {us : List Value} (h2 : All2 R cs us) (k : Nat) (c : AV) (hk : cs[k]? = some c) : ∃ u, us[k]? = some u ∧ R c u := h2.get k c hk

theorem row_ok (hs : SimH I M h nx w) {sz : Nat} {es : List (List AV)} (t t' : TypeId) {arr : Array Value} {us rest : List Value} (ha : arr.toList = us ++ rest) (hsz : ∀ e ∈ es, e.length = sz)
    (h2 : All2 (Rp I M0 w) es.flatten us) (cap : Nat) (hlc : es.length ≤ cap) (hcap : cap * sz ≤ arr.size) :
    ∃ M', Ev I M w I M' (w.alloc (.cells arr t')) ∧ SimH I M' (ins h nx (.rw false sz es t)) (nx + 1) (w.alloc (.cells arr t')) ∧
      RpV I M' (w.alloc (.cells arr t')) (.sl sz nx 0 es.length) (.slice (some ⟨w.heap.size, 0, none⟩) es.length cap) ∧ Quiet I M nx w I M' (w.alloc (.cells arr t')) := by
  have := alloc_ok hs false sz es t t' arr (fun h => by simp at h) hsz (fun i e j c hi hj => by
    obtain ⟨u, hu, hr⟩ := h2.get _ c (flat_get hsz i e j c hi hj)
    refine ⟨u, ?_, hr⟩
    have hl := (List.getElem?_eq_some_iff.1 hu).1
    rw [← Array.getElem?_toList, ha, List.getElem?_append_left hl]
    exact hu)
  refine ⟨_, this.1, this.2.1, ?_, this.2.2⟩
  have := Rp.sl (I := I) (M := fun b => if b = nx then some (some (w.heap.size, 0)) else M b) (w := w.alloc (.cells arr t')) sz nx 0 es.length w.heap.size 0 cap ⟨w.heap.size, 0, none⟩ t' arr.size (by simp) hlc
    (fun _ => by simp) (shape_of_arr (fr := (0, 0)) (by show (w.heap.push _)[_]? = _; simp)) (by simpa using hcap)
  simpa [RpV, RpW] using this

theorem zero_rep {z : List AV} {zv : Value} (h2 : ∀ (I : Nat → Prop) (M : MU) (w : World), All2 (Rp I M w) z zv.cells.toList) (n : Nat) :
    (List.replicate n z).flatten.length = n * z.length ∧ All2 (Rp I M0 w) (List.replicate n z).flatten (List.replicate n zv.cells.toList).flatten := by
  refine ⟨by simp, ?_⟩
  induction n with
  | zero => exact .nil
  | succ n ih => simp only [List.replicate_succ, List.flatten_cons]; exact (h2 I M0 w).append ih

theorem range_mod (z : Array Value) (n : Nat) (hz : z.size ≠ 0) : ((Array.range (n * z.size)).map fun i => z[i % z.size]!) = (List.replicate n z.toList).flatten.toArray := by
  apply Array.ext'
  apply List.ext_getElem?
  intro k
  have hsz : ∀ e ∈ List.replicate n z.toList, e.length = z.size := by
    intro e he
    rw [(List.mem_replicate.1 he).2]; simp
  by_cases hk : k < n * z.size
  · have hdiv : k / z.size < n := by rw [Nat.div_lt_iff_lt_mul (by omega)]; exact hk
    have hmod : k % z.size < z.size := Nat.mod_lt _ (by omega)
    have := flat_get hsz (k / z.size) z.toList (k % z.size) z[k % z.size] (by rw [List.getElem?_replicate, if_pos hdiv]) (by simp [hmod])
    rw [Nat.mul_comm, Nat.div_add_mod] at this
    simp only [Array.toList_map, List.getElem?_map]
    rw [this]
    simp [hk, getElem!_pos, hmod]
  · rw [List.getElem?_eq_none (by simp; omega), List.getElem?_eq_none (by rw [flat_len hsz]; simp; omega)]

theorem ok_mk {t et : TypeId} {z : List AV} {x y : Operand} {x' y' : Opd} {e : Ef} (ht : SimT I M tm nt a.tmps w) (hs : SimH I M h nx w) (hx : ofOpd x = some x') (hy : ofOpd y = some y')
    (hd : P.underlying t = some (.slice et)) (hz : zeroOf P et = some z) (ho : o.op = .makeSlice t x y) (he : opA tm h nx (.mk (P.cellsOf et) (P.bytesOf et) z et x' y') = some e) : OpOk P I M nx w (execOp a.eval o) e true := by
  simp only [opA] at he
  have hrx := opd_ok ht hx
  have hry := opd_ok ht hy
  split at he
  · rename_i k1 l k2 c hxv hyv
    rw [hxv] at hrx
    rw [hyv] at hry
    simp only [Option.ite_none_right_eq_some, Option.some.injEq] at he
    obtain ⟨⟨h0, h1, h3, h2⟩, rfl⟩ := he
    obtain ⟨zv, i, hi, hzr, hz2, hzl⟩ := zeroOf_ok hz
    unfold maxRoom at h3 h2
    have wl : IntKind.i64.wrap l = l := by simp [IntKind.wrap, IntKind.bits, IntKind.signed, Int.bmod]; omega
    have wc : IntKind.i64.wrap c = c := by simp [IntKind.wrap, IntKind.bits, IntKind.signed, Int.bmod]; omega
    have hb : P.bytesOf et = i.bytes := by simp [Program.bytesOf, hi]
    have hzs : zv.cells.size = P.cellsOf et := by rw [← hzl, (hz2 I M w).length]; simp
    let arr : Array Value := (List.replicate c.toNat zv.cells.toList).flatten.toArray
    have harr : (execOp a.eval o).run P w = .ok (.value (.slice (some ⟨w.heap.size, 0, none⟩) l.toNat c.toNat)) (w.alloc (.cells arr et)) := by
      have e1 : decide (l < 0) = false := by simpa using h0
      have e2 : decide (l > c) = false := by simpa using h1
      have e3 : decide (c < 0) = false := by simp; omega
      have e4 : decide ((i.bytes : Int) * c > 2 ^ 48) = false := by rw [← hb]; simp; omega
      have hfin : ∀ n, n = c.toNat * P.cellsOf et → (Array.range n).map (fun k => (if n = 0 then (#[] : Array Value) else zv.cells)[k % (if n = 0 then (#[] : Array Value) else zv.cells).size]!) = arr := by
        intro n hn
        by_cases h0 : n = 0
        · rw [if_pos h0, h0]
          apply Array.ext'
          have : arr.toList.length = 0 := by
            show (List.replicate c.toNat zv.cells.toList).flatten.length = 0
            rw [flat_len (sz := P.cellsOf et) (by intro e he; rw [(List.mem_replicate.1 he).2]; simpa using hzs)]
            simp; rw [← hn]; exact h0
          rw [List.eq_nil_of_length_eq_zero this]
          simp
        · rw [if_neg h0]
          rw [hn, ← hzs]
          refine range_mod zv.cells c.toNat ?_
          intro hh
          rw [hn, ← hzs, hh] at h0
          simp at h0
      have hf := hfin _ rfl
      simp only [execOp, ho, int_inv hrx, int_inv hry, Instr.makeSlice, asInt, asIntOf, Sem.run_bind, Sem.run_pure, run_underlying hd, Result.andThen_ok, typeInfo, run_program, hi, Sem.run_ite, wl, wc, e1, e2, e3, e4,
        Bool.or_false, Bool.false_eq_true, if_false, run_askRoom, run_sizeOf_of hi, newRow, run_newObj]
      by_cases hn0 : c.toNat * P.cellsOf et = 0
      · rw [if_pos hn0] at hf ⊢
        simp only [Result.andThen_ok, Sem.run_pure]
        rw [hf]
        rfl
      · rw [if_neg hn0] at hf ⊢
        simp only [hzr, Result.andThen_ok, Sem.run_pure]
        rw [hf]
        rfl
    have hsp : arr.toList = (List.replicate l.toNat zv.cells.toList).flatten ++ (List.replicate (c.toNat - l.toNat) zv.cells.toList).flatten := by
      show (List.replicate c.toNat zv.cells.toList).flatten = _
      rw [← List.flatten_append, List.replicate_append_replicate]
      congr 2; omega
    have hal : arr.size = c.toNat * P.cellsOf et := by
      show (List.replicate c.toNat zv.cells.toList).flatten.toArray.size = _
      rw [List.size_toArray, flat_len (sz := P.cellsOf et) (by intro e he; rw [(List.mem_replicate.1 he).2]; simpa using hzs)]
      simp
    obtain ⟨M', k1, k2, k3, k4⟩ := row_ok (sz := P.cellsOf et) (es := List.replicate l.toNat z) hs et et hsp (by intro e he; rw [(List.mem_replicate.1 he).2]; exact hzl) (zero_rep hz2 l.toNat).2 c.toNat (by simp; omega) (by rw [hal]; exact Nat.le_refl _)
    rw [List.length_replicate] at k3
    exact ⟨_, _, _, I, M', harr, .val _, k1, k2, k3, fun _ => k4⟩
  · simp at he
end
end Go.Am
set_option linter.unusedSimpArgs false
set_option linter.unusedVariables false
namespace Go.Am
section
variable {P : Program} {I : Nat → Prop} {M : MU} {w : World} {h : List (Nat × BK)} {nx nt : Nat} {tm : List (Nat × AV)} {a : Act} {o : Oper}

theorem append_room {t0 t1 ty et : TypeId} {d1 : TypeDesc} {i : TypeInfo} {base : Option Addr} {len cap n : Nat} {y : Value} {us : List Value} {w' : World} (hd : P.underlying t0 = some (.slice et)) (hd1 : P.underlying t1 = some d1)
    (hni : ∀ k, d1 ≠ .int k) (hi : P.info? et = some i) (hn : (Builtin.lenOf y).run P w = .ok n w) (hf : (Builtin.firstCells (P.cellsOf et) n y).run P w = .ok us.toArray w) (hroom : len + n ≤ cap)
    (hst : ∀ ad, base = some ad → (storeCells (ad.add (len * P.cellsOf et)) us).run P w = .ok () w') (hb : base = none → w' = w) :
    (Builtin.append_ #[t0, t1] ty #[.slice base len cap, y]).run P w = .ok (.slice base (len + n) cap) w' := by
  have hz : (match d1 with | .int _ => true | _ => false) = false := by cases d1 <;> first | rfl | exact absurd rfl (hni _)
  have hsz : i.size = P.cellsOf et := by simp [Program.cellsOf, hi]
  cases base with
  | none =>
    obtain rfl := hb rfl
    simp [Builtin.append_, run_underlying hd, run_underlying hd1, sizeOf, typeInfo, hi, hn, hz, hroom, hsz, hf]
  | some ad =>
    have := hst ad rfl
    simp [Builtin.append_, run_underlying hd, run_underlying hd1, sizeOf, typeInfo, hi, hn, hz, hroom, hsz, hf, this]

theorem append_grow {t0 t1 ty et : TypeId} {d1 : TypeDesc} {i : TypeInfo} {zv : Value} {base : Option Addr} {len cap n : Nat} {y : Value} {us os : List Value} (hd : P.underlying t0 = some (.slice et)) (hd1 : P.underlying t1 = some d1)
    (hni : ∀ k, d1 ≠ .int k) (hi : P.info? et = some i) (hzr : ∀ (w : World), (zeroValue et).run P w = .ok zv w) (hn : (Builtin.lenOf y).run P w = .ok n w)
    (ho1 : (Builtin.firstCells (P.cellsOf et) len (.slice base len cap)).run P w.drew = .ok os.toArray w.drew)
    (hf1 : (Builtin.firstCells (P.cellsOf et) n y).run P w.drew = .ok us.toArray w.drew) (hroom : ¬ len + n ≤ cap)
    (hmx : (len + n) * P.bytesOf et ≤ 2 ^ 46) (hmx2 : len + n ≤ 2 ^ 46) :
    ∃ ncap rest, len + n ≤ ncap ∧ (Builtin.append_ #[t0, t1] ty #[.slice base len cap, y]).run P w =
      .ok (.slice (some ⟨w.heap.size, 0, none⟩) (len + n) ncap) (w.drew.alloc (.cells (os ++ us ++ rest).toArray et)) ∧ rest.length = (ncap - (len + n)) * zv.cells.size := by
  have hz : (match d1 with | .int _ => true | _ => false) = false := by cases d1 <;> first | rfl | exact absurd rfl (hni _)
  have hsz : i.size = P.cellsOf et := by simp [Program.cellsOf, hi]
  have hby : i.bytes = P.bytesOf et := by simp [Program.bytesOf, hi]
  have hcap : Builtin.nextslicecap (len + n) cap ≤ 4 * (len + n) := by
    unfold Builtin.nextslicecap
    split
    · omega
    · split
      · omega
      · have : ∀ r c, c ≤ 4 * (len + n) → c < len + n → Builtin.growBy (len + n) r c ≤ 4 * (len + n) := by
          intro r
          induction r with
          | zero => intro c h _; exact h
          | succ r ih =>
            intro c h1 h2
            unfold Builtin.growBy
            split
            · exact h1
            · by_cases hc : c + (c + 768) / 4 < len + n
              · exact ih _ (by omega) hc
              · have : Builtin.growBy (len + n) r (c + (c + 768) / 4) = c + (c + 768) / 4 := by
                  cases r with
                  | zero => rfl
                  | succ r => unfold Builtin.growBy; rw [if_pos (by omega)]
                rw [this]; omega
        exact this 4 cap (by omega) (by omega)
  have hlim : ¬ (Builtin.nextslicecap (len + n) cap * i.bytes > 2 ^ 48) := by
    have := Nat.mul_le_mul_right i.bytes hcap
    rw [Nat.mul_assoc, hby] at this
    rw [hby]
    omega
  have h63 : ¬ (((len + n : Nat) : Int) > IntKind.i64.max ∧ (False ∨ i.bytes = 0)) := by
    rw [IntKind.max_i64]; omega
  refine ⟨(Question.appendCap (len + n) cap et).cut (w.tape w.drawn (.appendCap (len + n) cap et)), (Builtin.zeroCells zv.cells ((Question.appendCap (len + n) cap et).cut (w.tape w.drawn (.appendCap (len + n) cap et)) - (len + n))).toList, ?_, ?_, ?_⟩
  · simp only [Question.cut]; omega
  · have h63' : ¬ ((9223372036854775807 : Int) < (len : Int) + n ∧ (i.bytes = 0)) := by omega
    simp [Builtin.append_, run_underlying hd, run_underlying hd1, sizeOf, typeInfo, hi, hn, hz, hroom, hsz, hlim, Question.forced, hzr, newRow]
    rw [if_neg h63']
    simp only [ho1, hf1, Result.andThen_ok, World.size_drew]
    congr 3
    apply Array.ext'
    simp
  · simp [Builtin.zeroCells]

theorem grow_ok (hs : SimH I M h nx w) {r sz lo len cap n0 rb oo : Nat} {es b : List (List AV)} {t0 t : TypeId} {us : List Value} (hk : blk h r = .rw false sz es t0) (hM : M r = some (some (rb, oo))) (hle : lo + len = es.length)
    (hsh : ∃ tt, w.shape? rb = some (tt, n0)) (hn0 : oo + (lo + cap) * sz ≤ n0) (hroom : len + b.length ≤ cap) (hbs : ∀ e ∈ b, e.length = sz) (h2 : All2 (Rp I M0 w) b.flatten us) (hul : us.length = b.length * sz)
    (h1 : ∀ u ∈ us, u.oneCell' = true) (had : Addr) (hadd : 0 < cap → had = ⟨rb, oo + lo * sz, none⟩) :
    ∃ w' M', (us = [] → w' = w) ∧ (0 < cap → (storeCells ⟨rb, oo + lo * sz + len * sz, none⟩ us).run P w = .ok () w') ∧ Ev I M w I M' w' ∧
      SimH I M' (ins (put h r .dd) nx (.rw false sz ((es.drop lo).take len ++ b) t)) (nx + 1) w' ∧ RpV I M' w' (.sl sz nx 0 (len + b.length)) (.slice (some had) (len + b.length) cap) := by
  obtain ⟨rb', o', arr, t', lo', hi', g1, g2, g3, g4, g5, g6⟩ := (blk_rw hs hk).row
  rw [hM] at g1
  simp only [Option.some.injEq, Prod.mk.injEq] at g1
  obtain ⟨rfl, rfl⟩ := g1
  obtain ⟨tt, hsh⟩ := hsh
  rw [shape_of_arr g2] at hsh
  simp only [Option.some.injEq, Prod.mk.injEq] at hsh
  obtain ⟨rfl, rfl⟩ := hsh
  have hmul : oo + lo * sz + len * sz + us.length ≤ arr.size := by
    have := Nat.mul_le_mul_right sz hroom
    rw [Nat.add_mul] at this
    rw [Nat.add_mul] at hn0
    omega
  have hrun := run_storeCells_at (P := P) rb (oo + lo * sz + len * sz) t' lo' hi' us 0 arr w g2 g3 (by omega) h1
  rw [Nat.add_zero] at hrun
  have hrnx : r ≠ nx := by
    rintro rfl
    rw [hs.fr r (Nat.le_refl _)] at hM
    simp at hM
  let w' := w.setRow rb (wr arr (oo + lo * sz + len * sz) us)
  let M' : MU := fun x => if x = nx then some (some (rb, oo + lo * sz)) else if x = r then some none else M x
  have hev : Ev I M w I M' w' := by
    refine ⟨rfl, rfl, rfl, by simp [w'], fun _ h => h, fun _ h => .inl h, fun b' hb ho => setRow_other _ _ _ _ (fun e => ho (e ▸ ⟨r, oo, hM⟩)), fun b' hb => ?_, fun x y hx => ?_, fun rb' ho => ?_, .of (Nat.le_refl _)⟩
    · by_cases e : b' = rb
      · subst e
        rw [shape_of_arr (setRow_heap w b' arr _ t' _ g2), shape_of_arr g2, wr_size hmul]
      · simp [World.shape?, w', setRow_other _ _ _ _ e]
    · have hxn : x ≠ nx := by
        rintro rfl
        rw [hs.fr x (Nat.le_refl _)] at hx
        simp at hx
      by_cases e : x = r
      · exact .inr (by simp only [M', if_neg hxn, if_pos e])
      · exact .inl (by simp only [M', if_neg hxn, if_neg e, hx])
    · obtain ⟨x, o2, hx⟩ := ho
      by_cases e1 : x = nx
      · simp only [M', if_pos e1, Option.some.injEq, Prod.mk.injEq] at hx
        exact .inl ⟨r, oo, by rw [hM, hx.1]⟩
      · by_cases e2 : x = r
        · simp only [M', if_neg e1, if_pos e2] at hx; simp at hx
        · simp only [M', if_neg e1, if_neg e2] at hx
          exact .inl ⟨x, o2, hx⟩
  have hl := length_drop_take es lo len (by omega)
  have hes : ∀ e ∈ (es.drop lo).take len ++ b, e.length = sz := fun e he => by
    rcases List.mem_append.1 he with h | h
    · exact g5 e (List.mem_of_mem_drop (List.mem_of_mem_take h))
    · exact hbs e h
  have hMeq : ∀ x rx ox, M' x = some (some (rx, ox)) → (x = nx ∧ rx = rb) ∨ (x ≠ nx ∧ x ≠ r ∧ M x = some (some (rx, ox))) := fun x rx ox hx => by
    by_cases e1 : x = nx
    · simp only [M', if_pos e1, Option.some.injEq, Prod.mk.injEq] at hx
      exact .inl ⟨e1, hx.1.symm⟩
    · by_cases e2 : x = r
      · simp only [M', if_neg e1, if_pos e2] at hx; simp at hx
      · simp only [M', if_neg e1, if_neg e2] at hx
        exact .inr ⟨e1, e2, hx⟩
  refine ⟨w', M', fun hu => ?_, fun _ => hrun, hev, ⟨fun b' => ?_, fun x y rx ox oy hx hy => ?_, fun rx ho => ?_, fun rx ho => ?_, fun x hx => by simpa [w'] using hs.ibd x hx, fun x hx => ?_⟩, ?_⟩
  · subst hu
    have : Result.ok () w = Result.ok () w' := hrun
    injection this with _ h
    exact h.symm
  · rw [blk_ins]
    by_cases e1 : nx = b'
    · subst e1
      rw [if_pos rfl]
      refine ⟨rb, oo + lo * sz, wr arr (oo + lo * sz + len * sz) us, t', lo', hi', by simp [M'], setRow_heap w rb arr _ t' _ g2, by rw [wr_size hmul]; exact g3, fun h => by simp at h, hes, fun i e j c hi hj => ?_⟩
      rw [wr_get hmul]
      have hjl : j < sz := by
        have := (List.getElem?_eq_some_iff.1 hj).1
        rw [hes e (List.mem_of_getElem? hi)] at this
        exact this
      by_cases hil : i < len
      · rw [List.getElem?_append_left (by omega)] at hi
        obtain ⟨q1, _⟩ := get_drop_take hi
        have : i * sz + j < len * sz := by
          have := Nat.mul_le_mul_right sz (show i + 1 ≤ len from hil)
          rw [Nat.add_mul] at this; omega
        rw [if_neg (by omega)]
        obtain ⟨u, hu, hr⟩ := g6 _ _ _ _ q1 hj
        exact ⟨u, by rw [show oo + lo * sz + i * sz + j = oo + (lo + i) * sz + j by rw [Nat.add_mul]; omega]; exact hu, hs.rp0 hev _ _ hr⟩
      · rw [List.getElem?_append_right (by omega), hl] at hi
        have hk2 := flat_get hbs _ _ _ _ hi hj
        obtain ⟨u, hu, hr⟩ := h2.get _ _ hk2
        have hlt := (List.getElem?_eq_some_iff.1 hu).1
        have hi2 : i * sz = (i - len) * sz + len * sz := by rw [← Nat.add_mul]; congr 1; omega
        rw [if_pos (by omega)]
        exact ⟨u, by rw [show oo + lo * sz + i * sz + j - (oo + lo * sz + len * sz) = (i - len) * sz + j by omega]; exact hu, hs.rp0 hev _ _ hr⟩
    · rw [if_neg e1, blk_put]
      by_cases e2 : r = b'
      · subst e2
        rw [if_pos rfl]
        trivial
      · rw [if_neg e2]
        refine (hs.blks b').go hs hev (by simp only [M', if_neg (Ne.symm e1), if_neg (Ne.symm e2)]) fun rx ox hx => setRow_other _ _ _ _ fun e => e2 (hs.inj r b' rb oo ox hM (e ▸ hx))
  · rcases hMeq _ _ _ hx with ⟨hx1, hx2⟩ | ⟨hx1, hx2, hx3⟩ <;> rcases hMeq _ _ _ hy with ⟨hy1, hy2⟩ | ⟨hy1, hy2, hy3⟩
    · rw [hx1, hy1]
    · exact absurd (hs.inj y r _ _ _ hy3 (hx2 ▸ hM)) hy2
    · exact absurd (hs.inj x r _ _ _ hx3 (hy2 ▸ hM)) hx2
    · exact hs.inj x y rx ox oy hx3 hy3
  · rcases hev.own rx ho with h | h
    · exact hs.sep rx h
    · intro hI; have := hs.ibd rx hI; omega
  · obtain ⟨x, ox, hx⟩ := ho
    rcases hMeq _ _ _ hx with ⟨rfl, rfl⟩ | ⟨_, _, hx⟩
    · simpa [w'] using hs.bnd _ ⟨r, oo, hM⟩
    · simpa [w'] using hs.bnd _ ⟨x, ox, hx⟩
  · have h1 : x ≠ nx := by omega
    have h2 : x ≠ r := by
      rintro rfl
      rw [hs.fr x (by omega)] at hM
      simp at hM
    simp only [M', if_neg h1, if_neg h2]
    exact hs.fr x (by omega)
  · have := Rp.sl (I := I) (M := M') (w := w') sz nx 0 (len + b.length) rb (oo + lo * sz) cap had t' arr.size (by simp [M']) hroom (fun h => by rw [hadd h]; simp) (by
      rw [shape_of_arr (setRow_heap w rb arr _ t' _ g2), wr_size hmul]) (by rw [Nat.add_mul] at hn0; simpa [Nat.add_assoc] using hn0)
    exact this
end
end Go.Am
set_option linter.unusedSimpArgs false
set_option linter.unusedVariables false
namespace Go.Am
section
variable {P : Program} {I : Nat → Prop} {M : MU} {w : World} {h : List (Nat × BK)} {nx nt : Nat} {tm : List (Nat × AV)} {a : Act} {o : Oper}

theorem SimH.same {w' : World} (hs : SimH I M h nx w) (he : Ev I M w I M w') (hh : ∀ b : Nat, w'.heap[b]? = w.heap[b]?) (hsz : w'.heap.size = w.heap.size) : SimH I M h nx w' :=
  ⟨fun b => (hs.blks b).go hs he rfl fun rb _ _ => hh rb, hs.inj, hs.sep, fun rb ho => by rw [hsz]; exact hs.bnd rb ho, fun b hb => by rw [hsz]; exact hs.ibd b hb, hs.fr⟩
theorem Ev.drew : Ev I M w I M w.drew := Ev.drawn _
theorem SimH.drew (hs : SimH I M h nx w) : SimH I M h nx w.drew := hs.same Ev.drew (fun _ => rfl) rfl

theorem one_of_all2 {cs : List AV} {us : List Value} (h2 : All2 (Rp I M0 w) cs us) (hud : cs.any isUd = false) : ∀ u ∈ us, u.oneCell' = true := by
  induction h2 with
  | nil => intro u hu; cases hu
  | cons h1 _ ih =>
    intro u hu
    simp only [List.any_cons, Bool.or_eq_false_iff] at hud
    rcases List.mem_cons.1 hu with e | e
    · subst e
      refine h1.one ?_
      rintro rfl
      simp [isUd] at hud
    · exact ih hud.2 u e

theorem ok_ap {t0 t1 et : TypeId} {d1 : TypeDesc} {z : List AV} {c : Call} {x y : Operand} {x' y' : Opd} {e : Ef} (ht : SimT I M tm nt a.tmps w) (hs : SimH I M h nx w) (hx : ofOpd x = some x') (hy : ofOpd y = some y')
    (hc1 : c.callee = .builtin .append) (hc2 : c.args = #[x, y]) (hc3 : c.argTypes = #[t0, t1]) (hd : P.underlying t0 = some (.slice et)) (hd1 : P.underlying t1 = some d1) (hni : ∀ k, d1 ≠ .int k)
    (hz : zeroOf P et = some z) (ho : o.op = .call c) (he : opA tm h nx (.ap (P.cellsOf et) (P.bytesOf et) et x' y') = some e) : OpOk P I M nx w (execOp a.eval o) e false := by
  simp only [opA, Option.bind_eq_some_iff] at he
  obtain ⟨as, has, bs, hbs, he⟩ := he
  obtain ⟨zv, i, hi, hzr, hz2, hzl⟩ := zeroOf_ok hz
  have hrx := opd_ok ht hx
  have hry := opd_ok ht hy
  have hrun : (execOp a.eval o) = (do pure (.value (← Builtin.append_ #[t0, t1] o.type #[a.eval x, a.eval y]))) := by
    simp only [execOp, ho, resolve, hc1, hc2, hc3]
    simp [invoke, builtin]
  split at he
  case isFalse => simp at he
  rename_i hlim
  obtain ⟨hmx, hmx2, hud⟩ := hlim
  unfold maxRoom at hmx hmx2
  obtain ⟨hysz, ⟨us, hy2, hyl, hyf⟩, hyn⟩ := elems_ok (P := P) hs hbs hry
  obtain ⟨hysz', ⟨us', hy2', hyl', hyf'⟩, hyn'⟩ := elems_ok (P := P) hs.drew hbs (hs.rpV Ev.drew hry)
  obtain ⟨hxsz, ⟨os', hx2', hxl', hxf'⟩, hxn'⟩ := elems_ok (P := P) hs.drew has (hs.rpV Ev.drew hrx)
  have h1 := one_of_all2 hy2 hud
  -- a slice without room, whose old row (if any) is let go
  have fresh : ∀ (ad : Option Addr) (cap : Nat) (ks : List Nat), a.eval x = .slice ad as.length cap → ¬ as.length + bs.length ≤ cap →
      ∃ v w' M' I', (execOp a.eval o).run P w = .ok (.value v) w' ∧ Ev I M w I' M' w' ∧ SimH I' M' (ins (kill h ks) nx (.rw false (P.cellsOf et) (as ++ bs) et)) (nx + 1) w' ∧
        RpV I' M' w' (.sl (P.cellsOf et) nx 0 (as.length + bs.length)) v := by
    intro ad cap ks hv hroom
    rw [hv] at hxf'
    obtain ⟨ncap, rest, hnc, happ, hrl⟩ := append_grow (P := P) (w := w) (ty := o.type) (base := ad) (cap := cap) hd hd1 hni hi hzr hyn hxf' hyf' hroom hmx hmx2
    have hs2 := kill_ok hs.drew ks
    have hev2 := kill_ev (I := I) (M := M) (w := w.drew) ks
    have hes : ∀ e ∈ as ++ bs, e.length = P.cellsOf et := fun e he => by
      rcases List.mem_append.1 he with h | h
      · exact hxsz e h
      · exact hysz e h
    have hall : All2 (Rp (deadI ks I M) M0 w.drew) (as ++ bs).flatten (os' ++ us') := by
      rw [List.flatten_append]
      exact (hx2'.append hy2').mono (hs.drew.rp0 hev2)
    have hzs : zv.cells.size = P.cellsOf et := by rw [← hzl, (hz2 I M w).length]; simp
    obtain ⟨M', k1, k2, k3, _⟩ := row_ok hs2 et et (arr := (os' ++ us' ++ rest).toArray) (us := os' ++ us') (rest := rest) (by simp) hes hall ncap (by simpa using hnc) (by
      have : (as.length + bs.length) * P.cellsOf et ≤ ncap * P.cellsOf et := Nat.mul_le_mul_right _ hnc
      simp only [List.size_toArray, List.length_append, hxl', hyl', hrl, hzs]
      rw [Nat.sub_mul, ← Nat.add_mul]
      omega)
    refine ⟨.slice (some ⟨w.heap.size, 0, none⟩) (as.length + bs.length) ncap, _, M', _, ?_, (Ev.drew.trans hev2).trans k1, k2, ?_⟩
    · rw [hrun, hv, Sem.run_bind, happ]
      rfl
    · have hl : (as ++ bs).length = as.length + bs.length := by simp
      rw [← hl]
      exact k3
  have still : ∀ (ad : Option Addr), a.eval x = .slice ad 0 0 → as.length = 0 → bs.length = 0 → (execOp a.eval o).run P w = .ok (.value (.slice ad 0 0)) w := by
    intro ad hv ha0 hb0
    have hul0 : us = [] := List.eq_nil_of_length_eq_zero (by rw [hyl, hb0]; simp)
    subst hul0
    have := append_room (P := P) (w := w) (w' := w) (ty := o.type) (base := ad) (len := 0) (cap := 0) hd hd1 hni hi hyn hyf (by omega) (fun ad _ => rfl) (fun _ => rfl)
    rw [hrun, hv, Sem.run_bind, this, hb0]
    rfl
  cases hxv : rd tm x' <;> rw [hxv] at he hrx has <;> simp only [] at he <;> first | (cases he; done) | skip
  case ns =>
    have ha0 : as = [] := by simp [elems] at has; exact has
    subst ha0
    have hv : a.eval x = .slice none 0 0 := by
      generalize hq : a.eval x = v at hrx
      cases (show Rp I M w .ns v from hrx); rfl
    split at he
    · rename_i hb0
      simp only [one, Option.some.injEq] at he
      subst he
      exact OpOk.pure hs (still none hv rfl hb0) .ns
    · rename_i hb0
      simp only [Option.some.injEq] at he
      subst he
      obtain ⟨v, w', M', I', k1, k2, k3, k4⟩ := fresh none 0 [] hv (by simp only [List.length_nil]; omega)
      refine ⟨_, v, w', I', M', k1, .val _, k2, by simpa [kill] using k3, by simpa using k4, nofun⟩
  case ez =>
    have ha0 : as = [] := by simp [elems] at has; exact has
    subst ha0
    have hv : ∃ A, a.eval x = .slice A 0 0 := by
      generalize hq : a.eval x = v at hrx
      cases (show Rp I M w .ez v from hrx); exact ⟨_, rfl⟩
    obtain ⟨A, hv⟩ := hv
    split at he
    · rename_i hb0
      simp only [one, Option.some.injEq] at he
      subst he
      exact OpOk.pure hs (still A hv rfl hb0) (.ez A)
    · rename_i hb0
      simp only [Option.some.injEq] at he
      subst he
      obtain ⟨v, w', M', I', k1, k2, k3, k4⟩ := fresh A 0 [] hv (by simp only [List.length_nil]; omega)
      refine ⟨_, v, w', I', M', k1, .val _, k2, by simpa [kill] using k3, by simpa using k4, nofun⟩
  case sl sz0 r lo len =>
    cases hk : blk h r with
    | dd => rw [hk] at he; simp at he
    | mp es => rw [hk] at he; simp at he
    | rw v0 sz' es t =>
      rw [hk] at he
      cases v0 with
      | true => simp at he
      | false =>
        simp only [Option.ite_none_right_eq_some, Option.some.injEq] at he
        obtain ⟨⟨rfl, hle⟩, rfl⟩ := he
        simp only [elems, hk, Option.ite_none_right_eq_some, Option.some.injEq] at has
        obtain ⟨⟨rfl, _, hle2⟩, rfl⟩ := has
        obtain ⟨rb, oo, arr, t', lo', hi', g1, g2, g3, g4, g5, g6⟩ := (blk_rw hs hk).row
        obtain ⟨ad, cap, tt, n0, hv, hlc, had, hsh, hn0⟩ := sl_inv hrx g1
        have hl := length_drop_take es lo len hle2
        rw [hl] at fresh hmx hmx2
        by_cases hroom : len + bs.length ≤ cap
        · obtain ⟨w', M', q1, q2, q3, q4, q5⟩ := grow_ok (P := P) (b := bs) (t := et) hs hk g1 hle ⟨tt, hsh⟩ hn0 hroom hysz hy2 hyl h1 ad had
          have := append_room (P := P) (w := w) (w' := w') (ty := o.type) (base := some ad) (len := len) (cap := cap) hd hd1 hni hi hyn hyf hroom (fun ad' had' => by
            injection had' with had'
            subst had'
            rcases Nat.eq_zero_or_pos cap with h0 | h0
            · have hu0 : us = [] := List.eq_nil_of_length_eq_zero (by
                have hb0 : bs.length = 0 := by omega
                rw [hyl, hb0, Nat.zero_mul])
              subst hu0
              rw [q1 rfl]
              rfl
            · rw [had h0, Addr.add_mk]
              exact q2 h0) (fun h => by simp at h)
          refine ⟨_, _, w', I, M', ?_, .val _, q3, by rw [hl]; exact q4, by rw [hl]; exact q5, nofun⟩
          rw [hrun, hv, Sem.run_bind, this]
          rfl
        · obtain ⟨v, w', M', I', k1, k2, k3, k4⟩ := fresh (some ad) cap [r] hv hroom
          exact ⟨_, v, w', I', M', k1, .val _, k2, k3, by rw [hl]; exact k4, nofun⟩
end
end Go.Am
set_option linter.unusedSimpArgs false
set_option linter.unusedVariables false
namespace Go.Am
section
variable {P : Program} {I : Nat → Prop} {M : MU} {w : World} {h : List (Nat × BK)} {nx nt : Nat} {tm : List (Nat × AV)} {a : Act} {o : Oper}

theorem foldl_set (off : Nat) : ∀ (vs : List Value) (k : Nat) (cur : Array Value), off + k + vs.length ≤ cur.size →
    (vs.zipIdx k).foldl (fun cs (p : Value × Nat) => cs.setIfInBounds (off + p.2) p.1) cur = wr cur (off + k) vs
  | [], k, cur, _ => by
    apply Array.ext'
    simp [wr]
  | v :: vs, k, cur, hl => by
    simp only [List.length_cons] at hl
    simp only [List.zipIdx_cons, List.foldl_cons]
    rw [foldl_set off vs (k + 1) _ (by simp; omega)]
    apply Array.ext'
    apply List.ext_getElem?
    intro j
    have e1 := wr_get (cur := cur.setIfInBounds (off + k) v) (k := off + (k + 1)) (vs := vs) (by simp; omega) j
    have e2 := wr_get (cur := cur) (k := off + k) (vs := v :: vs) (by simp; omega) j
    rw [Array.getElem?_toList, Array.getElem?_toList, e1, e2]
    simp only [List.length_cons]
    by_cases h1 : off + (k + 1) ≤ j ∧ j < off + (k + 1) + vs.length
    · rw [if_pos h1, if_pos (by omega), show j - (off + k) = (j - (off + (k + 1))) + 1 by omega, List.getElem?_cons_succ]
    · rw [if_neg h1]
      by_cases h2 : j = off + k
      · subst h2
        rw [if_pos (by omega), Nat.sub_self, List.getElem?_cons_zero, Array.getElem?_setIfInBounds_self_of_lt (by omega)]
      · rw [if_neg (by omega), Array.getElem?_setIfInBounds_ne (by omega)]

theorem wr_all2 {R : AV → Value → Prop} {z cs : List AV} {zs vs : Array Value} {off : Nat} (h1 : All2 R z zs.toList) (h2 : All2 R cs vs.toList) :
    All2 R (splice z cs off) (wr zs off vs.toList).toList := by
  have hl := h2.length
  simp only [splice, wr]
  rw [← hl]
  exact ((h1.take off).append h2).append (h1.drop _)

theorem zipIdx_foldl (vs : Array Value) (off : Nat) (cur : Array Value) (hl : off + vs.size ≤ cur.size) :
    vs.zipIdx.foldl (fun cs (p : Value × Nat) => cs.setIfInBounds (off + p.2) p.1) cur = wr cur off vs.toList := by
  rw [← Array.foldl_toList, Array.toList_zipIdx]
  exact foldl_set off vs.toList 0 cur (by simpa using hl)

theorem fill_ok (ht : SimT I M tm nt a.tmps w) {place : Nat → Option (Nat × Nat)} : ∀ {ps : List (Nat × Operand)} {l : List (Nat × Nat × Opd)} {z cs : List AV} {zs : Array Value},
    All2 (fun (p : Nat × Operand) (q : Nat × Nat × Opd) => place p.1 = some (q.1, q.2.1) ∧ ofOpd p.2 = some q.2.2) ps l → All2 (Rp I M w) z zs.toList → putParts z tm l = some cs →
    ∃ rs, Instr.fill place zs (ps.map fun p => (p.1, a.eval p.2)) = some rs ∧ All2 (Rp I M w) cs rs.toList
  | [], l, z, cs, zs, hp, hz, hc => by
    cases hp
    simp only [putParts, Option.some.injEq] at hc
    subst hc
    exact ⟨zs, rfl, hz⟩
  | p :: ps, _, z, cs, zs, hp, hz, hc => by
    cases hp with
    | @cons _ q _ l hpq hp =>
      obtain ⟨off, n, x⟩ := q
      simp only [putParts] at hc
      cases hcs : cellsOf (rd tm x) with
      | none => rw [hcs] at hc; simp at hc
      | some new =>
        rw [hcs] at hc
        simp only [Option.ite_none_right_eq_some] at hc
        obtain ⟨⟨hl, hle⟩, hc⟩ := hc
        obtain ⟨h2, _⟩ := cellsOf_ok hcs (opd_ok ht hpq.2)
        have hsz : (a.eval p.2).cells.size = n := by rw [← hl, h2.length]; simp
        have hzl : z.length = zs.size := by rw [hz.length]; simp
        obtain ⟨rs, hr1, hr2⟩ := fill_ok ht hp (wr_all2 (off := off) hz h2) hc
        refine ⟨rs, ?_, hr2⟩
        simp only [List.map_cons, Instr.fill, hpq.1]
        rw [if_neg (by simp only [Bool.or_eq_true, decide_eq_true_eq, not_or]; omega)]
        have hf := zipIdx_foldl (a.eval p.2).cells off zs (by omega)
        rw [← hr1]
        congr 1

theorem ok_bd {t : TypeId} {z : List AV} {ps : Array (Nat × Operand)} {l : List (Nat × Nat × Opd)} {e : Ef} (ht : SimT I M tm nt a.tmps w) (hs : SimH I M h nx w) (hz : zeroOf P t = some z)
    (hl : (∃ fs places, P.underlying t = some (.struct fs) ∧ fs.toList.mapM (fun f => (P.info? f.type).map fun i => (f.offset, i.size)) = some places ∧
        All2 (fun (p : Nat × Operand) (q : Nat × Nat × Opd) => places[p.1]? = some (q.1, q.2.1) ∧ ofOpd p.2 = some q.2.2) ps.toList l) ∨
      (∃ n et ie, P.underlying t = some (.array n et) ∧ P.info? et = some ie ∧ All2 (fun (p : Nat × Operand) (q : Nat × Nat × Opd) => some (p.1 * ie.size, ie.size) = some (q.1, q.2.1) ∧ ofOpd p.2 = some q.2.2) ps.toList l))
    (ho : o.op = .build t ps) (he : opA tm h nx (.bd z l) = some e) : OpOk P I M nx w (execOp a.eval o) e true := by
  simp only [opA, Option.bind_eq_some_iff, one, Option.some.injEq] at he
  obtain ⟨cs, hcs, rfl⟩ := he
  obtain ⟨zv, i, hi, hzr, hz2, hzl⟩ := zeroOf_ok hz
  have hzero : i.zero = some zv := by
    have := hzr w
    simp only [zeroValue, typeInfo, Sem.run_bind, run_program, Result.andThen_ok, hi, Sem.run_pure] at this
    cases hq : i.zero with
    | none => rw [hq] at this; simp at this
    | some q =>
      rw [hq] at this
      simp only [Sem.run_pure, Result.ok.injEq, and_true] at this
      rw [this]
  have hrun : ∀ rs, P.built t (ps.map fun p => (p.1, a.eval p.2)).toList = some rs → (execOp a.eval o).run P w = .ok (.value (.agg rs)) w := by
    intro rs hb
    have := run_build w t (ps.map fun p => (p.1, a.eval p.2)) rs hb
    simp only [execOp, ho, Sem.run_bind]
    rw [show (ps.map fun (x : Nat × Operand) => match x with | (i, x) => (i, a.eval x)) = ps.map fun p => (p.1, a.eval p.2) from rfl, this]
    rfl
  rcases hl with ⟨fs, places, hd, hp, h2⟩ | ⟨n, et, ie, hd, hie, h2⟩
  · obtain ⟨rs, hr1, hr2⟩ := fill_ok (place := (places.toArray[·]?)) ht (by simpa using h2) (hz2 I M w) hcs
    refine OpOk.pure hs (hrun rs ?_) ⟨rs, rfl, hr2⟩
    simp only [Program.built, hi, hd, hzero, hp, Array.toList_map]
    exact hr1
  · obtain ⟨rs, hr1, hr2⟩ := fill_ok (place := fun i => some (i * ie.size, ie.size)) ht h2 (hz2 I M w) hcs
    refine OpOk.pure hs (hrun rs ?_) ⟨rs, rfl, hr2⟩
    simp only [Program.built, hi, hd, hzero, hie, Array.toList_map]
    exact hr1

theorem elems_fill (ht : SimT I M tm nt a.tmps w) (hs : SimH I M h nx w) {sz len : Nat} {J : Nat → Prop} (hJ : ∀ b, I b → J b) : ∀ {ps : List (Nat × Operand)} {l : List (Nat × Opd)} {es es' : List (List AV)} {zs : Array Value},
    All2 (fun (p : Nat × Operand) (q : Nat × Opd) => p.1 = q.1 ∧ p.1 < len ∧ ofOpd p.2 = some q.2) ps l → (∀ e ∈ es, e.length = sz) → es.length = len → All2 (Rp J M0 w) es.flatten zs.toList → putElems h es sz tm l = some es' →
    (∀ b rb o, b ∈ (l.flatMap fun p => refsV (rd tm p.2)) → M b = some (some (rb, o)) → J rb) →
    ∃ rs, Instr.fill (fun i => some (i * sz, sz)) zs (ps.map fun p => (p.1, a.eval p.2)) = some rs ∧ (∀ e ∈ es', e.length = sz) ∧ es'.length = len ∧ All2 (Rp J M0 w) es'.flatten rs.toList
  | [], l, es, es', zs, hp, hsz, hlen, hz, hc, _ => by
    cases hp
    simp only [putElems, Option.some.injEq] at hc
    subst hc
    exact ⟨zs, rfl, hsz, hlen, hz⟩
  | p :: ps, _, es, es', zs, hp, hsz, hlen, hz, hc, hrefs => by
    cases hp with
    | @cons _ q _ l hpq hp =>
      obtain ⟨i, x⟩ := q
      obtain ⟨hpi, hil, hpx⟩ := hpq
      dsimp only at hpi hpx
      simp only [putElems] at hc
      cases hcs : cellsOf (rd tm x) with
      | none => rw [hcs] at hc; simp at hc
      | some new =>
        rw [hcs] at hc
        simp only [] at hc
        cases hsn : snapL (snapC h) new with
        | none => rw [hsn] at hc; simp at hc
        | some new' =>
          rw [hsn] at hc
          simp only [Option.ite_none_right_eq_some] at hc
          obtain ⟨hl, hc⟩ := hc
          obtain ⟨h2, _⟩ := cellsOf_ok hcs (opd_ok ht hpx)
          have hall := snapL_all2 hsn
          have hcr : ∀ c ∈ new, ∀ b ∈ refs c, b ∈ refsV (rd tm x) := by
            intro c hc b hb
            cases hv : rd tm x <;> rw [hv] at hcs <;> simp only [cellsOf] at hcs <;> first
              | (cases hcs; done)
              | (simp only [Option.some.injEq] at hcs
                 subst hcs
                 first
                   | exact List.mem_flatMap.2 ⟨c, hc, hb⟩
                   | (simp only [List.mem_singleton] at hc
                      subst hc
                      exact hb))
          have h2' : All2 (Rp J M0 w) new' (a.eval p.2).cells.toList := by
            have : ∀ {cs cs' : List AV} {us : List Value}, (∀ c ∈ cs, c ∈ new) → All2 (fun a b => snapC h a = some b) cs cs' → All2 (Rp I M w) cs us → All2 (Rp J M0 w) cs' us := by
              intro cs cs' us hsub h3 h4
              induction h3 generalizing us with
              | nil => cases h4; exact .nil
              | cons hh1 _ ih =>
                cases h4 with
                | cons hh2 h4 =>
                  exact .cons (snapC_ok hs hJ hh1 hh2 fun b' rb' o' hb' hM' => hrefs b' rb' o' (List.mem_flatMap.2 ⟨(i, x), by simp, hcr _ (hsub _ (by simp)) b' hb'⟩) hM') (ih (fun c hc => hsub c (by simp [hc])) h4)
            exact this (fun _ h => h) hall h2
          have hvs : (a.eval p.2).cells.size = sz := by rw [← hl, h2'.length]; simp
          have hzl : zs.size = len * sz := by
            have := hz.length
            rw [flat_len hsz, hlen] at this
            simpa using this.symm
          have hroom : i * sz + sz ≤ len * sz := by
            have := Nat.mul_le_mul_right sz (show i + 1 ≤ len by omega)
            rw [Nat.add_mul] at this; omega
          have hsz' : ∀ e ∈ es.set i new', e.length = sz := fun e he => by
            rcases List.mem_or_eq_of_mem_set he with h | h
            · exact hsz e h
            · rw [h]; exact hl
          have hflat : (es.set i new').flatten = splice es.flatten new' (i * sz) := by
            apply List.ext_getElem?
            intro k
            rw [splice_get (by rw [flat_len hsz, hlen, hl]; exact hroom)]
            by_cases hk : k < len * sz
            · have hpos : 0 < sz := by
                rcases Nat.eq_zero_or_pos sz with h | h
                · subst h; simp at hk
                · exact h
              have hdiv : k / sz < len := by rw [Nat.div_lt_iff_lt_mul hpos]; exact hk
              have hmod := Nat.mod_lt k hpos
              have hdm := Nat.div_add_mod k sz
              rw [Nat.mul_comm] at hdm
              have he0 : k / sz < es.length := by omega
              by_cases hki : k / sz = i
              · rw [if_pos (by rw [hl, ← hki]; omega)]
                have := flat_get hsz' i new' (k % sz) new'[k % sz] (by rw [List.getElem?_set_self (by omega)]) (List.getElem?_eq_getElem (by omega))
                rw [← hki, hdm] at this
                rw [← hki, this, show k - k / sz * sz = k % sz by omega]
                exact (List.getElem?_eq_getElem (by omega)).symm
              · have hin : ¬ (i * sz ≤ k ∧ k < i * sz + new'.length) := by
                  rw [hl]
                  have := mul_apart (i := i) (i' := k / sz) (sz := sz) (j := k % sz) (off := 0) (n := sz) hki hmod (by omega)
                  omega
                rw [if_neg hin]
                have hel : (es[k / sz]'he0).length = sz := hsz _ (List.getElem_mem he0)
                have g1 := flat_get hsz (k / sz) (es[k / sz]'he0) (k % sz) ((es[k / sz]'he0)[k % sz]'(by omega)) (List.getElem?_eq_getElem he0) (List.getElem?_eq_getElem (by omega))
                have g2 := flat_get hsz' (k / sz) (es[k / sz]'he0) (k % sz) ((es[k / sz]'he0)[k % sz]'(by omega)) (by rw [List.getElem?_set_ne (Ne.symm hki)]; exact List.getElem?_eq_getElem he0) (List.getElem?_eq_getElem (by omega))
                rw [hdm] at g1 g2
                rw [g1, g2]
            · rw [List.getElem?_eq_none (by rw [flat_len hsz', List.length_set, hlen]; omega), if_neg (by rw [hl]; omega), List.getElem?_eq_none (by rw [flat_len hsz, hlen]; omega)]
          have hz' : All2 (Rp J M0 w) (es.set i new').flatten (wr zs (i * sz) (a.eval p.2).cells.toList).toList := by
            rw [hflat]
            exact wr_all2 hz h2'
          obtain ⟨rs, hr1, hr2⟩ := elems_fill ht hs hJ hp hsz' (by simpa using hlen) hz' hc (fun b rb o hb hM => hrefs b rb o (by
            simp only [List.flatMap_cons, List.mem_append]
            exact .inr hb) hM)
          refine ⟨rs, ?_, hr2⟩
          simp only [List.map_cons, Instr.fill, hpi]
          rw [if_neg (by simp only [Bool.or_eq_true, decide_eq_true_eq, not_or]; omega)]
          have hf := zipIdx_foldl (a.eval p.2).cells (i * sz) zs (by omega)
          rw [← hr1]
          congr 1

theorem ok_bs {t et : TypeId} {len : Nat} {z : List AV} {ps : Array (Nat × Operand)} {l : List (Nat × Opd)} {e : Ef} (ht : SimT I M tm nt a.tmps w) (hs : SimH I M h nx w) (hd : P.underlying t = some (.slice et)) (hz : zeroOf P et = some z)
    (hl : All2 (fun (p : Nat × Operand) (q : Nat × Opd) => p.1 = q.1 ∧ p.1 < len ∧ ofOpd p.2 = some q.2) ps.toList l) (hlim : len * P.cellsOf et ≤ 2 ^ 24)
    (ho : o.op = .buildSlice t len ps) (he : opA tm h nx (.bs (P.cellsOf et) len z et l) = some e) (q : Bool) (hq : q = true → l.flatMap (fun p => refsV (rd tm p.2)) = []) : OpOk P I M nx w (execOp a.eval o) e q := by
  simp only [opA, Option.bind_eq_some_iff, Option.some.injEq] at he
  obtain ⟨es, hes, rfl⟩ := he
  obtain ⟨zv, i, hi, hzr, hz2, hzl⟩ := zeroOf_ok hz
  have hzs : zv.cells.size = P.cellsOf et := by rw [← hzl, (hz2 I M w).length]; simp
  generalize hks : (l.flatMap fun p => refsV (rd tm p.2)) = ks at hq
  have hrep := zero_rep (w := w) (I := deadI ks I M) (fun I M w => hz2 I M w) len
  obtain ⟨rs, hr1, hr2, hr3, hr4⟩ := elems_fill (sz := P.cellsOf et) (len := len) (J := deadI ks I M) (zs := (List.replicate len zv.cells.toList).flatten.toArray) ht hs (fun _ h => .inl h) hl
    (by intro e he; rw [(List.mem_replicate.1 he).2]; exact hzl) (by simp) (by simpa using hrep.2) hes (fun b rb o hb hM => .inr ⟨b, o, hks ▸ hb, hM⟩)
  have hs2 := kill_ok hs ks
  have hev2 := kill_ev (I := I) (M := M) (w := w) ks
  have hrl : rs.size = len * P.cellsOf et := by
    have := hr4.length
    rw [flat_len hr2, hr3] at this
    simpa using this.symm
  obtain ⟨M', k1, k2, k3, k4⟩ := row_ok hs2 et et (arr := rs) (us := rs.toList) (rest := []) (by simp) hr2 hr4 len (by omega) (by rw [hrl]; exact Nat.le_refl _)
  have hrun : (execOp a.eval o).run P w = .ok (.value (.slice (some ⟨w.heap.size, 0, none⟩) len len)) (w.alloc (.cells rs et)) := by
    have harr : (Array.range (len * P.cellsOf et)).map (fun k => (if len * P.cellsOf et = 0 then (#[] : Array Value) else zv.cells)[k % (if len * P.cellsOf et = 0 then (#[] : Array Value) else zv.cells).size]!) = (List.replicate len zv.cells.toList).flatten.toArray := by
      by_cases h0 : len * P.cellsOf et = 0
      · have : ((List.replicate len zv.cells.toList).flatten).length = 0 := by
          rw [flat_len (sz := P.cellsOf et) (by intro e he; rw [(List.mem_replicate.1 he).2]; simpa using hzs)]
          simpa using h0
        rw [List.eq_nil_of_length_eq_zero this, h0]
        simp
      · rw [if_neg h0]
        rw [← hzs] at h0 ⊢
        refine range_mod zv.cells len ?_
        intro hh
        rw [hh] at h0
        simp at h0
    have hfill : Instr.fill (fun i => some (i * P.cellsOf et, P.cellsOf et)) ((Array.range (len * P.cellsOf et)).map (fun k => (if len * P.cellsOf et = 0 then (#[] : Array Value) else zv.cells)[k % (if len * P.cellsOf et = 0 then (#[] : Array Value) else zv.cells).size]!)) (ps.map fun p => (p.1, a.eval p.2)).toList = some rs := by
      rw [harr, Array.toList_map]
      exact hr1
    simp only [execOp, ho, Sem.run_bind, Instr.buildSlice, run_underlying hd, Result.andThen_ok, run_sizeOf_of hi]
    rw [if_neg (by omega)]
    simp only [Sem.run_pure, Sem.run_bind, Result.andThen_ok, Sem.run_ite, pure_bind]
    by_cases h0 : len * P.cellsOf et = 0
    · rw [if_pos h0]
      rw [if_pos h0] at hfill
      rw [hfill]
      rfl
    · rw [if_neg h0, hzr]
      rw [if_neg h0] at hfill
      simp only [Result.andThen_ok]
      rw [hfill]
      rfl
  rw [hr3] at k3
  refine ⟨_, _, _, _, M', hrun, .val _, hev2.trans k1, k2, k3, fun hqt => ?_⟩
  have hk0 : ks = [] := hks ▸ hq hqt
  subst hk0
  refine ⟨k4.1, fun b hb => ?_, fun b hb => ?_⟩
  · rw [k4.2.1 b hb]; simp [deadM]
  · rcases k4.2.2 b hb with h | h
    · rcases h with h | ⟨_, _, h, _⟩
      · exact .inl h
      · cases h
    · exact .inr h
end
end Go.Am
set_option linter.unusedSimpArgs false
set_option linter.unusedVariables false
namespace Go.Am
section
variable {P : Program} {I : Nat → Prop} {M : MU} {w : World} {h : List (Nat × BK)} {nx nt : Nat} {tm : List (Nat × AV)} {a : Act} {o : Oper}

inductive OptR : Option Operand → Option Opd → Prop
  | none : OptR none none
  | some {x y} (h : ofOpd x = some y) : OptR (some x) (some y)

theorem bnd_ok (ht : SimT I M tm nt a.tmps w) {lo : Option Operand} {lo' : Option Opd} (hr : OptR lo lo') {d y n : Nat} (code : BoundsCode) (hn : optInt d tm 0 y lo' = some n) (hd : d ≤ y) :
    (match lo.map a.eval with
      | some v => Instr.sliceBound v y code
      | none => pure d : Sem Nat).run P w = .ok n w ∧ n ≤ y := by
  cases hr with
  | none =>
    simp only [optInt, Option.some.injEq] at hn
    subst hn
    exact ⟨rfl, hd⟩
  | @some x y' hx =>
    simp only [optInt] at hn
    obtain ⟨k, m, hm, h0, h1, rfl⟩ := bound_inv hn
    have hv := opd_ok ht hx
    rw [hm] at hv
    simp only [Option.map_some, int_inv hv]
    refine ⟨run_sliceBound w k m y code (by simpa using h0) (by simpa using h1), by omega⟩

theorem ok_ss {t : TypeId} {x : Operand} {x' : Opd} {lo hi : Option Operand} {lo' hi' : Option Opd} {e : Ef} (ht : SimT I M tm nt a.tmps w) (hs : SimH I M h nx w) (hx : ofOpd x = some x') (hlo : OptR lo lo') (hhi : OptR hi hi')
    (hd : P.underlying t = some .string) (ho : o.op = .slice t x lo hi none) (he : opA tm h nx (.ss x' lo' hi') = some e) : OpOk P I M nx w (execOp a.eval o) e true := by
  simp only [opA] at he
  have hrx := opd_ok ht hx
  split at he
  · rename_i s hxv
    rw [hxv] at hrx
    simp only [Option.bind_eq_some_iff, one, Option.some.injEq] at he
    obtain ⟨b, hb, c, hc, rfl⟩ := he
    obtain ⟨q1, q2⟩ := bnd_ok (P := P) ht hhi .sliceAlen hb (Nat.le_refl _)
    obtain ⟨q3, q4⟩ := bnd_ok (P := P) ht hlo .sliceB hc (Nat.zero_le _)
    refine OpOk.pure hs (v := .string (s.extract c b)) ?_ (.st _)
    simp only [execOp, ho, st_inv hrx, Instr.sliceAt, Instr.slice, Instr.sliceBounds, Sem.run_bind, run_underlying hd, Result.andThen_ok, Option.map_none, Option.isSome_none, Bool.false_eq_true, if_false, Sem.run_pure, pure_bind]
    cases hi <;> cases lo <;> simp only [Option.map_none, Option.map_some, Sem.run_pure, Result.ok.injEq, and_true] at q1 q3 ⊢ <;> simp [q1, q3]
  · simp at he

theorem slice_run {t et : TypeId} {x : Operand} {lo hi : Option Operand} {lo' hi' : Option Opd} {A : Option Addr} {len cap b c : Nat} (ht : SimT I M tm nt a.tmps w) (hlo : OptR lo lo') (hhi : OptR hi hi') (hd : P.underlying t = some (.slice et)) (hi2 : ∃ i, P.info? et = some i)
    (ho : o.op = .slice t x lo hi none) (hv : a.eval x = .slice A len cap) (hlc : len ≤ cap) (hb : optInt len tm 0 len hi' = some b) (hc : optInt 0 tm 0 b lo' = some c) :
    (execOp a.eval o).run P w = .ok (.value (.slice (if cap = c then A else A.map (·.add (c * P.cellsOf et))) (b - c) (cap - c))) w ∧ c ≤ b ∧ b ≤ len := by
  obtain ⟨i, hi2⟩ := hi2
  have hb' : optInt len tm 0 cap hi' = some b := by
    cases hi' with
    | none => exact hb
    | some x =>
      simp only [optInt] at hb ⊢
      obtain ⟨k, m, hm, h0, h1, rfl⟩ := bound_inv hb
      rw [hm, bound, if_pos ⟨by omega, by omega⟩]
  have hbl : b ≤ len := by
    cases hi' with
    | none => simp only [optInt, Option.some.injEq] at hb; omega
    | some x =>
      simp only [optInt] at hb
      obtain ⟨k, m, hm, h0, h1, rfl⟩ := bound_inv hb
      omega
  obtain ⟨q1, q2⟩ := bnd_ok (P := P) ht hhi .sliceAcap hb' hlc
  obtain ⟨q3, q4⟩ := bnd_ok (P := P) ht hlo .sliceB hc (Nat.zero_le _)
  refine ⟨?_, q4, hbl⟩
  simp only [execOp, ho, hv, Instr.sliceAt, Instr.slice, Instr.sliceBounds, Sem.run_bind, run_underlying hd, Result.andThen_ok, Option.map_none, Option.isSome_none, Bool.false_eq_true, if_false, Sem.run_pure, pure_bind, if_true]
  cases hi <;> cases lo <;> simp only [Option.map_none, Option.map_some, Sem.run_pure, Result.ok.injEq, and_true] at q1 q3 ⊢ <;> simp [q1, q3, run_sizeOf_of hi2]

theorem slice3_run {t et : TypeId} {x : Operand} {lo : Option Operand} {lo' : Option Opd} {h1 m1 : Operand} {h1' m1' : Opd} {A : Option Addr} {len cap m b c : Nat} (ht : SimT I M tm nt a.tmps w) (hlo : OptR lo lo') (hh : ofOpd h1 = some h1') (hm : ofOpd m1 = some m1') (hd : P.underlying t = some (.slice et)) (hi2 : ∃ i, P.info? et = some i)
    (ho : o.op = .slice t x lo (some h1) (some m1)) (hv : a.eval x = .slice A len cap) (hlc : len ≤ cap) (hm2 : optInt 0 tm 0 len (some m1') = some m) (hb : optInt 0 tm 0 m (some h1') = some b) (hc : optInt 0 tm 0 b lo' = some c) :
    (execOp a.eval o).run P w = .ok (.value (.slice (if m = c then A else A.map (·.add (c * P.cellsOf et))) (b - c) (m - c))) w ∧ c ≤ b ∧ b ≤ m := by
  obtain ⟨i, hi2⟩ := hi2
  have hm' : optInt 0 tm 0 cap (some m1') = some m := by
    simp only [optInt] at hm2 ⊢
    obtain ⟨k, n, hn, h0, h1, rfl⟩ := bound_inv hm2
    rw [hn, bound, if_pos ⟨by omega, by omega⟩]
  obtain ⟨q0, q0'⟩ := bnd_ok (P := P) ht (.some hm) .slice3Acap hm' (Nat.zero_le _)
  obtain ⟨q1, q2⟩ := bnd_ok (P := P) ht (.some hh) .slice3B hb (Nat.zero_le _)
  obtain ⟨q3, q4⟩ := bnd_ok (P := P) ht hlo .slice3C hc (Nat.zero_le _)
  refine ⟨?_, q4, q2⟩
  simp only [execOp, ho, hv, Instr.sliceAt, Instr.slice, Instr.sliceBounds, Sem.run_bind, run_underlying hd, Result.andThen_ok, Option.map_none, Option.isSome_none, Bool.false_eq_true, if_false, Sem.run_pure, pure_bind, if_true, Option.map_some]
  simp only [Option.map_some] at q0 q1
  cases lo <;> simp only [Option.map_none, Option.map_some, Sem.run_pure, Result.ok.injEq, and_true] at q3 ⊢ <;> simp [q0, q1, q3, run_sizeOf_of hi2]

theorem drop_take_sub {α : Type} (l : List α) (lo len c n : Nat) (hn : c + n ≤ len) : (((l.drop lo).take len).drop c).take n = (l.drop (lo + c)).take n := by
  rw [List.drop_take, List.take_take, List.drop_drop]
  congr 1
  omega

theorem ok_sc {t et : TypeId} {x : Operand} {x' : Opd} {lo hi mx : Option Operand} {lo' hi' mx' : Option Opd} {e : Ef} (ht : SimT I M tm nt a.tmps w) (hs : SimH I M h nx w) (hx : ofOpd x = some x') (hlo : OptR lo lo') (hhi : OptR hi hi') (hmx : OptR mx mx') (hmh : mx.isSome = true → hi.isSome = true)
    (hd : P.underlying t = some (.slice et)) (hi2 : ∃ i, P.info? et = some i) (ho : o.op = .slice t x lo hi mx) (he : opA tm h nx (.sc (P.cellsOf et) x' lo' hi' mx') = some e) : OpOk P I M nx w (execOp a.eval o) e true := by
  simp only [opA] at he
  have hrx := opd_ok ht hx
  -- a slice of no room
  have zero : ∀ A, a.eval x = .slice A 0 0 → (∃ m, optInt 0 tm 0 0 mx' = some m) → (∃ b, optInt 0 tm 0 0 hi' = some b) → (∃ c, optInt 0 tm 0 0 lo' = some c) → (execOp a.eval o).run P w = .ok (.value (.slice A 0 0)) w := by
    intro A hv ⟨m, hm⟩ ⟨b, hb⟩ ⟨c, hc⟩
    have z0 : ∀ {d : Option Opd} {n : Nat}, optInt 0 tm 0 0 d = some n → n = 0 := by
      intro d n hn
      cases d with
      | none => simp only [optInt, Option.some.injEq] at hn; exact hn.symm
      | some x =>
        simp only [optInt] at hn
        obtain ⟨k, m, hm, h0, h1, rfl⟩ := bound_inv hn
        omega
    obtain rfl := z0 hm
    obtain rfl := z0 hb
    obtain rfl := z0 hc
    cases hmx with
    | none => have := (slice_run (P := P) ht hlo hhi hd hi2 ho hv (Nat.le_refl _) hb hc).1; simpa using this
    | some hm1 =>
      cases hhi with
      | none => simp at hmh
      | some hh1 => have := (slice3_run (P := P) ht hlo hh1 hm1 hd hi2 ho hv (Nat.le_refl _) hm hb hc).1; simpa using this
  split at he
  · rename_i hxv
    rw [hxv] at hrx
    simp only [Option.bind_eq_some_iff, one, Option.some.injEq] at he
    obtain ⟨m, hm, b, hb, c, hc, rfl⟩ := he
    have hv : a.eval x = .slice none 0 0 := by
      generalize hq : a.eval x = v at hrx
      cases (show Rp I M w .ns v from hrx); rfl
    exact OpOk.pure hs (zero none hv ⟨m, hm⟩ ⟨b, hb⟩ ⟨c, hc⟩) .ns
  · rename_i sz es hxv
    rw [hxv] at hrx
    split at he
    · simp at he
    · rename_i hsz
      have hsz : sz = P.cellsOf et := by simpa using hsz
      subst hsz
      have hv : ∃ A cap, a.eval x = .slice A es.length cap ∧ es.length ≤ cap ∧ ∀ c b, c ≤ b → b ≤ es.length → RpV I M w (.ls (P.cellsOf et) ((es.drop c).take (b - c))) (.slice (if cap = c then A else A.map (·.add (c * P.cellsOf et))) (b - c) (cap - c)) := by
        generalize hq : a.eval x = v at hrx
        cases (show Rp I M w (.ls (P.cellsOf et) es) v from hrx) with
        | lsN _ A cap =>
          refine ⟨some A, cap, rfl, by simp, fun c b h1 h2 => ?_⟩
          have hb : b = 0 := by simpa using h2
          subst hb
          have hc : c = 0 := by omega
          subst hc
          have hsome : ∃ A', (if cap = 0 then some A else (some A).map (·.add (0 * P.cellsOf et))) = some A' := by split <;> exact ⟨_, rfl⟩
          obtain ⟨A', hA'⟩ := hsome
          rw [hA']
          exact .lsN _ _ _
        | ls _ _ ib io cap u hne hcap hsz hI hc hr =>
          refine ⟨_, cap, rfl, hcap, fun c b h1 h2 => ?_⟩
          have hl := length_drop_take es c (b - c) (by omega)
          by_cases hbc : b = c
          · subst hbc
            simp only [Nat.sub_self, List.take_zero]
            have hsome : ∃ A', (if cap = b then some (⟨ib, io, none⟩ : Addr) else (some (⟨ib, io, none⟩ : Addr)).map (·.add (b * P.cellsOf et))) = some A' := by split <;> exact ⟨_, rfl⟩
            obtain ⟨A', hA'⟩ := hsome
            rw [hA']
            exact .lsN _ _ _
          · rw [if_neg (by omega), Option.map_some, Addr.add_mk]
            have := Rp.ls (I := I) (M := M) (w := w) (P.cellsOf et) ((es.drop c).take (b - c)) ib (io + c * P.cellsOf et) (cap - c) (fun i j => u (c + i) j) (by intro h0; rw [h0] at hl; simp at hl; omega) (by omega)
              (fun e he => hsz e (List.mem_of_mem_drop (List.mem_of_mem_take he))) hI (fun i e j q hi hj => by
                have := hc (c + i) e j q (get_drop_take hi).1 hj
                rw [show io + c * P.cellsOf et + i * P.cellsOf et + j = io + (c + i) * P.cellsOf et + j by rw [Nat.add_mul]; omega]
                exact this) (fun i e j q hi hj => hr (c + i) e j q (get_drop_take hi).1 hj)
            rw [hl] at this
            exact this
      obtain ⟨A, cap, hv, hlc, hrep⟩ := hv
      split at he
      · rename_i hms
        cases hmx with
        | none => simp at hms
        | some hm1 =>
          cases hhi with
          | none => simp at hmh
          | some hh1 =>
            simp only [Option.bind_eq_some_iff, one] at he
            obtain ⟨m, hm, b, hb, c, hc, he⟩ := he
            simp only [Option.ite_none_right_eq_some, Option.some.injEq] at he
            obtain ⟨hcm, rfl⟩ := he
            obtain ⟨k1, k2, k3⟩ := slice3_run (P := P) ht hlo hh1 hm1 hd hi2 ho hv hlc hm hb hc
            subst hcm
            have hbc : b = c := by omega
            subst hbc
            refine OpOk.pure hs k1 ?_
            rw [if_pos rfl, Nat.sub_self]
            exact .ez _
      · rename_i hms
        cases hmx with
        | some hm1 => simp at hms
        | none =>
          simp only [Option.bind_eq_some_iff, one, Option.some.injEq] at he
          obtain ⟨b, hb, c, hc, rfl⟩ := he
          obtain ⟨k1, k2, k3⟩ := slice_run (P := P) ht hlo hhi hd hi2 ho hv hlc hb hc
          exact OpOk.pure hs k1 (hrep c b k2 k3)
  · rename_i hxv
    rw [hxv] at hrx
    simp only [Option.bind_eq_some_iff, one, Option.some.injEq] at he
    obtain ⟨m, hm, b, hb, c, hc, rfl⟩ := he
    have hv : ∃ A, a.eval x = .slice A 0 0 := by
      generalize hq : a.eval x = v at hrx
      cases (show Rp I M w .ez v from hrx); exact ⟨_, rfl⟩
    obtain ⟨A, hv⟩ := hv
    exact OpOk.pure hs (zero A hv ⟨m, hm⟩ ⟨b, hb⟩ ⟨c, hc⟩) (.ez A)
  · rename_i sz r lo0 len hxv
    rw [hxv] at hrx
    split at he
    · simp at he
    · rename_i hcond
      simp only [Bool.or_eq_true, Bool.not_eq_true', decide_eq_true_eq, not_or, Bool.not_eq_false, ne_eq, Decidable.not_not] at hcond
      obtain ⟨rfl, hal⟩ := hcond
      obtain ⟨rb, oo, hM⟩ := alive_iff hs hal
      obtain ⟨ad, cap, t', n, hv, hlc, had, hsh, hn⟩ := sl_inv hrx hM
      split at he
      · rename_i hms
        cases hmx with
        | none => simp at hms
        | some hm1 =>
          cases hhi with
          | none => simp at hmh
          | some hh1 =>
            simp only [Option.bind_eq_some_iff, one] at he
            obtain ⟨m, hm, b, hb, c, hc, he⟩ := he
            simp only [Option.ite_none_right_eq_some, Option.some.injEq] at he
            obtain ⟨hcm, rfl⟩ := he
            obtain ⟨k1, k2, k3⟩ := slice3_run (P := P) ht hlo hh1 hm1 hd hi2 ho hv hlc hm hb hc
            subst hcm
            have hbc : b = c := by omega
            subst hbc
            refine OpOk.pure hs k1 ?_
            rw [if_pos rfl, Nat.sub_self]
            exact .ez _
      · rename_i hms
        cases hmx with
        | some hm1 => simp at hms
        | none =>
          simp only [Option.bind_eq_some_iff, one, Option.some.injEq] at he
          obtain ⟨b, hb, c, hc, rfl⟩ := he
          obtain ⟨k1, k2, k3⟩ := slice_run (P := P) ht hlo hhi hd hi2 ho hv hlc hb hc
          refine OpOk.pure hs k1 ?_
          have hsome : (if cap = c then some ad else Option.map (·.add (c * P.cellsOf et)) (some ad)) = some (if cap = c then ad else ad.add (c * P.cellsOf et)) := by split <;> rfl
          rw [hsome]
          refine .sl _ r (lo0 + c) (b - c) rb oo (cap - c) _ t' n hM (by omega) (fun hpos => ?_) hsh ?_
          · rw [if_neg (by omega), had (by omega), Addr.add_mk, Nat.add_mul, Nat.add_assoc]
          · rw [show lo0 + c + (cap - c) = lo0 + cap by omega]
            exact hn
  · simp at he
end
end Go.Am
set_option linter.unusedSimpArgs false
set_option linter.unusedVariables false
namespace Go.Am
section
variable {P : Program} {I : Nat → Prop} {M : MU} {w : World} {h : List (Nat × BK)} {nx nt : Nat} {tm : List (Nat × AV)} {a : Act} {o : Oper}

theorem okP0_rp {c : AV} {v : Value} (hc : okP0 c = true) (hr : Rp I M w c v) : Rp I M0 w c v := by
  cases hr <;> simp only [okP0] at hc <;> first
    | (constructor; done)
    | (constructor <;> assumption)
    | contradiction
theorem ok0_rp {c : AV} {v : Value} (hc : ok0 c = true) (hr : Rp I M w c v) : Rp I M0 w c v := by
  cases hr <;> simp only [ok0] at hc <;> first
    | (constructor; done)
    | (constructor <;> assumption)
    | contradiction
    | skip
  case fn f caps vs hl f' fs us hfk hrr => exact .fn f caps vs hl (fun i c v h1 h2 => okP0_rp ((List.all_eq_true.1 hc) c (List.mem_of_getElem? h1)) (hrr i c v h1 h2)) f' fs us hfk
theorem all2_ok0 {cs : List AV} {us : List Value} (hc : cs.all ok0 = true) (h : All2 (Rp I M w) cs us) : All2 (Rp I M0 w) cs us := by
  induction h with
  | nil => exact .nil
  | cons h1 _ ih =>
    simp only [List.all_cons, Bool.and_eq_true] at hc
    exact .cons (ok0_rp hc.1 h1) (ih hc.2)
theorem ok0V_rp {c : AV} {v : Value} (hc : ok0V c = true) (hr : RpV I M w c v) : RpW I M0 w c v := by
  cases c <;> simp only [ok0V] at hc <;> first
    | (simp only [RpV, RpW] at hr ⊢; exact ok0_rp hc hr)
    | (simp [ok0] at hc; done)
    | (simp only [RpV, RpW] at hr ⊢
       obtain ⟨vs, rfl, h2⟩ := hr
       exact ⟨vs, rfl, all2_ok0 hc h2⟩)
theorem RpW.of0 {c : AV} {v : Value} (hr : RpW I M0 w c v) : RpW I M w c v := RpW.mono' (fun _ _ h => Rp.of0 h) hr

theorem isKey_rp {s : Bool} {c : AV} {v : Value} (hk : isKey s c = true) (hr : RpV I M w c v) : Rp I M0 w c v ∧ ((s = true ∧ ∃ b, c = .st b ∧ v = .string b) ∨ (s = false ∧ ∃ k n, c = .int k n ∧ v = .int k n)) := by
  cases c <;> cases s <;> simp [isKey] at hk
  · rename_i k n
    rw [int_inv hr]
    exact ⟨.int _ _, .inr ⟨rfl, k, n, rfl, rfl⟩⟩
  · rename_i b
    rw [st_inv hr]
    exact ⟨.st _, .inl ⟨rfl, b, rfl, rfl⟩⟩

theorem keyS_some {k : TypeId} {s : Bool} (h : keyS P k = some s) : (s = true ∧ P.underlying k = some .string) ∨ (s = false ∧ ∃ kk, P.underlying k = some (.int kk)) := by
  unfold keyS at h
  split at h
  · rename_i kk hk; injection h with h; subst h; exact .inr ⟨rfl, kk, hk⟩
  · rename_i hk; injection h with h; subst h; exact .inl ⟨rfl, hk⟩
  · simp at h

theorem checkKey_succ {k : TypeId} {s : Bool} (h : keyS P k = some s) (e : Bool) (v : Value) (n : Nat) : (Instr.checkKey e (n + 1) k v).run P w = .ok () w := by
  rcases keyS_some h with ⟨_, hd⟩ | ⟨_, kk, hd⟩ <;> simp [Instr.checkKey, run_underlying hd]
theorem checkKey_ok {k : TypeId} {s : Bool} (h : keyS P k = some s) (e : Bool) (v : Value) : (Instr.checkKey e 10000 k v).run P w = .ok () w := checkKey_succ h e v 9999

theorem RpV.toW0 {c : AV} {v : Value} (h1 : ∀ l, c ≠ .tp l) (hr : RpV I M w c v) : RpW I M w c v := by
  cases c <;> simp only [RpV] at hr <;> first | exact hr | (exact absurd rfl (h1 _))

theorem ba_eq {a b : ByteArray} (h : (a == b) = true) : a = b := by
  obtain ⟨x⟩ := a
  obtain ⟨y⟩ := b
  have : (x == y) = true := h
  rw [eq_of_beq this]

theorem findNow_ok {d : TypeDesc} {c : AV} {v : Value} (hcv : (d = .string ∧ ∃ b, c = .st b ∧ v = .string b) ∨ ((∃ kk, d = .int kk) ∧ ∃ k n, c = .int k n ∧ v = .int k n)) :
    ∀ {es : List (AV × AV)} {ents : List MapEntry} (i : Nat) {r : Option (Nat × AV)}, All2 (fun (p : AV × AV) (e : MapEntry) => Rp I M0 w p.1 e.key ∧ RpW I M0 w p.2 e.val) es ents → findK c es i = some r →
      (r = none ∧ Instr.findNow d v ents i = some none) ∨ ∃ j av p ent, r = some (i + j, av) ∧ es[j]? = some p ∧ p.2 = av ∧ ents[j]? = some ent ∧ Instr.findNow d v ents i = some (some (i + j, ent.val)) ∧ RpW I M0 w av ent.val ∧ ent.key = v
  | [], ents, i, r, h2, hf => by
    cases h2
    simp only [findK, Option.some.injEq] at hf
    subst hf
    exact .inl ⟨rfl, rfl⟩
  | (ka, va) :: es, ents, i, r, h2, hf => by
    cases h2 with
    | @cons _ ent _ ents h3 h4 =>
      simp only [findK] at hf
      have hsame : ∀ b, keyEq c ka = some b → Instr.sameNow d v ent.key = some b ∧ (b = true → ent.key = v) := fun b hb => by
        have h5 := h3.1
        rcases hcv with ⟨rfl, x, rfl, rfl⟩ | ⟨⟨kk, rfl⟩, k, n, rfl, rfl⟩
        · cases ka <;> simp only [keyEq] at hb <;> first | (simp at hb; done) | skip
          rename_i y
          simp only [Option.some.injEq] at hb
          subst hb
          generalize hkey : ent.key = key at h5 ⊢
          cases h5
          refine ⟨by simp [Instr.sameNow], fun h => ?_⟩
          rw [ba_eq h]
        · cases ka <;> simp only [keyEq] at hb <;> first | (simp at hb; done) | skip
          rename_i k' n'
          simp only [Option.ite_none_right_eq_some, Option.some.injEq] at hb
          obtain ⟨rfl, rfl⟩ := hb
          generalize hkey : ent.key = key at h5 ⊢
          cases h5
          refine ⟨by simp [Instr.sameNow], fun h => by rw [eq_of_beq h]⟩
      split at hf
      · rename_i hb
        injection hf with hf; subst hf
        obtain ⟨s1, s2⟩ := hsame true hb
        exact .inr ⟨0, va, (ka, va), ent, rfl, rfl, rfl, rfl, by simp [Instr.findNow, s1], h3.2, s2 rfl⟩
      · rename_i hb
        obtain ⟨s1, _⟩ := hsame false hb
        rcases findNow_ok hcv (i + 1) h4 hf with ⟨h6, h7⟩ | ⟨j, av, p, en, h6, h7, h8, h9, h10, h11, h12⟩
        · exact .inl ⟨h6, by simp [Instr.findNow, s1, h7]⟩
        · refine .inr ⟨j + 1, av, p, en, by rw [h6]; congr 2; omega, by simpa using h7, h8, by simpa using h9, ?_, h11, h12⟩
          simp only [Instr.findNow, s1, h10]
          congr 3; omega
      · simp at hf

theorem findNow_none {d : TypeDesc} {c : AV} {v : Value} (hcv : (d = .string ∧ ∃ b, c = .st b ∧ v = .string b) ∨ ((∃ kk, d = .int kk) ∧ ∃ k n, c = .int k n ∧ v = .int k n)) :
    ∀ {ents : List MapEntry} (i : Nat), Instr.findNow d v ents i = some none → ∀ e ∈ ents, e.key ≠ v
  | [], _, _ => fun _ h => absurd h List.not_mem_nil
  | en :: ents, i, h => fun e he hk => by
    have hs : Instr.sameNow d v v = some true := by
      rcases hcv with ⟨rfl, x, _, rfl⟩ | ⟨⟨kk, rfl⟩, k, n, _, rfl⟩
      · have : (x == x) = true := by
          obtain ⟨x⟩ := x
          show (x == x) = true
          simp
        simp [Instr.sameNow, this]
      · simp [Instr.sameNow]
    simp only [Instr.findNow] at h
    rcases List.mem_cons.1 he with rfl | he
    · rw [hk, hs] at h
      simp at h
    · split at h
      · simp at h
      · exact findNow_none hcv (i + 1) h e he hk
      · simp at h

theorem findKey_run {k : TypeId} {d : TypeDesc} {v : Value} {ents : List MapEntry} {r : Option (Nat × Value)} (hd : P.underlying k = some d) (h : Instr.findNow d v ents 0 = some r) : (Instr.findKey k v ents).run P w = .ok r w := by
  simp [Instr.findKey, run_underlying hd, h]

theorem mp_row {b : Nat} {es : List (AV × AV)} (hs : SimH I M h nx w) (hk : blk h b = .mp es) : RpB I M w b (.mp es) := hk ▸ hs.blks b
theorem mp_inv {b rb : Nat} {v : Value} (hM : M b = some (some (rb, 0))) (hr : RpV I M w (.mp b) v) : v = .map (some rb) := by
  cases (show Rp I M w (.mp b) v from hr) with
  | mpD _ _ h => rw [hM] at h; simp at h
  | mp _ rb' h =>
    rw [hM] at h
    simp only [Option.some.injEq, Prod.mk.injEq, and_true] at h
    rw [h]

theorem allocM_ok (hs : SimH I M h nx w) :
    let M' : MU := fun b => if b = nx then some (some (w.heap.size, 0)) else M b
    Ev I M w I M' (w.alloc (.map #[] 0)) ∧ SimH I M' (ins h nx (.mp [])) (nx + 1) (w.alloc (.map #[] 0)) ∧ Quiet I M nx w I M' (w.alloc (.map #[] 0)) := by
  intro M'
  have hnx : M nx = none := hs.fr nx (Nat.le_refl _)
  have hev : Ev I M w I M' (w.alloc (.map #[] 0)) := by
    refine ⟨rfl, rfl, rfl, by simp, fun _ h => h, fun _ h => .inl h, fun b hb _ => RowKit.Below.heap_alloc _ _ _ hb, fun b hb => ?_, fun b x hx => ?_, fun rb ho => ?_, .of (Nat.le_refl _)⟩
    · simp only [World.shape?, RowKit.Below.heap_alloc _ _ _ hb]
    · have : b ≠ nx := by rintro rfl; rw [hnx] at hx; simp at hx
      exact .inl (by simp [M', this, hx])
    · obtain ⟨b, o, hb⟩ := ho
      by_cases e : b = nx
      · simp [M', e] at hb
        exact .inr (by omega)
      · simp [M', e] at hb
        exact .inl ⟨b, o, hb⟩
  refine ⟨hev, ⟨fun b => ?_, fun a b rb oa ob ha hb => ?_, fun rb ho => ?_, fun rb ho => ?_, fun b hb => ?_, fun b hb => ?_⟩, fun b hb => RowKit.Below.heap_alloc _ _ _ hb, fun b hb => by simp [M', Nat.ne_of_lt hb], fun _ h => .inl h⟩
  · rw [blk_ins]
    by_cases e : nx = b
    · subst e
      rw [if_pos rfl]
      exact ⟨w.heap.size, #[], 0, by simp [M'], by show (w.heap.push _)[_]? = _; simp, MapKept.stamped_empty 0, .nil⟩
    · rw [if_neg e]
      exact RpB.go hs hev (hs.blks b) (by simp [M', Ne.symm e]) fun rb o hM => RowKit.Below.heap_alloc _ _ _ (hs.bnd rb ⟨b, o, hM⟩)
  · by_cases ea : a = nx <;> by_cases eb : b = nx
    · rw [ea, eb]
    · simp [M', ea] at ha; simp [M', eb] at hb
      exact absurd (hs.bnd rb ⟨b, _, hb⟩) (by omega)
    · simp [M', ea] at ha; simp [M', eb] at hb
      exact absurd (hs.bnd rb ⟨a, _, ha⟩) (by omega)
    · simp [M', ea] at ha; simp [M', eb] at hb
      exact hs.inj a b rb oa ob ha hb
  · rcases hev.own rb ho with h1 | h1
    · exact hs.sep rb h1
    · intro hI; have := hs.ibd rb hI; omega
  · obtain ⟨b, o, hb⟩ := ho
    by_cases e : b = nx
    · simp [M', e] at hb; simp; omega
    · simp [M', e] at hb; have := hs.bnd rb ⟨b, o, hb⟩; simp; omega
  · have := hs.ibd b hb; simp; omega
  · have : b ≠ nx := by omega
    simp [M', this]; exact hs.fr b (by omega)

theorem setM_ok (hs : SimH I M h nx w) {b rb clock clock' : Nat} {ents ents' : Array MapEntry} {es' : List (AV × AV)} (hM : M b = some (some (rb, 0))) (hh : w.heap[rb]? = some (.map ents clock)) (hst : MapKept.Stamped ents' clock')
    (h2 : All2 (fun (p : AV × AV) (e : MapEntry) => Rp I M0 w p.1 e.key ∧ RpW I M0 w p.2 e.val) es' ents'.toList) :
    Ev I M w I M { w with heap := w.heap.setIfInBounds rb (.map ents' clock') } ∧ SimH I M (put h b (.mp es')) nx { w with heap := w.heap.setIfInBounds rb (.map ents' clock') } := by
  have hlt := hs.bnd rb ⟨b, 0, hM⟩
  have hne : ∀ k, k ≠ rb → (w.heap.setIfInBounds rb (.map ents' clock'))[k]? = w.heap[k]? := fun k hk => Array.getElem?_setIfInBounds_ne (Ne.symm hk)
  have hself : (w.heap.setIfInBounds rb (.map ents' clock'))[rb]? = some (.map ents' clock') := by simp [hlt]
  have hev : Ev I M w I M { w with heap := w.heap.setIfInBounds rb (.map ents' clock') } := by
    refine ⟨rfl, rfl, rfl, by simp, fun _ h => h, fun _ h => .inl h, fun k hk ho => hne k fun e => ho (e ▸ ⟨b, 0, hM⟩), fun k hk => ?_, fun _ _ h => .inl h, fun _ h => .inl h, .of (Nat.le_refl _)⟩
    unfold World.shape?
    by_cases e : k = rb
    · subst e
      simp only [hself, hh]
    · simp only [hne k e]
  refine ⟨hev, ⟨fun k => ?_, hs.inj, hs.sep, fun rb ho => by simpa using hs.bnd rb ho, fun b hb => by simpa using hs.ibd b hb, hs.fr⟩⟩
  rw [blk_put]
  by_cases e : b = k
  · subst e
    rw [if_pos rfl]
    exact ⟨rb, ents', clock', hM, hself, hst, h2.mono fun p e hp => ⟨hs.rp0 hev _ _ hp.1, RpW.mono' (hs.rp0 hev) hp.2⟩⟩
  · rw [if_neg e]
    refine RpB.go hs hev (hs.blks k) rfl fun r o hMk => hne r fun e2 => ?_
    subst e2
    exact e (hs.inj b k r 0 o hM hMk)

theorem ok_mm {t : TypeId} {e : Ef} (hs : SimH I M h nx w) (ho : o.op = .makeMap t none) (he : opA tm h nx (.mm t) = some e) : OpOk P I M nx w (execOp a.eval o) e true := by
  simp only [opA, Option.some.injEq] at he
  subst he
  obtain ⟨h1, h2, h3⟩ := allocM_ok hs
  refine ⟨_, .map (some w.heap.size), _, I, _, ?_, .val _, h1, h2, ?_, fun _ => h3⟩
  · simp [execOp, ho, Instr.makeMap]
  · exact .mp nx w.heap.size (by simp)

theorem zeroAV_ok {t : TypeId} {z : AV} (hz : zeroAV P t = some z) : ∃ v, (∀ w, (zeroValue t).run P w = .ok v w) ∧ ∀ I M w, RpV I M w z v := by
  unfold zeroAV at hz
  split at hz
  · rename_i i hi
    split at hz
    · rename_i v hv
      exact ⟨v, fun w => by simp [zeroValue, typeInfo, hi, hv], fun I M w => ofConst_ok hz⟩
    · simp at hz
  · simp at hz
theorem zeroAV_ntp {t : TypeId} {z : AV} (hz : zeroAV P t = some z) : ∀ l, z ≠ .tp l := by
  unfold zeroAV at hz
  split at hz
  · split at hz
    · rename_i i hi v hv
      unfold ofConst at hz
      split at hz
      · simp only [Option.map_eq_some_iff] at hz
        obtain ⟨l, _, rfl⟩ := hz
        simp
      · exact (ofScalar_shape hz).2
    · simp at hz
  · simp at hz

theorem pair_ok {ok b : Bool} {c : AV} {v : Value} (hr : RpW I M w c v) : RpV I M w (if ok then .tp [c, .bl b] else c) (if ok then .tuple #[v, .bool b] else v) := by
  cases ok with
  | false =>
    simp only [Bool.false_eq_true, if_false]
    cases c <;> simp only [RpV] <;> first | exact hr | (cases (show Rp I M w (.tp _) v from hr))
  | true => exact ⟨#[v, .bool b], rfl, .cons hr (.cons (.bl b) .nil)⟩

theorem ok_lk {t kt et : TypeId} {s ok : Bool} {z : AV} {x i : Operand} {x' i' : Opd} {e : Ef} (ht : SimT I M tm nt a.tmps w) (hs : SimH I M h nx w) (hx : ofOpd x = some x') (hi : ofOpd i = some i')
    (hd : P.underlying t = some (.map kt et)) (hks : keyS P kt = some s) (hz : zeroAV P et = some z) (ho : o.op = .lookup t x i ok) (he : opA tm h nx (.lk s z ok x' i') = some e) : OpOk P I M nx w (execOp a.eval o) e true := by
  obtain ⟨zv, hzr, hzv⟩ := zeroAV_ok hz
  have hzw : RpW I M w z zv := RpV.toW0 (zeroAV_ntp hz) (hzv I M w)
  simp only [opA, Option.ite_none_right_eq_some] at he
  obtain ⟨hkey, he⟩ := he
  obtain ⟨hk0, hkk⟩ := isKey_rp hkey (opd_ok ht hi)
  have hxv := opd_ok ht hx
  obtain ⟨dk, hdk, hcv⟩ : ∃ dk, P.underlying kt = some dk ∧ ((dk = .string ∧ ∃ b, rd tm i' = .st b ∧ a.eval i = .string b) ∨ ((∃ kk, dk = .int kk) ∧ ∃ k n, rd tm i' = .int k n ∧ a.eval i = .int k n)) := by
    rcases keyS_some hks with ⟨rfl, hdk⟩ | ⟨rfl, kk, hdk⟩ <;> rcases hkk with ⟨hs1, h1⟩ | ⟨hs1, h1⟩ <;> first | (cases hs1; done) | skip
    · exact ⟨_, hdk, .inl ⟨rfl, h1⟩⟩
    · exact ⟨_, hdk, .inr ⟨⟨kk, rfl⟩, h1⟩⟩
  have hck : ∀ em, (Instr.checkKey em 10000 kt (a.eval i)).run P w = .ok () w := fun em => checkKey_ok hks em _
  split at he
  · rename_i hrd
    rw [hrd] at hxv
    simp only [one, Option.some.injEq] at he
    subst he
    cases hnm : a.eval x with
    | map r =>
      rw [hnm] at hxv
      cases (show Rp I M w .nm (.map r) from hxv)
      refine OpOk.pure hs (v := if ok then .tuple #[zv, .bool false] else zv) ?_ (pair_ok hzw)
      have hfk := findKey_run (w := w) (v := a.eval i) (ents := []) (r := none) hdk rfl
      simp only [execOp, ho, Instr.lookup, hnm, Sem.run_bind, run_underlying hd, Result.andThen_ok, Sem.run_pure, hck]
      simp [hfk, hzr]
    | _ => rw [hnm] at hxv; cases (show Rp I M w .nm _ from hxv)
  · rename_i b hrd
    rw [hrd] at hxv
    split at he
    · rename_i es hk
      obtain ⟨rb, ents, ck, h1, h2, _, h3⟩ := mp_row hs hk
      have hm := mp_inv h1 hxv
      split at he
      · rename_i j0 av hf
        simp only [one, Option.some.injEq] at he
        subst he
        rcases findNow_ok hcv 0 h3 hf with ⟨hr, _⟩ | ⟨j, av', p, ent, hr, h7, h8, h9, h10, h11, h12⟩
        · simp at hr
        · simp only [Option.some.injEq, Prod.mk.injEq] at hr
          obtain ⟨_, rfl⟩ := hr
          refine OpOk.pure hs (v := if ok then .tuple #[ent.val, .bool true] else ent.val) ?_ (pair_ok h11.of0)
          have hfk := findKey_run (w := w) hdk h10
          simp only [execOp, ho, Instr.lookup, hm, Sem.run_bind, run_underlying hd, Result.andThen_ok, Sem.run_pure, MapKept.run_getObj_map h2, hck, hfk]
      · rename_i hf
        simp only [one, Option.some.injEq] at he
        subst he
        rcases findNow_ok hcv 0 h3 hf with ⟨_, h10⟩ | ⟨j, av', p, ent, hr, _⟩
        · refine OpOk.pure hs (v := if ok then .tuple #[zv, .bool false] else zv) ?_ (pair_ok hzw)
          have hfk := findKey_run (w := w) hdk h10
          simp only [execOp, ho, Instr.lookup, hm, Sem.run_bind, run_underlying hd, Result.andThen_ok, Sem.run_pure, MapKept.run_getObj_map h2, hck, hfk, hzr]
        · simp at hr
      · simp at he
    · simp at he
  · simp at he

theorem keys_of {kt : TypeId} {s : Bool} {c : AV} {v : Value} (hks : keyS P kt = some s) (hkey : isKey s c = true) (hr : RpV I M w c v) :
    ∃ dk, P.underlying kt = some dk ∧ ((dk = .string ∧ ∃ b, c = .st b ∧ v = .string b) ∨ ((∃ kk, dk = .int kk) ∧ ∃ k n, c = .int k n ∧ v = .int k n)) := by
  obtain ⟨_, hkk⟩ := isKey_rp hkey hr
  rcases keyS_some hks with ⟨rfl, hdk⟩ | ⟨rfl, kk, hdk⟩ <;> rcases hkk with ⟨hs1, h1⟩ | ⟨hs1, h1⟩ <;> first | (cases hs1; done) | skip
  · exact ⟨_, hdk, .inl ⟨rfl, h1⟩⟩
  · exact ⟨_, hdk, .inr ⟨⟨kk, rfl⟩, h1⟩⟩

theorem stays {kt : TypeDesc} {c : AV} {v : Value} (hcv : (kt = .string ∧ ∃ b, c = .st b ∧ v = .string b) ∨ ((∃ kk, kt = .int kk) ∧ ∃ k n, c = .int k n ∧ v = .int k n)) : (Instr.keyThatStays v v).run P w = .ok v w := by
  rcases hcv with ⟨_, b, _, rfl⟩ | ⟨_, k, n, _, rfl⟩
  · have : (b == b) = true := by
      obtain ⟨x⟩ := b
      show (x == x) = true
      simp
    simp [Instr.keyThatStays, Instr.sameBits, this]
  · simp [Instr.keyThatStays, Instr.sameBits]

theorem ok_mu {t kt et : TypeId} {s : Bool} {m k v : Operand} {m' k' v' : Opd} {e : Ef} (ht : SimT I M tm nt a.tmps w) (hs : SimH I M h nx w) (hm : ofOpd m = some m') (hk : ofOpd k = some k') (hv : ofOpd v = some v')
    (hd : P.underlying t = some (.map kt et)) (hks : keyS P kt = some s) (ho : o.op = .mapUpdate t m k v ∨ o.op = .insert t m k v) (he : opA tm h nx (.mu s m' k' v') = some e) : OpOk P I M nx w (execOp a.eval o) e false := by
  simp only [opA, Option.ite_none_right_eq_some, Bool.and_eq_true] at he
  obtain ⟨⟨hkey, hok⟩, he⟩ := he
  have hkr := opd_ok ht hk
  obtain ⟨hk0, _⟩ := isKey_rp hkey hkr
  obtain ⟨dk, hdk, hcv⟩ := keys_of hks hkey hkr
  have hv0 := ok0V_rp hok (opd_ok ht hv)
  have hmv := opd_ok ht hm
  have hex : execOp a.eval o = (do Instr.mapUpdate t (a.eval m) (a.eval k) (a.eval v); pure .skip) := by
    rcases ho with ho | ho <;> simp [execOp, ho]
  rw [hex]
  split at he
  · rename_i b hrd
    rw [hrd] at hmv
    split at he
    · rename_i es hkb
      obtain ⟨rb, ents, ck, h1, h2, hst, h3⟩ := mp_row hs hkb
      have hmm := mp_inv h1 hmv
      have hl := h3.length
      split at he
      · rename_i j0 av hf
        injection he with he; subst he
        rcases findNow_ok hcv 0 h3 hf with ⟨hr, _⟩ | ⟨j, av', p, ent, hr, h7, h8, h9, h10, h11, h12⟩
        · simp at hr
        · simp only [Option.some.injEq, Prod.mk.injEq, Nat.zero_add] at hr
          obtain ⟨rfl, rfl⟩ := hr
          rw [Nat.zero_add] at h10
          have hfk := findKey_run (w := w) hdk h10
          have hent : ents[j0]? = some ent := by simpa using h9
          obtain ⟨f1, f2⟩ := setM_ok (clock' := ck) (ents' := ents.modify j0 fun e => { e with key := a.eval k, val := a.eval v }) (es' := es.set j0 (rd tm k', rd tm v')) hs h1 h2 (MapKept.stamped_modify hst _ _ (fun _ _ => rfl) fun e0 _ he0 => by
            rw [hent] at he0
            injection he0 with he0
            subst he0
            exact h12.symm) (by
            refine All2.of_get (by simp [hl]) fun i p' e' hp' he' => ?_
            have he2 : (ents.modify j0 fun e => { e with key := a.eval k, val := a.eval v })[i]? = some e' := by rw [← Array.getElem?_toList]; exact he'
            rw [Array.getElem?_modify] at he2
            rw [List.getElem?_set] at hp'
            by_cases e : j0 = i
            · subst e
              rw [if_pos rfl] at hp' he2
              rw [hent] at he2
              simp only [Option.map_some, Option.some.injEq] at he2
              split at hp'
              · injection hp' with hp'
                subst hp' he2
                exact ⟨hk0, hv0⟩
              · simp at hp'
            · rw [if_neg e] at hp' he2
              obtain ⟨en, g1, g2⟩ := h3.get i p' hp'
              have : ents[i]? = some en := by simpa using g1
              rw [this] at he2
              simp only [Option.some.injEq] at he2
              subst he2
              exact g2)
          refine ⟨_, undef, _, I, M, ?_, .skip, f1, f2, Rp.ud _, by simp⟩
          have hst := stays (P := P) (w := w) hcv
          simp only [Instr.mapUpdate, hmm, Sem.run_bind, run_underlying hd, Result.andThen_ok, MapKept.run_getObj_map h2, checkKey_ok hks, hfk, hent, Option.map_some, Option.getD_some, h12, hst, MapKept.run_setObj_map _ h2, Sem.run_pure]
      · rename_i hf
        injection he with he; subst he
        rcases findNow_ok hcv 0 h3 hf with ⟨_, h10⟩ | ⟨j, av', p, ent, hr, _⟩
        · have hfk := findKey_run (w := w) hdk h10
          obtain ⟨f1, f2⟩ := setM_ok (clock' := ck + 1) (ents' := ents.push { key := a.eval k, val := a.eval v, born := ck }) (es' := es ++ [(rd tm k', rd tm v')]) hs h1 h2 (MapKept.stamped_push hst (findNow_none hcv 0 h10)) (by
            rw [Array.toList_push]
            exact h3.append (.cons ⟨hk0, hv0⟩ .nil))
          refine ⟨_, undef, _, I, M, ?_, .skip, f1, f2, Rp.ud _, by simp⟩
          simp only [Instr.mapUpdate, hmm, Sem.run_bind, run_underlying hd, Result.andThen_ok, MapKept.run_getObj_map h2, checkKey_ok hks, hfk, MapKept.run_setObj_map _ h2, Sem.run_pure]
        · simp at hr
      · simp at he
    · simp at he
  · simp at he
theorem All2.eraseIdx {α β : Type} {R : α → β → Prop} {as : List α} {bs : List β} (h : All2 R as bs) : ∀ i : Nat, All2 R (as.eraseIdx i) (bs.eraseIdx i) := by
  induction h with
  | nil => intro i; exact .nil
  | cons h1 h2 ih =>
    intro i
    cases i with
    | zero => exact h2
    | succ i => exact .cons h1 (ih i)
theorem ok_de {t kt et : TypeId} {s : Bool} {c : Call} {m k : Operand} {m' k' : Opd} {e : Ef} (ht : SimT I M tm nt a.tmps w) (hs : SimH I M h nx w) (hm : ofOpd m = some m') (hk : ofOpd k = some k')
    (hc1 : c.callee = .builtin .delete) (hc2 : c.args = #[m, k]) (hc3 : c.argTypes[0]? = some t) (hd : P.underlying t = some (.map kt et)) (hks : keyS P kt = some s) (ho : o.op = .call c) (he : opA tm h nx (.de s m' k') = some e) : OpOk P I M nx w (execOp a.eval o) e false := by
  simp only [opA, Option.ite_none_right_eq_some] at he
  obtain ⟨hkey, he⟩ := he
  have hkr := opd_ok ht hk
  obtain ⟨dk, hdk, hcv⟩ := keys_of hks hkey hkr
  have hmv := opd_ok ht hm
  have hex : execOp a.eval o = (do pure (.value (← Builtin.delete_ c.argTypes o.type #[a.eval m, a.eval k]))) := by
    simp only [execOp, ho, resolve, hc1, hc2]
    simp [invoke, builtin]
  rw [hex]
  split at he
  · rename_i b hrd
    rw [hrd] at hmv
    split at he
    · rename_i es hkb
      obtain ⟨rb, ents, ck, h1, h2, hst, h3⟩ := mp_row hs hkb
      have hmm := mp_inv h1 hmv
      have hlt : rb < w.heap.size := hs.bnd rb ⟨b, 0, h1⟩
      split at he
      · rename_i j0 av hf
        injection he with he; subst he
        rcases findNow_ok hcv 0 h3 hf with ⟨hr, _⟩ | ⟨j, av', p, ent, hr, h7, h8, h9, h10, h11, h12⟩
        · simp at hr
        · simp only [Option.some.injEq, Prod.mk.injEq, Nat.zero_add] at hr
          obtain ⟨rfl, rfl⟩ := hr
          rw [Nat.zero_add] at h10
          have hfk := findKey_run (w := w) hdk h10
          obtain ⟨f1, f2⟩ := setM_ok (clock' := ck) (ents' := ents.eraseIdxIfInBounds j0) (es' := es.eraseIdx j0) hs h1 h2 (MapKept.stamped_erase hst j0) (by
            have hj : j0 < ents.size := by simpa using (List.getElem?_eq_some_iff.1 h9).1
            have : (ents.eraseIdxIfInBounds j0).toList = ents.toList.eraseIdx j0 := by
              unfold Array.eraseIdxIfInBounds
              rw [dif_pos hj, Array.toList_eraseIdx]
            rw [this]
            exact h3.eraseIdx j0)
          refine ⟨_, .tuple #[], _, I, M, ?_, .val _, f1, f2, ⟨#[], rfl, .nil⟩, by simp⟩
          simp [Builtin.delete_, hc3, hmm, run_underlying hd, MapKept.run_getObj_map h2, checkKey_ok hks, hfk, MapKept.run_setObj_map _ h2]
      · rename_i hf
        simp only [one, Option.some.injEq] at he
        subst he
        rcases findNow_ok hcv 0 h3 hf with ⟨_, h10⟩ | ⟨j, av', p, ent, hr, _⟩
        · have hfk := findKey_run (w := w) hdk h10
          have hsame : w.heap.setIfInBounds rb (.map ents ck) = w.heap := by
            apply Array.ext_getElem?
            intro i
            rw [Array.getElem?_setIfInBounds]
            split
            · rename_i e
              subst e
              rw [h2]
            · rfl
          refine ⟨_, .tuple #[], w, I, M, ?_, .val _, Ev.refl I M w, hs, ⟨#[], rfl, .nil⟩, by simp⟩
          simp [Builtin.delete_, hc3, hmm, run_underlying hd, MapKept.run_getObj_map h2, checkKey_ok hks, hfk, MapKept.run_setObj_map _ h2, hsame]
        · simp at hr
      · simp at he
    · simp at he
  · simp at he
end
end Go.Am
set_option linter.unusedSimpArgs false
set_option linter.unusedVariables false
namespace Go.Am
section
variable {P : Program} {I : Nat → Prop} {M : MU} {w : World} {h : List (Nat × BK)} {nx nt : Nat} {tm : List (Nat × AV)} {a : Act} {o : Oper}

theorem eqCs_append : ∀ (k1 k2 : List Nat) (xs ys : List AV), xs.length = (k1 ++ k2).length → ys.length = (k1 ++ k2).length →
    eqCs (k1 ++ k2) xs ys = match eqCs k1 (xs.take k1.length) (ys.take k1.length) with
      | some true => eqCs k2 (xs.drop k1.length) (ys.drop k1.length)
      | some false => some false
      | none => none
  | [], k2, xs, ys, _, _ => by simp [eqCs]
  | k :: k1, k2, [], ys, h1, _ => by simp at h1
  | k :: k1, k2, x :: xs, [], _, h2 => by simp at h2
  | k :: k1, k2, x :: xs, y :: ys, h1, h2 => by
    have ih := eqCs_append k1 k2 xs ys (by simpa using h1) (by simpa using h2)
    simp only [List.cons_append, List.length_cons, List.take_succ_cons, List.drop_succ_cons, eqCs]
    cases eqC k x y with
    | none => rfl
    | some b => cases b <;> simp [ih]

def ValT (I : Nat → Prop) (M : MU) (w : World) (P : Program) (t : TypeId) (cs : List AV) (u : Value) : Prop :=
  (∃ fs us, P.underlying t = some (.struct fs) ∧ u = .agg us ∧ All2 (Rp I M w) cs us.toList) ∨ ((∀ fs, P.underlying t ≠ some (.struct fs)) ∧ ∃ c, cs = [c] ∧ Rp I M w c u)

theorem scal_eq {d m : Nat} {t : TypeId} {k : Nat} {cs cs' : List AV} {u u' : Value} {b : Bool} (hk : (k = 0 ∧ P.underlying t = some .bool) ∨ (k = 1 ∧ ∃ kk, P.underlying t = some (.int kk)) ∨ (k = 2 ∧ P.underlying t = some .string))
    (h1 : ValT I M w P t cs u) (h2 : ValT I M w P t cs' u') (he : eqCs [k] cs cs' = some b) : (Op.equalIn (d + 1) t u u').run P w = .ok b w := by
  rcases h1 with ⟨fs, us, hu, _⟩ | ⟨_, c, rfl, h1⟩
  · rcases hk with ⟨_, hk⟩ | ⟨_, kk, hk⟩ | ⟨_, hk⟩ <;> rw [hk] at hu <;> simp at hu
  rcases h2 with ⟨fs, us, hu, _⟩ | ⟨_, c', rfl, h2⟩
  · rcases hk with ⟨_, hk⟩ | ⟨_, kk, hk⟩ | ⟨_, hk⟩ <;> rw [hk] at hu <;> simp at hu
  have hb : eqC k c c' = some b := by
    simp only [eqCs] at he
    split at he
    · rename_i hb; injection he with he; subst he; exact hb
    · rename_i hb; injection he with he; subst he; exact hb
    · simp at he
  rcases hk with ⟨rfl, hk⟩ | ⟨rfl, kk, hk⟩ | ⟨rfl, hk⟩ <;> cases c <;> cases c' <;> simp only [eqC] at hb <;> first | (simp at hb; done) | skip
  · cases h1; cases h2
    injection hb with hb; subst hb
    exact run_equalIn_bool' w d t _ _ hk
  · cases h1; cases h2
    simp only [Option.ite_none_right_eq_some, Option.some.injEq] at hb
    obtain ⟨rfl, rfl⟩ := hb
    exact run_equalIn_int w d t _ _ _ _ hk
  · cases h1; cases h2
    injection hb with hb; subst hb
    exact run_equalIn_string w d t _ _ hk

theorem part_val {t : TypeId} {cs : List AV} {vs : Array Value} {off n : Nat} (h2 : All2 (Rp I M w) cs vs.toList) (hn : P.cellsOf t = n) (hi : (P.info? t).isSome = true)
    (hsh : (∃ fs, P.underlying t = some (.struct fs)) ∨ (n = 1 ∧ (P.underlying t = some .bool ∨ (∃ k, P.underlying t = some (.int k)) ∨ P.underlying t = some .string))) (hl : off + n ≤ cs.length) :
    ∃ u, (part t vs off).run P w = .ok u w ∧ ValT I M w P t ((cs.drop off).take n) u := by
  rcases hsh with ⟨fs, hfs⟩ | ⟨rfl, hsc⟩
  · have hs : shapeT P t = some (some (P.cellsOf t)) := by simp [shapeT, isAggT, hfs]
    obtain ⟨u, hu, hr⟩ := part_ok hs h2 (off := off) (c := .ag ((cs.drop off).take n)) (by simp [valOf, hn]) (.inl rfl)
    obtain ⟨us, rfl, h3⟩ := hr
    exact ⟨_, hu, .inl ⟨fs, us, hfs, rfl, h3⟩⟩
  · have hs : shapeT P t = some none := by rcases hsc with h | ⟨k, h⟩ | h <;> simp [shapeT, isAggT, h]
    have hlen : ((cs.drop off).take 1).length = 1 := by simp; omega
    match hcs : (cs.drop off).take 1, hlen with
    | [c], _ =>
      have hc1 : ∀ l, c ≠ .ag l := by
        rintro l rfl
        have h3 := (h2.drop off).take 1
        rw [hcs] at h3
        generalize (vs.toList.drop off).take 1 = q at h3
        cases h3 with | cons h4 _ => cases h4
      have hc2 : ∀ l, c ≠ .tp l := by
        rintro l rfl
        have h3 := (h2.drop off).take 1
        rw [hcs] at h3
        generalize (vs.toList.drop off).take 1 = q at h3
        cases h3 with | cons h4 _ => cases h4
      obtain ⟨u, hu, hr⟩ := part_ok hs h2 (off := off) (c := c) (by simp [valOf, hcs]) (.inr rfl)
      exact ⟨u, hu, .inr ⟨fun fs hfs => by rcases hsc with h | ⟨k, h⟩ | h <;> rw [h] at hfs <;> simp at hfs, c, rfl, hr.scalar_inv hc1 hc2⟩⟩

theorem flatE_shape {d : Nat} {t : TypeId} {ks : List Nat} (h : flatE P d t = some ks) :
    (∃ fs, P.underlying t = some (.struct fs)) ∨ (ks.length = 1 ∧ (P.underlying t = some .bool ∨ (∃ k, P.underlying t = some (.int k)) ∨ P.underlying t = some .string)) := by
  cases d with
  | zero => simp [flatE] at h
  | succ d =>
    unfold flatE at h
    split at h
    · rename_i hu; injection h with h; subst h; exact .inr ⟨rfl, .inl hu⟩
    · rename_i k hu; injection h with h; subst h; exact .inr ⟨rfl, .inr (.inl ⟨k, hu⟩)⟩
    · rename_i hu; injection h with h; subst h; exact .inr ⟨rfl, .inr (.inr hu)⟩
    · rename_i fs hu; exact .inl ⟨fs, hu⟩
    · simp at h

theorem flat_eq : ∀ (d : Nat) (m : Nat) (t : TypeId) (ks : List Nat) (cs cs' : List AV) (u u' : Value) (b : Bool), flatE P d t = some ks → cs.length = ks.length → cs'.length = ks.length → ValT I M w P t cs u → ValT I M w P t cs' u' →
    eqCs ks cs cs' = some b → (Op.equalIn (d + m) t u u').run P w = .ok b w
  | 0, m, t, ks, cs, cs', u, u', b, h, _, _, _, _, _ => by simp [flatE] at h
  | d + 1, m, t, ks, cs, cs', u, u', b, h, hl, hl', h1, h2, he => by
    rw [show d + 1 + m = d + m + 1 by omega]
    unfold flatE at h
    split at h
    · rename_i hu; injection h with h; subst h; exact scal_eq (m := m) (.inl ⟨rfl, hu⟩) h1 h2 he
    · rename_i k hu; injection h with h; subst h; exact scal_eq (m := m) (.inr (.inl ⟨rfl, k, hu⟩)) h1 h2 he
    · rename_i hu; injection h with h; subst h; exact scal_eq (m := m) (.inr (.inr ⟨rfl, hu⟩)) h1 h2 he
    · rename_i fs hu
      simp only [Option.ite_none_left_eq_some] at h
      obtain ⟨hst, h⟩ := h
      have inv : ∀ {cs u}, ValT I M w P t cs u → ∃ us : Array Value, u = .agg us ∧ All2 (Rp I M w) cs us.toList := fun hv => by
        rcases hv with ⟨_, us, _, h3, h4⟩ | ⟨hn, _⟩
        · exact ⟨us, h3, h4⟩
        · exact absurd hu (hn fs)
      obtain ⟨us, rfl, g1⟩ := inv h1
      obtain ⟨us', rfl, g2⟩ := inv h2
      clear h1 h2
      have h1 := g1
      have h2 := g2
      have hfo : P.fieldsOf t = fs := by simp [Program.fieldsOf, hu]
      rw [run_equalIn_agg w (d + m) t us us' (by rw [hfo]; exact hu) (by simpa using hst), hfo]
      have key : ∀ (fl : List Field) (k : Nat) (kl : List Nat), flatG P (flatE P d) fl k = some kl → cs.length = k + kl.length → cs'.length = k + kl.length → ∀ b, eqCs kl (cs.drop k) (cs'.drop k) = some b → (Op.eqFields (d + m) us us' fl).run P w = .ok b w := by
        intro fl
        induction fl with
        | nil =>
          intro k kl hg hc1 hc2 b hb
          simp only [flatG, Option.some.injEq] at hg
          subst hg
          have e1 : cs.drop k = [] := by apply List.drop_eq_nil_of_le; simp at hc1; omega
          have e2 : cs'.drop k = [] := by apply List.drop_eq_nil_of_le; simp at hc2; omega
          rw [e1, e2] at hb
          simp only [eqCs, Option.some.injEq] at hb
          subst hb
          simp [Op.eqFields]
        | cons f fl ih =>
          intro k kl hg hc1 hc2 b hb
          simp only [flatG, Option.ite_none_left_eq_some, not_or] at hg
          obtain ⟨⟨hname, hoff⟩, hg⟩ := hg
          have hoff : f.offset = k := Classical.byContradiction hoff
          split at hg
          · rename_i kf hkf
            simp only [Option.ite_none_right_eq_some] at hg
            obtain ⟨⟨hcells, hinfo⟩, hg⟩ := hg
            split at hg
            · rename_i kr hkr
              injection hg with hg
              subst hg
              rw [List.length_append] at hc1 hc2
              obtain ⟨x, hx, hvx⟩ := part_val (off := k) h1 hcells hinfo (flatE_shape hkf) (by omega)
              obtain ⟨y, hy, hvy⟩ := part_val (off := k) h2 hcells hinfo (flatE_shape hkf) (by omega)
              rw [eqCs_append kf kr _ _ (by simp; omega) (by simp; omega)] at hb
              have hname' : f.name ≠ "_" := hname
              simp only [Op.eqFields, hname', ne_eq, not_false_eq_true, if_true, Sem.run_bind, hoff, hx, hy, Result.andThen_ok]
              cases hq : eqCs kf ((cs.drop k).take kf.length) ((cs'.drop k).take kf.length) with
              | none => rw [hq] at hb; simp at hb
              | some q =>
                rw [hq] at hb
                have hrun := flat_eq d m f.type kf _ _ x y q hkf (by simp; omega) (by simp; omega) hvx hvy hq
                rw [hrun]
                cases q with
                | false =>
                  simp only [Option.some.injEq] at hb
                  subst hb
                  simp
                | true =>
                  simp only [] at hb
                  have := ih (k + kf.length) kr hkr (by omega) (by omega) b (by rw [List.drop_drop, List.drop_drop] at hb; exact hb)
                  simpa using this
            · simp at hg
          · simp at hg
      exact key fs.toList 0 ks h (by omega) (by omega) b (by simpa using he)
    · simp at h

theorem ok_ea {neg : Bool} {t t2 : TypeId} {ks : List Nat} {x y : Operand} {x' y' : Opd} {e : Ef} (ht : SimT I M tm nt a.tmps w) (hs : SimH I M h nx w) (hx : ofOpd x = some x') (hy : ofOpd y = some y')
    (hk : eqKs P t = some ks) (ho : o.op = .binOp (if neg then .neq else .eql) t x y t2) (he : opA tm h nx (.ea neg ks x' y') = some e) : OpOk P I M nx w (execOp a.eval o) e true := by
  simp only [opA] at he
  have hrx := opd_ok ht hx
  have hry := opd_ok ht hy
  split at he
  · rename_i cs cs' hx1 hy1
    rw [hx1] at hrx
    rw [hy1] at hry
    obtain ⟨us, hu, h2⟩ := hrx
    obtain ⟨us', hu', h2'⟩ := hry
    simp only [Option.ite_none_right_eq_some, Option.bind_eq_some_iff, one, Option.some.injEq] at he
    obtain ⟨⟨hl, hl'⟩, b, hb, rfl⟩ := he
    simp only [eqKs, Option.ite_none_left_eq_some] at hk
    obtain ⟨hgd, hk⟩ := hk
    split at hk
    · rename_i fs hfs
      have hrun := flat_eq (P := P) (I := I) (M := M) (w := w) 20 9980 t ks cs cs' (.agg us) (.agg us') b hk hl hl' (.inl ⟨fs, us, hfs, rfl, h2⟩) (.inl ⟨fs, us', hfs, rfl, h2'⟩) hb
      have hrun' : (Op.equalIn 10000 t (.agg us) (.agg us')).run P w = .ok b w := hrun
      have hg : ∀ op, (eqGuard op t x y (.agg us) (.agg us')).run P w = .ok () w := fun op => run_eqGuard_agg w op t x y us us' (by simpa using hgd)
      refine OpOk.pure hs (v := .bool (if neg then !b else b)) ?_ (.bl _)
      cases neg with
      | false => simp only [execOp, ho, Bool.false_eq_true, if_false, hu, hu', Sem.run_bind, hg, Result.andThen_ok, run_eql_struct, hrun', Sem.run_pure]
      | true => simp only [execOp, ho, if_true, hu, hu', Sem.run_bind, hg, Result.andThen_ok, run_neq_struct, hrun', Sem.run_pure]
    · simp at hk
  · simp at he
end
end Go.Am
set_option linter.unusedSimpArgs false
set_option linter.unusedVariables false
namespace Go.Am
section
variable {P : Program} {I : Nat → Prop} {M : MU} {w : World} {h : List (Nat × BK)} {nx nt : Nat} {tm : List (Nat × AV)} {a : Act} {o : Oper}

theorem opds_ok0 (ht : SimT I M tm nt a.tmps w) : ∀ {xs : List Operand} {ys : List Opd}, All2 (fun x y => ofOpd x = some y) xs ys → All2 (RpV I M w) (ys.map (rd tm)) (xs.map a.eval)
  | _, _, .nil => .nil
  | _, _, .cons h1 h2 => .cons (opd_ok ht h1) (opds_ok0 ht h2)

theorem st_inv2 {s : ByteArray} {v : Value} (h : RpV I M w (.st s) v) : v = .string s := st_inv h
theorem int_inv2 {k : IntKind} {n : Int} {v : Value} (h : RpV I M w (.int k n) v) : v = .int k n := by
  have h' : Rp I M w (.int k n) v := h
  cases h'; rfl

theorem fold_maxI (k : IntKind) : ∀ {l : List AV} {vs : List Value} {m r : Int}, All2 (RpV I M w) l vs → l.foldlM maxI m = some r → (vs.foldlM Builtin.max2 (.int k m)).run P w = .ok (.int k r) w
  | _, _, m, r, .nil, h => by simp at h; subst h; rfl
  | _, _, m, r, @All2.cons _ _ _ c v cs vs h1 h2, h => by
    simp only [List.foldlM_cons, Option.bind_eq_bind, Option.bind_eq_some_iff] at h
    obtain ⟨m', hm, h⟩ := h
    cases c <;> simp only [maxI] at hm <;> first | (cases hm; done) | skip
    rename_i k' b
    injection hm with hm
    subst hm
    have := int_inv2 h1
    subst this
    simp only [List.foldlM_cons, Sem.run_bind, Builtin.max2, Sem.run_pure, Result.andThen_ok]
    exact fold_maxI k h2 h
theorem fold_minI (k : IntKind) : ∀ {l : List AV} {vs : List Value} {m r : Int}, All2 (RpV I M w) l vs → l.foldlM minI m = some r → (vs.foldlM Builtin.min2 (.int k m)).run P w = .ok (.int k r) w
  | _, _, m, r, .nil, h => by simp at h; subst h; rfl
  | _, _, m, r, @All2.cons _ _ _ c v cs vs h1 h2, h => by
    simp only [List.foldlM_cons, Option.bind_eq_bind, Option.bind_eq_some_iff] at h
    obtain ⟨m', hm, h⟩ := h
    cases c <;> simp only [minI] at hm <;> first | (cases hm; done) | skip
    rename_i k' b
    injection hm with hm
    subst hm
    have := int_inv2 h1
    subst this
    simp only [List.foldlM_cons, Sem.run_bind, Builtin.min2, Sem.run_pure, Result.andThen_ok]
    exact fold_minI k h2 h
theorem fold_maxS : ∀ {l : List AV} {vs : List Value} {m r : ByteArray}, All2 (RpV I M w) l vs → l.foldlM maxS m = some r → (vs.foldlM Builtin.max2 (.string m)).run P w = .ok (.string r) w
  | _, _, m, r, .nil, h => by simp at h; subst h; rfl
  | _, _, m, r, @All2.cons _ _ _ c v cs vs h1 h2, h => by
    simp only [List.foldlM_cons, Option.bind_eq_bind, Option.bind_eq_some_iff] at h
    obtain ⟨m', hm, h⟩ := h
    cases c <;> simp only [maxS] at hm <;> first | (cases hm; done) | skip
    rename_i b
    injection hm with hm
    subst hm
    have := st_inv2 h1
    subst this
    simp only [List.foldlM_cons, Sem.run_bind, Builtin.max2, Op.stringOp, asBool, Sem.run_pure, Result.andThen_ok]
    exact fold_maxS h2 h
theorem fold_minS : ∀ {l : List AV} {vs : List Value} {m r : ByteArray}, All2 (RpV I M w) l vs → l.foldlM minS m = some r → (vs.foldlM Builtin.min2 (.string m)).run P w = .ok (.string r) w
  | _, _, m, r, .nil, h => by simp at h; subst h; rfl
  | _, _, m, r, @All2.cons _ _ _ c v cs vs h1 h2, h => by
    simp only [List.foldlM_cons, Option.bind_eq_bind, Option.bind_eq_some_iff] at h
    obtain ⟨m', hm, h⟩ := h
    cases c <;> simp only [minS] at hm <;> first | (cases hm; done) | skip
    rename_i b
    injection hm with hm
    subst hm
    have := st_inv2 h1
    subst this
    simp only [List.foldlM_cons, Sem.run_bind, Builtin.min2, Op.stringOp, asBool, Sem.run_pure, Result.andThen_ok]
    exact fold_minS h2 h

theorem ok_mx {c : Call} {as : List Opd} {e : Ef} (ht : SimT I M tm nt a.tmps w) (hs : SimH I M h nx w) (has : c.args.toList.mapM ofOpd = some as) (hc1 : c.callee = .builtin .max)
    (ho : o.op = .call c) (he : opA tm h nx (.mx as) = some e) : OpOk P I M nx w (execOp a.eval o) e true := by
  have h2 := opds_ok0 ht (mapM_all2 has)
  have hrun : ∀ v, (Builtin.max_ c.argTypes o.type (c.args.map a.eval)).run P w = .ok v w → (execOp a.eval o).run P w = .ok (.value v) w := fun v hv => by
    simp only [execOp, ho, resolve, hc1, Sem.run_bind, Sem.run_pure, Result.andThen_ok, invoke, builtin]
    simp [hv]
  simp only [opA] at he
  split at he
  · rename_i k m l hl
    rw [hl] at h2
    simp only [Option.bind_eq_some_iff, one, Option.some.injEq] at he
    obtain ⟨r, hr, rfl⟩ := he
    generalize hv : c.args.toList.map a.eval = vs at h2
    cases h2 with
    | cons h3 h4 =>
      have := int_inv2 h3
      subst this
      refine OpOk.pure hs (hrun (.int k r) ?_) (.int _ _)
      simp only [Builtin.max_, Array.toList_map, hv]
      exact fold_maxI k h4 hr
  · rename_i m l hl
    rw [hl] at h2
    simp only [Option.bind_eq_some_iff, one, Option.some.injEq] at he
    obtain ⟨r, hr, rfl⟩ := he
    generalize hv : c.args.toList.map a.eval = vs at h2
    cases h2 with
    | cons h3 h4 =>
      have := st_inv2 h3
      subst this
      refine OpOk.pure hs (hrun (.string r) ?_) (.st _)
      simp only [Builtin.max_, Array.toList_map, hv]
      exact fold_maxS h4 hr
  · simp at he
theorem ok_mn {c : Call} {as : List Opd} {e : Ef} (ht : SimT I M tm nt a.tmps w) (hs : SimH I M h nx w) (has : c.args.toList.mapM ofOpd = some as) (hc1 : c.callee = .builtin .min)
    (ho : o.op = .call c) (he : opA tm h nx (.mn as) = some e) : OpOk P I M nx w (execOp a.eval o) e true := by
  have h2 := opds_ok0 ht (mapM_all2 has)
  have hrun : ∀ v, (Builtin.min_ c.argTypes o.type (c.args.map a.eval)).run P w = .ok v w → (execOp a.eval o).run P w = .ok (.value v) w := fun v hv => by
    simp only [execOp, ho, resolve, hc1, Sem.run_bind, Sem.run_pure, Result.andThen_ok, invoke, builtin]
    simp [hv]
  simp only [opA] at he
  split at he
  · rename_i k m l hl
    rw [hl] at h2
    simp only [Option.bind_eq_some_iff, one, Option.some.injEq] at he
    obtain ⟨r, hr, rfl⟩ := he
    generalize hv : c.args.toList.map a.eval = vs at h2
    cases h2 with
    | cons h3 h4 =>
      have := int_inv2 h3
      subst this
      refine OpOk.pure hs (hrun (.int k r) ?_) (.int _ _)
      simp only [Builtin.min_, Array.toList_map, hv]
      exact fold_minI k h4 hr
  · rename_i m l hl
    rw [hl] at h2
    simp only [Option.bind_eq_some_iff, one, Option.some.injEq] at he
    obtain ⟨r, hr, rfl⟩ := he
    generalize hv : c.args.toList.map a.eval = vs at h2
    cases h2 with
    | cons h3 h4 =>
      have := st_inv2 h3
      subst this
      refine OpOk.pure hs (hrun (.string r) ?_) (.st _)
      simp only [Builtin.min_, Array.toList_map, hv]
      exact fold_minS h4 hr
  · simp at he
end
end Go.Am
set_option linter.unusedSimpArgs false
set_option linter.unusedVariables false
namespace Go.Am
section
variable {P : Program} {I : Nat → Prop} {M : MU} {w : World} {h : List (Nat × BK)} {nx nt : Nat} {tm : List (Nat × AV)} {a : Act} {o : Oper}

theorem refreeze {w' : World} (hs : SimH I M h nx w) {rb : Nat} {arr : Array Value} {t : TypeId} {fr fr' : Nat × Nat} (hown : owned M rb) (hh : w.heap[rb]? = some (.cells arr t fr)) (hh' : w'.heap[rb]? = some (.cells arr t fr'))
    (hfr : fr'.2 ≤ fr'.1 ∨ arr.size ≤ fr'.1) (ho : ∀ j, j ≠ rb → w'.heap[j]? = w.heap[j]?) (h1 : w'.os = w.os) (h2 : w'.tape = w.tape) (h3 : w'.output = w.output) (hsz : w'.heap.size = w.heap.size) (hdr : DLe w w' := by exact DLe.of (Nat.le_refl _)) :
    Ev I M w I M w' ∧ SimH I M h nx w' := by
  have hev : Ev I M w I M w' := ⟨h1, h2, h3, by omega, fun _ h => h, fun _ h => .inl h, fun b hb hno => ho b (fun e => hno (e ▸ hown)), fun b hb => by
    by_cases e : b = rb
    · subst e; simp [World.shape?, hh, hh']
    · simp [World.shape?, ho b e], fun _ _ h => .inl h, fun _ h => .inl h, hdr⟩
  refine ⟨hev, ⟨fun b => ?_, hs.inj, hs.sep, fun rb ho => by rw [hsz]; exact hs.bnd rb ho, fun b hb => by rw [hsz]; exact hs.ibd b hb, hs.fr⟩⟩
  have hb := hs.blks b
  cases hk : blk h b with
  | dd => trivial
  | rw v sz es t0 =>
    rw [hk] at hb
    obtain ⟨rb0, oo, arr0, t1, lo, hi, g1, g2, g3, g4, g5, g6⟩ := hb
    by_cases e : rb0 = rb
    · subst e
      rw [hh] at g2
      injection g2 with g2
      injection g2 with e1 e2 e3
      subst e1 e2
      refine ⟨rb0, oo, arr, t, fr'.1, fr'.2, g1, by simpa using hh', hfr, g4, g5, fun i e j c q1 q2 => ?_⟩
      obtain ⟨u, hu, hr⟩ := g6 i e j c q1 q2
      exact ⟨u, hu, hs.rpM hev v c u hr⟩
    · refine ⟨rb0, oo, arr0, t1, lo, hi, g1, (ho rb0 e).trans g2, g3, g4, g5, fun i e j c q1 q2 => ?_⟩
      obtain ⟨u, hu, hr⟩ := g6 i e j c q1 q2
      exact ⟨u, hu, hs.rpM hev v c u hr⟩
  | mp es =>
    rw [hk] at hb
    obtain ⟨rb0, ents, ck, g1, g2, gst, g3⟩ := hb
    have e : rb0 ≠ rb := by rintro rfl; rw [hh] at g2; simp at g2
    exact ⟨rb0, ents, ck, g1, (ho rb0 e).trans g2, gst, g3.mono fun p q hp => ⟨hs.rp0 hev _ _ hp.1, RpW.mono' (hs.rp0 hev) hp.2⟩⟩

theorem bytes_flat : ∀ l : List UInt8, (l.map fun c => [AV.int .u8 c.toNat]).flatten = l.map fun c => AV.int .u8 c.toNat
  | [] => rfl
  | c :: l => by simp [bytes_flat l]

theorem row_ok2 (hs : SimH I M h nx w) {sz : Nat} {es : List (List AV)} (t t' : TypeId) {arr : Array Value} {us rest : List Value} (ha : arr.toList = us ++ rest) (hsz : ∀ e ∈ es, e.length = sz)
    (h2 : All2 (Rp I M0 w) es.flatten us) (cap : Nat) (hlc : es.length ≤ cap) (hcap : cap * sz ≤ arr.size) :
    let M' : MU := fun b => if b = nx then some (some (w.heap.size, 0)) else M b
    Ev I M w I M' (w.alloc (.cells arr t')) ∧ SimH I M' (ins h nx (.rw false sz es t)) (nx + 1) (w.alloc (.cells arr t')) ∧
      RpV I M' (w.alloc (.cells arr t')) (.sl sz nx 0 es.length) (.slice (some ⟨w.heap.size, 0, none⟩) es.length cap) ∧ Quiet I M nx w I M' (w.alloc (.cells arr t')) := by
  intro M'
  have := alloc_ok hs false sz es t t' arr (fun h => by simp at h) hsz (fun i e j c hi hj => by
    obtain ⟨u, hu, hr⟩ := h2.get _ c (flat_get hsz i e j c hi hj)
    refine ⟨u, ?_, hr⟩
    have hl := (List.getElem?_eq_some_iff.1 hu).1
    rw [← Array.getElem?_toList, ha, List.getElem?_append_left hl]
    exact hu)
  refine ⟨this.1, this.2.1, ?_, this.2.2⟩
  have := Rp.sl (I := I) (M := fun b => if b = nx then some (some (w.heap.size, 0)) else M b) (w := w.alloc (.cells arr t')) sz nx 0 es.length w.heap.size 0 cap ⟨w.heap.size, 0, none⟩ t' arr.size (by simp) hlc
    (fun _ => by simp) (shape_of_arr (fr := (0, 0)) (by show (w.heap.push _)[_]? = _; simp)) (by simpa using hcap)
  simpa [RpV, RpW] using this

theorem ok_cs {s d e0 : TypeId} {u : TypeDesc} {x : Operand} {x' : Opd} {e : Ef} (ht : SimT I M tm nt a.tmps w) (hs : SimH I M h nx w) (hx : ofOpd x = some x')
    (hs' : P.underlying s = some u) (hd : P.underlying d = some (.slice e0)) (hu : P.underlying e0 = some (.int .u8)) (ho : o.op = .convert s d x) (he : opA tm h nx (.cs e0 x') = some e) :
    OpOk P I M nx w (execOp a.eval o) e true := by
  simp only [opA] at he
  have hrx := opd_ok ht hx
  split at he
  · rename_i b hxv
    rw [hxv] at hrx
    simp only [Option.some.injEq] at he
    subst he
    have hrun := Lib.run_convert_string_bytes (P := P) w s d e0 b hs' hd hu
    let es : List (List AV) := b.data.toList.map fun c => [AV.int .u8 c.toNat]
    have hesl : es.length = b.size := by simp [es]
    have hall : All2 (Rp I M0 w.drew) es.flatten (b.data.toList.map fun c => Value.int .u8 c.toNat) := by
      simp only [es, bytes_flat]
      generalize b.data.toList = l
      induction l with
      | nil => exact .nil
      | cons c l ih => exact .cons (.int _ _) ih
    have hcap : b.size ≤ grownCap w b.size 0 e0 := grownCap_ge w b.size 0 e0
    have hcs : (Lib.bytesCells w e0 b).size = grownCap w b.size 0 e0 := by
      have : b.data.size = b.size := rfl
      simp [Lib.bytesCells, -ByteArray.size_data]
      omega
    obtain ⟨k1, k2, k3, k4⟩ := row_ok2 (sz := 1) (es := es) hs.drew e0 e0 (arr := Lib.bytesCells w e0 b) (us := b.data.toList.map fun c => Value.int .u8 c.toNat)
      (rest := List.replicate (grownCap w b.size 0 e0 - b.size) (.int .u8 0)) (by simp [Lib.bytesCells]) (by simp [es]) hall (grownCap w b.size 0 e0) (by rw [hesl]; exact hcap)
      (by rw [hcs]; omega)
    have hold : ∀ j, j ≠ w.heap.size → (Lib.bytesWorld w e0 b).heap[j]? = (w.drew.alloc (.cells (Lib.bytesCells w e0 b) e0)).heap[j]? := fun j hj => by
      rcases Nat.lt_or_gt_of_ne hj with hj | hj
      · rw [Lib.bytesWorld_at_old w e0 b j hj]
        exact (RowKit.Below.heap_alloc w.drew (.cells (Lib.bytesCells w e0 b) e0) j hj).symm
      · rw [Array.getElem?_eq_none (by rw [Lib.bytesWorld_size]; omega), Array.getElem?_eq_none (by show (w.heap.push _).size ≤ j; simp; omega)]
    obtain ⟨r1, r2⟩ := refreeze (w' := Lib.bytesWorld w e0 b) k2 (rb := w.heap.size) (arr := Lib.bytesCells w e0 b) (t := e0) (fr := (0, 0)) (fr' := ((Lib.bytesCells w e0 b).size, (Lib.bytesCells w e0 b).size + 1))
      ⟨nx, 0, by simp⟩ (by show (w.heap.push _)[_]? = _; simp) (Lib.bytesWorld_at_new w e0 b) (.inr (Nat.le_refl _)) hold rfl rfl rfl (by rw [Lib.bytesWorld_size]; show _ = (w.heap.push _).size; simp)
    refine ⟨.value (.slice (some ⟨w.heap.size, 0, none⟩) b.size (grownCap w b.size 0 e0)), _, Lib.bytesWorld w e0 b, I, _, ?_, .val _, (Ev.drew.trans k1).trans r1, r2, ?_, fun _ => ?_⟩
    · simp only [execOp, ho, st_inv hrx, Sem.run_bind, hrun]
      rfl
    · have := k2.rpV r1 k3
      rw [hesl] at this
      exact this
    · exact ⟨fun j hj => Lib.bytesWorld_at_old w e0 b j hj, k4.2.1, k4.2.2⟩
  · simp at he

theorem elems_slice (hs : SimH I M h nx w) {sz : Nat} {c : AV} {v : Value} {es : List (List AV)} (he : elems h sz c = some es) (hns : ∀ s, c ≠ .st s) (hr : RpV I M w c v) :
    ∃ A cap, v = .slice A es.length cap := by
  have hl := (elems_ok (P := default) hs he hr).2.2
  have hv : ∃ A n cap, v = .slice A n cap := by
    cases c <;> simp only [elems] at he <;> first | (cases he; done) | skip
    case st s => exact absurd rfl (hns s)
    case ns => cases (show Rp I M w .ns v from hr); exact ⟨_, _, _, rfl⟩
    case ez => cases (show Rp I M w .ez v from hr); exact ⟨_, _, _, rfl⟩
    case ls sz' es' => cases (show Rp I M w (.ls sz' es') v from hr) <;> exact ⟨_, _, _, rfl⟩
    case sl sz' b lo len =>
      cases hk : blk h b with
      | dd => rw [hk] at he; simp at he
      | mp es => rw [hk] at he; simp at he
      | rw v0 sz'' es' t =>
        obtain ⟨rb, oo, arr, t', lo', hi', g1, _⟩ := (blk_rw hs hk).row
        obtain ⟨ad, cap, _, _, hv, _⟩ := sl_inv hr g1
        exact ⟨_, _, _, hv⟩
  obtain ⟨A, n, cap, rfl⟩ := hv
  simp only [Builtin.lenOf, Sem.run_pure, Result.ok.injEq, and_true] at hl
  subst hl
  exact ⟨A, cap, rfl⟩

theorem byteA_inv {e : List AV} {c : UInt8} (h : byteA e = some c) : ∃ n, e = [.int .u8 n] ∧ c = UInt8.ofNat n.toNat := by
  unfold byteA at h
  split at h
  · injection h with h; exact ⟨_, rfl, h.symm⟩
  · simp at h
theorem bytes_vals : ∀ {es : List (List AV)} {l : List UInt8} {us : List Value}, es.mapM byteA = some l → All2 (Rp I M w) es.flatten us →
    ∃ ns : List Int, us = ns.map (Value.int .u8) ∧ l = ns.map (fun n => UInt8.ofNat n.toNat)
  | [], l, us, hm, h2 => by
    simp at hm; subst hm
    cases h2
    exact ⟨[], rfl, rfl⟩
  | e :: es, l, us, hm, h2 => by
    obtain ⟨c, l', h1, h3, rfl⟩ := mapM_cons_some hm
    obtain ⟨n, rfl, rfl⟩ := byteA_inv h1
    cases h2 with
    | cons h4 h5 =>
      obtain ⟨ns, rfl, rfl⟩ := bytes_vals h3 h5
      cases h4
      exact ⟨n :: ns, rfl, rfl⟩
theorem push_all : ∀ (ns : List Int) (s : ByteArray), ns.foldl (fun r n => r.push (UInt8.ofNat n.toNat)) s = ⟨s.data ++ (ns.map fun n => UInt8.ofNat n.toNat).toArray⟩
  | [], s => by simp
  | n :: ns, s => by
    rw [List.foldl_cons, push_all ns]
    simp [ByteArray.push]

theorem ok_cb {s d e0 : TypeId} {x : Operand} {x' : Opd} {e : Ef} (ht : SimT I M tm nt a.tmps w) (hs : SimH I M h nx w) (hx : ofOpd x = some x')
    (hs' : P.underlying s = some (.slice e0)) (hd : P.underlying d = some .string) (hu : P.underlying e0 = some (.int .u8)) (ho : o.op = .convert s d x) (he : opA tm h nx (.cb x') = some e) :
    OpOk P I M nx w (execOp a.eval o) e true := by
  simp only [opA] at he
  have hrx := opd_ok ht hx
  split at he
  · simp at he
  · rename_i hns
    simp only [Option.bind_eq_some_iff, one, Option.some.injEq] at he
    obtain ⟨es, hes, l, hl, rfl⟩ := he
    obtain ⟨A, cap, hv⟩ := elems_slice hs hes (fun s hs => hns s hs) hrx
    obtain ⟨hsz, ⟨us, h2, hul, hf⟩, _⟩ := elems_ok (P := P) hs hes hrx
    obtain ⟨ns, rfl, rfl⟩ := bytes_vals hl h2
    refine OpOk.pure hs (v := .string ⟨(ns.map fun n : Int => UInt8.ofNat n.toNat).toArray⟩) ?_ (show Rp I M w _ _ from .st _)
    rw [hv] at hf
    simp only [execOp, ho, hv, Sem.run_bind, run_convert_bytes_string (P := P) w s d e0 A es.length cap hs' hu hd]
    cases A with
    | none =>
      simp only [Builtin.firstCells, Sem.run_pure, Result.ok.injEq, and_true] at hf
      have : ns = [] := by
        have := congrArg Array.toList hf
        simpa using this.symm
      subst this
      simp [Conv.bytesToString, ByteArray.empty, ByteArray.emptyWithCapacity]
      rfl
    | some ad =>
      simp only [Builtin.firstCells, Nat.mul_one] at hf
      rw [run_bytesToString w ad es.length cap ns hf, push_all]
      simp [ByteArray.empty, ByteArray.emptyWithCapacity]
      rfl
end
end Go.Am
set_option linter.unusedSimpArgs false
set_option linter.unusedVariables false
namespace Go.Am
section
variable {P : Program} {I : Nat → Prop} {M : MU} {w : World} {h : List (Nat × BK)} {nx nt : Nat} {tm : List (Nat × AV)} {a : Act} {o : Oper}

theorem ok_cvs {s d : TypeId} {x : Operand} {y : Opd} {e : Ef} (ht : SimT I M tm nt a.tmps w) (hs : SimH I M h nx w) (hx : ofOpd x = some y)
    (h1 : P.underlying s = some .string) (h2 : P.underlying d = some .string) (ho : o.op = .convert s d x)
    (he : opA tm h nx (.cv1 y) = some e) : OpOk P I M nx w (execOp a.eval o) e true := by
  have hv := opd_ok ht hx
  simp only [opA] at he
  split at he
  · rename_i s0 hr
    simp only [one, Option.some.injEq] at he
    subst he
    rw [hr] at hv
    refine OpOk.pure hs (v := .string s0) ?_ (.st _)
    simp only [execOp, ho, st_inv hv, convert, Sem.run_bind, run_underlying h1, run_underlying h2, Result.andThen_ok]
    rfl
  · simp at he

theorem ofOpt_ok {x : Option Operand} {y : Option Opd} (h : ofOpt x = some y) : OptR x y := by
  cases x with
  | none => simp [ofOpt] at h; subst h; exact .none
  | some x => simp [ofOpt] at h; obtain ⟨z, hz, rfl⟩ := h; exact .some hz

theorem elemT_some {t e : TypeId} (h : elemT P t = some e) : P.underlying t = some (.slice e) := by
  simp only [elemT, Option.bind_eq_bind, Option.bind_eq_some_iff] at h
  obtain ⟨d, hd, h⟩ := h
  split at h
  · injection h with h; subst h; exact hd
  · simp at h

theorem nilCmp_some {neg : Bool} {d : TypeDesc} {x y : Operand} {c : COp} (h : nilCmp neg d x y = some c) : ∃ k x', nilKind d y = some k ∧ ofOpd x = some x' ∧ c = .nq neg k x' := by
  unfold nilCmp at h
  split at h
  · rename_i k hk
    simp only [Option.map_eq_some_iff] at h
    obtain ⟨x', hx, rfl⟩ := h
    exact ⟨k, x', hk, hx, rfl⟩
  · simp at h

theorem opA0_ok {c : COp} {e : Ef} (ht : SimT I M tm nt a.tmps w) (hs : SimH I M h nx w) (hc : compOp0 P o = some c) (he : opA tm h nx c = some e) :
    OpOk P I M nx w (execOp a.eval o) e (qOp tm c) := by
  unfold compOp0 at hc
  split at hc <;> (try simp only [Option.bind_eq_bind, Option.bind_eq_some_iff, Option.some.injEq, Option.ite_none_right_eq_some] at hc)
  · rename_i x ho
    obtain ⟨y, hy, rfl⟩ := hc
    exact ok_mv ht hs hy (.inl ho) he
  · rename_i x ho
    obtain ⟨y, hy, rfl⟩ := hc
    exact ok_mv ht hs hy (.inr ho) he
  · rename_i c0 x y ho
    obtain ⟨c', hc', x', hx, y', hy, rfl⟩ := hc
    exact ok_pk ht hs hc' hx hy ho he
  · rename_i t ho
    obtain ⟨z, hz, rfl⟩ := hc
    exact ok_al hs hz ho he
  · rename_i t x ho
    obtain ⟨y, hy, rfl⟩ := hc
    exact ok_bx ht hs hy ho he
  · rename_i t ps ho
    obtain ⟨z, hz, d, hd, hc⟩ := hc
    split at hc
    · rename_i fs
      simp only [Option.bind_eq_some_iff, Option.some.injEq] at hc
      obtain ⟨places, hp, l, hl, rfl⟩ := hc
      refine ok_bd ht hs hz (.inl ⟨fs, places, hd, hp, (mapM_all2 hl).mono fun p q hq => ?_⟩) ho he
      simp only [Option.bind_eq_some_iff, Option.some.injEq] at hq
      obtain ⟨r, hr, x, hx, rfl⟩ := hq
      exact ⟨hr, hx⟩
    · rename_i n et
      simp only [Option.bind_eq_some_iff, Option.some.injEq] at hc
      obtain ⟨ie, hie, l, hl, rfl⟩ := hc
      refine ok_bd ht hs hz (.inr ⟨n, et, ie, hd, hie, (mapM_all2 hl).mono fun p q hq => ?_⟩) ho he
      simp only [Option.bind_eq_some_iff, Option.some.injEq] at hq
      obtain ⟨x, hx, rfl⟩ := hq
      exact ⟨rfl, hx⟩
    · simp at hc
  · rename_i t len ps ho
    obtain ⟨et, het, l, hl, z, hz, hlim, rfl⟩ := hc
    refine ok_bs ht hs (elemT_some het) hz ((mapM_all2 hl).mono fun p q hq => ?_) hlim ho he _ ?_
    · simp only [Option.bind_eq_some_iff, Option.ite_none_right_eq_some, Option.some.injEq] at hq
      obtain ⟨x, hx, hlt, rfl⟩ := hq
      exact ⟨rfl, hlt, hx⟩
    · simp [qOp]
  · rename_i t x ho
    obtain ⟨n, hn, y, hy, rfl⟩ := hc
    exact ok_ld ht hs hy hn ho he
  · rename_i t x y ho
    obtain ⟨hi, x', hx, y', hy, rfl⟩ := hc
    exact ok_sr ht hs hx hy hi ho he
  · rename_i x ho
    obtain ⟨y, hy, rfl⟩ := hc
    exact ok_nc ht hs hy ho he
  · rename_i op t x y t2 ho
    obtain ⟨d, hd, hc⟩ := hc
    split at hc <;> first
      | (simp only [Option.bind_eq_some_iff, Option.some.injEq] at hc
         obtain ⟨ks, hks, x', hx, y', hy, rfl⟩ := hc
         first
           | exact ok_ea (neg := false) ht hs hx hy hks ho he
           | exact ok_ea (neg := true) ht hs hx hy hks ho he)
      | (simp only [Option.bind_eq_some_iff, Option.some.injEq] at hc
         obtain ⟨x', hx, y', hy, rfl⟩ := hc
         first
           | exact ok_eb (neg := false) ht hs hx hy hd ho he
           | exact ok_eb (neg := true) ht hs hx hy hd ho he
           | exact ok_bn ht hs hx hy ho he)
      | (obtain ⟨k, x', hk, hx, rfl⟩ := nilCmp_some hc
         first
           | exact ok_nq (neg := false) ht hs hx hd hk ho he
           | exact ok_nq (neg := true) ht hs hx hd hk ho he)
      | (simp at hc; done)
  · rename_i op t x ho
    obtain ⟨y, hy, rfl⟩ := hc
    exact ok_un ht hs hy ho he
  · rename_i s d x ho
    obtain ⟨ds, hds, dd, hdd, hc⟩ := hc
    split at hc
    · simp only [Option.bind_eq_some_iff, Option.some.injEq] at hc
      obtain ⟨y, hy, rfl⟩ := hc
      exact ok_ci ht hs hy hds hdd ho he
    · simp only [Option.bind_eq_some_iff, Option.some.injEq] at hc
      obtain ⟨y, hy, rfl⟩ := hc
      exact ok_cvs ht hs hy hds hdd ho he
    · rename_i e0
      simp only [Option.bind_eq_some_iff] at hc
      obtain ⟨ue, hue, hc⟩ := hc
      split at hc
      · simp only [Option.bind_eq_some_iff, Option.some.injEq] at hc
        obtain ⟨y, hy, rfl⟩ := hc
        exact ok_cb ht hs hy hds hdd hue ho he
      · simp at hc
    · rename_i e0
      simp only [Option.bind_eq_some_iff] at hc
      obtain ⟨ue, hue, hc⟩ := hc
      split at hc
      · simp only [Option.ite_none_right_eq_some, Option.bind_eq_some_iff, Option.some.injEq] at hc
        obtain ⟨_, y, hy, rfl⟩ := hc
        exact ok_cs ht hs hy hds hdd hue ho he
      · simp at hc
    · simp at hc
  · rename_i t x f ho
    obtain ⟨d, hd, hc⟩ := hc
    split at hc
    · simp only [Option.bind_eq_some_iff, Option.some.injEq, Option.ite_none_left_eq_some] at hc
      obtain ⟨g, hg, hz, y, hy, rfl⟩ := hc
      exact ok_fa ht hs hy hd hg hz ho he
    · simp at hc
  · rename_i t x f ho
    obtain ⟨d, hd, hc⟩ := hc
    split at hc
    · simp only [Option.bind_eq_some_iff, Option.some.injEq] at hc
      obtain ⟨g, hg, n, hn, y, hy, rfl⟩ := hc
      exact ok_fd ht hs hy hd hg hn ho he
    · simp at hc
  · rename_i t x i ho
    obtain ⟨d, hd, hc⟩ := hc
    split at hc <;> first
      | (simp only [Option.bind_eq_some_iff, Option.some.injEq, Option.ite_none_right_eq_some] at hc
         obtain ⟨hi, x', hx, y', hy, rfl⟩ := hc
         first
           | exact ok_ia_arr ht hs hx hy hd (Option.isSome_iff_exists.1 hi) ho he
           | exact ok_ia ht hs hx hy hd (Option.isSome_iff_exists.1 hi) ho he)
      | (simp at hc; done)
  · rename_i t x i ho
    obtain ⟨d, hd, hc⟩ := hc
    split at hc
    · simp only [Option.bind_eq_some_iff, Option.some.injEq, Option.ite_none_left_eq_some] at hc
      obtain ⟨n, hn, hone, x', hx, y', hy, rfl⟩ := hc
      refine ok_ix ht hs hx hy hd hn (fun h0 => ?_) ho he
      exact Classical.byContradiction fun h1 => hone ⟨h0, h1⟩
    · simp only [Option.bind_eq_some_iff, Option.some.injEq] at hc
      obtain ⟨x', hx, y', hy, rfl⟩ := hc
      exact ok_si ht hs hx hy hd ho he
    · simp at hc
  · rename_i t x lo hi mx ho
    obtain ⟨lo', hlo, hi', hhi, mx', hmx, d, hd, hc⟩ := hc
    split at hc
    · simp only [Option.bind_eq_some_iff, Option.some.injEq, Option.ite_none_left_eq_some] at hc
      obtain ⟨hm, x', hx, rfl⟩ := hc
      have hm2 := ofOpt_ok hmx
      cases hm2 with
      | some _ => simp at hm
      | none => exact ok_ss ht hs hx (ofOpt_ok hlo) (ofOpt_ok hhi) hd ho he
    · rename_i et
      simp only [Option.bind_eq_some_iff, Option.some.injEq, Option.ite_none_left_eq_some] at hc
      obtain ⟨hm, x', hx, rfl⟩ := hc
      simp only [Bool.or_eq_true, Bool.and_eq_true, not_or, not_and, Option.isNone_iff_eq_none] at hm
      have hm2 := ofOpt_ok hmx
      have hh2 := ofOpt_ok hhi
      refine ok_sc ht hs hx (ofOpt_ok hlo) hh2 hm2 (fun h0 => ?_) hd (Option.ne_none_iff_exists'.1 hm.2) ho he
      cases hm2 with
      | none => simp at h0
      | some _ => cases hh2 with
        | some _ => rfl
        | none => exact absurd rfl (hm.1 rfl)
    · simp at hc
  · rename_i t l c0 ho
    obtain ⟨et, het, z, hz, x', hx, y', hy, rfl⟩ := hc
    exact ok_mk ht hs hx hy (elemT_some het) hz ho he
  · rename_i f first caps ho
    split at hc
    · rename_i h0
      split at hc
      · rename_i hb
        simp only [Option.bind_eq_some_iff, Option.some.injEq] at hc
        obtain ⟨cs, hcs, rfl⟩ := hc
        exact ok_mf ht hs h0 hb hcs ho he
      · simp at hc
    · simp only [Option.ite_none_right_eq_some, Option.bind_eq_some_iff, Option.some.injEq] at hc
      obtain ⟨h0, cs, hcs, rfl⟩ := hc
      exact ok_mfB ht hs h0 hcs ho he
  · rename_i x i ho
    obtain ⟨y, hy, rfl⟩ := hc
    exact ok_ex ht hs hy ho he
  · rename_i t ho
    subst hc
    exact ok_mm hs ho he
  · rename_i t x i ok ho
    obtain ⟨d, hd, hc⟩ := hc
    split at hc
    · simp only [Option.bind_eq_some_iff, Option.some.injEq] at hc
      obtain ⟨s, hks, z, hz, x', hx, y', hy, rfl⟩ := hc
      exact ok_lk ht hs hx hy hd hks hz ho he
    · simp at hc
  · rename_i t m k v ho
    obtain ⟨d, hd, hc⟩ := hc
    split at hc
    · simp only [Option.bind_eq_some_iff, Option.some.injEq] at hc
      obtain ⟨s, hks, x', hx, y', hy, z', hz, rfl⟩ := hc
      exact ok_mu ht hs hx hy hz hd hks (.inl ho) he
    · simp at hc
  · rename_i t m k v ho
    obtain ⟨d, hd, hc⟩ := hc
    split at hc
    · simp only [Option.bind_eq_some_iff, Option.some.injEq] at hc
      obtain ⟨s, hks, x', hx, y', hy, z', hz, rfl⟩ := hc
      exact ok_mu ht hs hx hy hz hd hks (.inr ho) he
    · simp at hc
  · rename_i c0 ho
    obtain ⟨as, has, hc⟩ := hc
    split at hc
    · injection hc with hc; subst hc; simp [opA] at he
    · simp only [Option.bind_eq_some_iff, Option.some.injEq] at hc
      obtain ⟨y, hy, rfl⟩ := hc
      simp [opA] at he
    · rename_i x' hcal
      simp only [Option.bind_eq_some_iff, Option.some.injEq] at hc
      obtain ⟨t, ht0, d, hd, hc⟩ := hc
      have h2 := mapM_all2 has
      generalize hargs : c0.args.toList = al at h2
      cases h2 with
      | @cons x _ _ _ hx h3 =>
        cases h3
        have hc2 : c0.args = #[x] := by apply Array.toList_inj.1; rw [hargs]
        split at hc <;> first
          | (injection hc with hc; subst hc; first
              | exact ok_le ht hs hx hcal hc2 ht0 hd (.inl ⟨rfl, rfl⟩) ho he
              | exact ok_le ht hs hx hcal hc2 ht0 hd (.inr (.inl ⟨rfl, _, rfl⟩)) ho he
              | exact ok_le ht hs hx hcal hc2 ht0 hd (.inr (.inr ⟨rfl, _, _, rfl⟩)) ho he)
          | (simp at hc; done)
    · rename_i x' y' hcal
      have h2 := mapM_all2 has
      generalize hargs : c0.args.toList = al at h2
      cases h2 with
      | @cons x _ _ _ hx h3 =>
        cases h3 with
        | @cons y _ _ _ hy h4 =>
          cases h4
          have hc2 : c0.args = #[x, y] := by apply Array.toList_inj.1; rw [hargs]
          split at hc
          · rename_i t0 t1 hat
            have hc3 : c0.argTypes = #[t0, t1] := by apply Array.toList_inj.1; rw [hat]
            simp only [Option.bind_eq_some_iff, Option.some.injEq] at hc
            obtain ⟨et, het, d1, hd1, hc⟩ := hc
            split at hc
            · simp at hc
            · rename_i hni
              simp only [Option.bind_eq_some_iff, Option.some.injEq] at hc
              obtain ⟨z, hz, rfl⟩ := hc
              exact ok_ap ht hs hx hy hcal hc2 hc3 (elemT_some het) hd1 (fun k hk => hni k hk) hz ho he
          · simp at hc
    · rename_i x' k' hcal
      have h2 := mapM_all2 has
      generalize hargs : c0.args.toList = al at h2
      cases h2 with
      | @cons x _ _ _ hx h3 =>
        cases h3 with
        | @cons y _ _ _ hy h4 =>
          cases h4
          have hc2 : c0.args = #[x, y] := by apply Array.toList_inj.1; rw [hargs]
          simp only [Option.bind_eq_some_iff] at hc
          obtain ⟨t, ht0, d, hd, hc⟩ := hc
          split at hc
          · rename_i kt et
            simp only [Option.bind_eq_some_iff, Option.some.injEq] at hc
            obtain ⟨s, hks, rfl⟩ := hc
            exact ok_de ht hs hx hy hcal hc2 ht0 hd hks ho he
          · simp at hc
    · rename_i hcal
      injection hc with hc; subst hc
      exact ok_mx ht hs has hcal ho he
    · rename_i hcal
      injection hc with hc; subst hc
      exact ok_mn ht hs has hcal ho he
    · simp at hc
  · simp at hc
theorem compOp_cases {o : Oper} {c : COp} (h : compOp P o = some c) : compOp0 P o = some c ∨ c = .bad := by
  simp only [compOp, Option.some.injEq] at h
  cases h0 : compOp0 P o with
  | none => rw [h0] at h; exact .inr h.symm
  | some d => rw [h0] at h; exact .inl (by rw [← h]; rfl)
theorem opA_ok {c : COp} {e : Ef} (ht : SimT I M tm nt a.tmps w) (hs : SimH I M h nx w) (hc : compOp P o = some c) (he : opA tm h nx c = some e) :
    OpOk P I M nx w (execOp a.eval o) e (qOp tm c) := by
  rcases compOp_cases hc with h1 | rfl
  · exact opA0_ok ht hs h1 he
  · simp [opA] at he
end
end Go.Am
